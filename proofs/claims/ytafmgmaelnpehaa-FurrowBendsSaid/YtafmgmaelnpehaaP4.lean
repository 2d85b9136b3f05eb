/- Parts of the proof: Furrows in plain words: what can be is what some truth has; a way to compute it. Written by a program over the program's translation: functions' own Lean functions, and that the code comes to their answers. The document's furrow F: what can be said of it, computed. Which furrows a statement does not go through. The contracts of chapter 4's functions, over what a valid furrow is. The chapter's examples hold. -/
import Derived.Test.YtafmgmaelnpehaaProg
import Derived.Test.YtafmgmaelnpehaaP2
import Derived.WalkKit
import Derived.WalkSpells
import Derived.WalkLawsBesides
import Derived.Outline
import Derived.OwnWalkIn
import Derived.TacticsInMore
import Derived.LoopNIn
import Derived.LoopIn
import Derived.Shelf.RegionOpen
import Derived.Deep.QuietTactic
import Derived.BigQuiet
import Derived.Test.YtafmgmaelnpehaaP3
import Derived.Maps.OwnIn
import Derived.Lib.Hide
import Derived.Test.YtafmgmaelnpehaaP1
section
set_option linter.unusedVariables false
set_option linter.unusedSimpArgs false
namespace Go.Proofs.Ytafmgmaelnpehaa
open Go.RowKit Go.TL Go.Shelf Go.Fu
attribute [local go_sem] Oper.semAt_some
open PFurrowAsks







section
variable {P : Program} {md : Region.Mode} {ops : Array Oper} {Q : Exit → Act → World → Prop} {S : World → Prop} {o : Oper} {fuel : Nat} {listed : Array Bool} {a : Act} {w : World}
theorem held_val (i : Nat) (v : Value) (hi : ops[i]? = some o) (hr : Region.ready md ops listed = [i]) (hw : Region.wanted o (yielded ops a.tmps) = true) (he : (execOp a.eval o).run P w = .ok (.value v) w) (hS : S w)
    (h : wpAnyH P md ops Q S fuel (listed.setIfInBounds i true) (a.put o.dst v) w) : wpAnyH P md ops Q S (fuel + 1) listed a w := by
  refine wpAnyH_all hr (by simp) fun j hj => ?_
  obtain rfl : j = i := by simpa using hj
  unfold wpOp
  simp only [hi, hw, if_true]
  left
  unfold Oper.wp
  rw [he]
  exact ⟨hS, h⟩
theorem held_skip (i : Nat) (w' : World) (hi : ops[i]? = some o) (hr : Region.ready md ops listed = [i]) (hw : Region.wanted o (yielded ops a.tmps) = true) (he : (execOp a.eval o).run P w = .ok .skip w') (hS : S w')
    (h : wpAnyH P md ops Q S fuel (listed.setIfInBounds i true) (a.put o.dst undef) w') : wpAnyH P md ops Q S (fuel + 1) listed a w := by
  refine wpAnyH_all hr (by simp) fun j hj => ?_
  obtain rfl : j = i := by simpa using hj
  unfold wpOp
  simp only [hi, hw, if_true]
  left
  unfold Oper.wp
  rw [he]
  exact ⟨hS, h⟩
end
theorem box2_set1 {W : World} {b : Nat} {t : TypeId} {x y : Int} (h : Box2 W b t x y) (v : Int) : Box2 (W.setCell ⟨b, 1, none⟩ (.int .i64 v)) b t x v := by (simp only [Boxed, Box2, heap_alloc_at, heap_set_at, World.size_alloc, World.size_setCell]; repeat (first | rfl | exact h | rw [if_pos (by omega)] | rw [if_neg (by omega)] | rw [show _ = _ from h]))
/-- Sums of the first k. -/
def sumL (l : List (Int × Int)) : Nat → Int × Int
  | 0 => (0, 0)
  | k + 1 => ((sumL l k).1 + (l.getD k (0, 0)).1, (sumL l k).2 + (l.getD k (0, 0)).2)
theorem sum_bd (l : List (Int × Int)) (hb : ∀ x ∈ l, (-1000000 ≤ x.1 ∧ x.1 ≤ 1000000) ∧ (-1000000 ≤ x.2 ∧ x.2 ≤ 1000000)) : ∀ k, k ≤ l.length → (-1000000 * (k : Int) ≤ (sumL l k).1 ∧ (sumL l k).1 ≤ 1000000 * (k : Int)) ∧ (-1000000 * (k : Int) ≤ (sumL l k).2 ∧ (sumL l k).2 ≤ 1000000 * (k : Int))
  | 0, _ => by simp [sumL]
  | k + 1, h => by
    have h1 := sum_bd l hb k (by omega)
    have h2 := hb _ (getD_mem l k (by omega))
    simp only [sumL]
    omega
def SumI (l : List (Int × Int)) (A : Option Addr) (c : Nat) (w : World) (j : Nat) (t : Array Value) (W : World) : Prop :=
  ∃ k : Nat, k ≤ l.length ∧ j = l.length - k ∧ Box2 W w.heap.size 28 (sumL l k).1 (sumL l k).2 ∧ Below w.heap.size w W ∧ Slots [none, none, some (.pointer (some ⟨w.heap.size, 0, none⟩)), none, none, some (.slice A l.length c), some (.int .i64 l.length), some (.int .i64 k), none, none, none, none, none, none, none, none, none, none, none, none, none, none, none, none, none] t
set_option maxRecDepth 100000 in
set_option maxHeartbeats 600000 in
theorem sum_any (A : Option Addr) (c : Nat) (l : List (Int × Int)) (hl : l.length ≤ 40) (hb : ∀ x ∈ l, (-1000000 ≤ x.1 ∧ x.1 ≤ 1000000) ∧ (-1000000 ≤ x.2 ∧ x.2 ≤ 1000000)) (w : World) (hf : Spans w A l) :
    Calls Try.prog 73 #[.slice A l.length c] w fun e w' => e = .returned (.agg #[.int .i64 (sumL l l.length).1, .int .i64 (sumL l l.length).2]) ∧ Below w.heap.size w w' := by
  refine calls_of_exec Try.func73 rfl ?_
  simp only [Try.ntmps73, List.size_toArray, List.length_cons, List.length_nil, Nat.reduceAdd, Nat.reduceSub, Array.replicate_succ, Array.replicate_zero, List.push_toArray, List.append_toArray, List.nil_append, List.cons_append]
  refine exec_seq (exec_region_o fun ds => ?_)
  gi_wp2
  refine eq_mk ((Keep.refl w).alloc _) ?_
  show Exec _ _ _ _ _ _
  have hB := (Below.refl w.heap.size w).alloc (Nat.le_refl _) (.cells #[.int .i64 0, .int .i64 0] 28)
  have hX := Box2.new w 28 0 0
  generalize w.alloc (.cells #[.int .i64 0, .int .i64 0] 28) = W at *
  refine exec_seq (exec_seq (exec_region_o fun ds => ?_))
  gi_wp2
  refine eq_mk (Keep.refl _) ?_
  show Exec _ _ _ _ _ _
  refine exec_block ?_
  refine exec_loop (SumI l A c w) l.length ⟨0, by omega, by omega, hX, hB, by simp [Slots, Fits]⟩ ?_
  clear hX hB
  clear W
  rintro j t W ⟨k, hk, hj, hX, hB, hSl⟩
  obtain ⟨x, hx⟩ := Slots.open_ hSl; simp only [fill, Nat.reduceAdd] at hx; subst hx; clear hSl
  refine exec_seq (exec_region_o fun ds => ?_)
  gi_wp2
  refine eq_mk (Keep.refl _) ?_
  show Exec _ _ _ _ _ _
  refine exec_seq (exec_cond (b := decide (k < l.length)) rfl (fun hp => ?_) (fun hp => ?_))
  · have hkl : k < l.length := of_decide_eq_true hp
    obtain ⟨g, off, rfl, hc⟩ := hf.at_ (by omega)
    have hg : g < w.heap.size := World.block_lt_of_cell? w _ (hc 0 (by omega)).1
    have hgd : l.getD k (0, 0) = l[k]'hkl := by simp [List.getD_eq_getElem?_getD, hkl]
    have k0 := hB.cell (p := ⟨g, off + k * 2, none⟩) hg
    have k1 := hB.cell (p := ⟨g, off + k * 2 + 1, none⟩) hg
    rw [(hc k hkl).1] at k0
    rw [(hc k hkl).2] at k1
    have hbk := hb _ (List.getElem_mem hkl)
    have hsb := sum_bd l hb k hk
    have hS1 : sumL l (k + 1) = ((sumL l k).1 + (l.getD k (0, 0)).1, (sumL l k).2 + (l.getD k (0, 0)).2) := rfl
    rw [hgd] at hS1
    generalize l[k]'hkl = y at *
    generalize sumL l k = s0 at *
    obtain ⟨y0, y1⟩ := y
    obtain ⟨s00, s01⟩ := s0
    simp only at *
    have hkI : (k : Int) < l.length := by omega
    clear hc
    refine exec_skip ?_
    show Exec _ _ _ _ _ _
    refine exec_seq (exec_block (exec_seq (exec_region_o fun ds => ?_)))
    gi_wp2
    refine eq_mk ((Keep.refl _).alloc _) ?_
    show Exec _ _ _ _ _ _
    have b4 := Box2.new W 28 y0 y1
    have g0 := (Grow.alloc 0 W (.cells #[.int .i64 y0, .int .i64 y1] 28)).box2 hX
    have hB1 := hB.alloc hB.size (.cells #[.int .i64 y0, .int .i64 y1] 28)
    have hlt := hX.lt
    clear hX hB k0 k1
    generalize W.alloc (.cells #[.int .i64 y0, .int .i64 y1] 28) = V at *
    generalize W.heap.size = q4 at *
    clear W
    have hw0 : IntKind.i64.wrap (s00 + y0) = s00 + y0 := IntWalk.i64_in _ (by omega)
    have hw1 : IntKind.i64.wrap (s01 + y1) = s01 + y1 := IntWalk.i64_in _ (by omega)
    refine region_of_tail 12 (by kernel_rfl) (by kernel_rfl) (by kernel_rfl) (fun W' => W'.cell? ⟨q4, 0, none⟩ = some (.int .i64 y0) ∧ W'.cell? ⟨q4, 1, none⟩ = some (.int .i64 y1) ∧ W'.cell? ⟨w.heap.size, 1, none⟩ = some (.int .i64 s01) ∧ ∃ u, W'.cell? ⟨w.heap.size, 0, none⟩ = some u)
      (fun _ _ _ => False) (fun _ _ _ h => h.elim) fun ds => ?_
    have f0 := g0.cell0
    have f1 := g0.cell1
    have ff := g0.frozen
    have e0 := b4.cell0
    have e1 := b4.cell1
    have hS : V.drew.cell? ⟨q4, 0, none⟩ = some (.int .i64 y0) ∧ V.drew.cell? ⟨q4, 1, none⟩ = some (.int .i64 y1) ∧ V.drew.cell? ⟨w.heap.size, 1, none⟩ = some (.int .i64 s01) ∧ ∃ u, V.drew.cell? ⟨w.heap.size, 0, none⟩ = some u := ⟨e0, e1, f1, _, f0⟩
    have hq0 : ∀ W' : World, (∃ u, W'.cell? ⟨w.heap.size, 0, none⟩ = some u) → (W'.cell? ⟨w.heap.size, 0, none⟩).isSome = true := fun W' ⟨u, hu⟩ => by rw [hu]; rfl
    simp only [List.take_succ_cons, List.take_zero, List.drop_succ_cons, List.drop_zero]
    refine held_take 0 (.pointer (some ⟨w.heap.size, 0, none⟩)) rfl (by kernel_rfl) (by kernel_rfl) (by kernel_rfl) (by intro _ _ _ h; first | exact h | (simpa [behind, Act.put] using h)) rfl (by first | exact hS | assumption) (fun wq hq => ?_) ?_; (focus (simp [go_sem, hq.1, hq.2.1, hq.2.2.1]; done)); simp only [Act.put, Array.getInternal_eq_getElem, List.getElem_toArray, List.getElem_cons_succ, List.getElem_cons_zero, List.setIfInBounds_toArray, List.set_cons_succ, List.set_cons_zero]
    refine held_take 2 (.pointer (some ⟨q4, 0, none⟩)) rfl (by kernel_rfl) (by kernel_rfl) (by kernel_rfl) (by intro _ _ _ h; first | exact h | (simpa [behind, Act.put] using h)) rfl (by first | exact hS | assumption) (fun wq hq => ?_) ?_; (focus (simp [go_sem, hq.1, hq.2.1, hq.2.2.1]; done)); simp only [Act.put, Array.getInternal_eq_getElem, List.getElem_toArray, List.getElem_cons_succ, List.getElem_cons_zero, List.setIfInBounds_toArray, List.set_cons_succ, List.set_cons_zero]
    refine held_take 5 (.pointer (some ⟨w.heap.size, 1, none⟩)) rfl (by kernel_rfl) (by kernel_rfl) (by kernel_rfl) (by intro _ _ _ h; first | exact h | (simpa [behind, Act.put] using h)) rfl (by first | exact hS | assumption) (fun wq hq => ?_) ?_; (focus (simp [go_sem, hq.1, hq.2.1, hq.2.2.1]; done)); simp only [Act.put, Array.getInternal_eq_getElem, List.getElem_toArray, List.getElem_cons_succ, List.getElem_cons_zero, List.setIfInBounds_toArray, List.set_cons_succ, List.set_cons_zero]
    refine held_take 7 (.pointer (some ⟨q4, 1, none⟩)) rfl (by kernel_rfl) (by kernel_rfl) (by kernel_rfl) (by intro _ _ _ h; first | exact h | (simpa [behind, Act.put] using h)) rfl (by first | exact hS | assumption) (fun wq hq => ?_) ?_; (focus (simp [go_sem, hq.1, hq.2.1, hq.2.2.1]; done)); simp only [Act.put, Array.getInternal_eq_getElem, List.getElem_toArray, List.getElem_cons_succ, List.getElem_cons_zero, List.setIfInBounds_toArray, List.set_cons_succ, List.set_cons_zero]
    refine held_take 3 (.int .i64 y0) rfl (by kernel_rfl) (by kernel_rfl) (by kernel_rfl) (by intro _ _ _ h; first | exact h | (simpa [behind, Act.put] using h)) rfl (by first | exact hS | assumption) (fun wq hq => ?_) ?_; (focus (simp [go_sem, hq.1, hq.2.1, hq.2.2.1]; done)); simp only [Act.put, Array.getInternal_eq_getElem, List.getElem_toArray, List.getElem_cons_succ, List.getElem_cons_zero, List.setIfInBounds_toArray, List.set_cons_succ, List.set_cons_zero]
    refine held_take 6 (.int .i64 s01) rfl (by kernel_rfl) (by kernel_rfl) (by kernel_rfl) (by intro _ _ _ h; first | exact h | (simpa [behind, Act.put] using h)) rfl (by first | exact hS | assumption) (fun wq hq => ?_) ?_; (focus (simp [go_sem, hq.1, hq.2.1, hq.2.2.1]; done)); simp only [Act.put, Array.getInternal_eq_getElem, List.getElem_toArray, List.getElem_cons_succ, List.getElem_cons_zero, List.setIfInBounds_toArray, List.set_cons_succ, List.set_cons_zero]
    refine held_take 8 (.int .i64 y1) rfl (by kernel_rfl) (by kernel_rfl) (by kernel_rfl) (by intro _ _ _ h; first | exact h | (simpa [behind, Act.put] using h)) rfl (by first | exact hS | assumption) (fun wq hq => ?_) ?_; (focus (simp [go_sem, hq.1, hq.2.1, hq.2.2.1]; done)); simp only [Act.put, Array.getInternal_eq_getElem, List.getElem_toArray, List.getElem_cons_succ, List.getElem_cons_zero, List.setIfInBounds_toArray, List.set_cons_succ, List.set_cons_zero]
    refine held_take 9 (.int .i64 (s01 + y1)) rfl (by kernel_rfl) (by kernel_rfl) (by kernel_rfl) (by intro _ _ _ h; first | exact h | (simpa [behind, Act.put] using h)) rfl (by first | exact hS | assumption) (fun wq hq => ?_) ?_; (focus (simp [go_sem, hw1]; done)); simp only [Act.put, Array.getInternal_eq_getElem, List.getElem_toArray, List.getElem_cons_succ, List.getElem_cons_zero, List.setIfInBounds_toArray, List.set_cons_succ, List.set_cons_zero]
    refine held_val 1 (.int .i64 s00) rfl (by kernel_rfl) rfl (by simp [go_sem, f0]) hS ?_
    simp only [Act.put, Array.getInternal_eq_getElem, List.getElem_toArray, List.getElem_cons_succ, List.getElem_cons_zero, List.setIfInBounds_toArray, List.set_cons_succ, List.set_cons_zero]
    refine held_take 4 (.int .i64 (s00 + y0)) rfl (by kernel_rfl) (by kernel_rfl) (by kernel_rfl) (by intro _ _ _ h; first | exact h | (simpa [behind, Act.put] using h)) rfl (by first | exact hS | assumption) (fun wq hq => ?_) ?_; (focus (simp [go_sem, hw0]; done)); simp only [Act.put, Array.getInternal_eq_getElem, List.getElem_toArray, List.getElem_cons_succ, List.getElem_cons_zero, List.setIfInBounds_toArray, List.set_cons_succ, List.set_cons_zero]
    refine held_take 10 (.pointer (some ⟨w.heap.size, 0, none⟩)) rfl (by kernel_rfl) (by kernel_rfl) (by kernel_rfl) (by intro _ _ _ h; first | exact h | (simpa [behind, Act.put] using h)) rfl (by first | exact hS | assumption) (fun wq hq => ?_) ?_; (focus (simp [go_sem, hq.1, hq.2.1, hq.2.2.1]; done)); simp only [Act.put, Array.getInternal_eq_getElem, List.getElem_toArray, List.getElem_cons_succ, List.getElem_cons_zero, List.setIfInBounds_toArray, List.set_cons_succ, List.set_cons_zero]
    have h1 : Box2 (V.setCell ⟨w.heap.size, 0, none⟩ (.int .i64 (s00 + y0))) w.heap.size 28 (s00 + y0) s01 := by (simp only [Boxed, Box2, heap_alloc_at, heap_set_at, World.size_alloc, World.size_setCell]; repeat (first | rfl | exact g0 | rw [if_pos (by omega)] | rw [if_neg (by omega)] | rw [show _ = _ from g0]))
    have h2 : Box2 (V.setCell ⟨w.heap.size, 0, none⟩ (.int .i64 (s00 + y0))) q4 28 y0 y1 := box2_far b4 _ (by omega)
    refine held_skip 11 (V.drew.setCell ⟨w.heap.size, 0, none⟩ (.int .i64 (s00 + y0))) rfl (by kernel_rfl) rfl (by simp [go_sem, f0, ff]) ⟨h2.cell0, h2.cell1, h1.cell1, _, h1.cell0⟩ ?_
    simp only [Act.put, Array.getInternal_eq_getElem, List.getElem_toArray, List.getElem_cons_succ, List.getElem_cons_zero, List.setIfInBounds_toArray, List.set_cons_succ, List.set_cons_zero]
    refine held_done (by kernel_rfl) ?_
    refine behind_normal 2 (by kernel_rfl) ?_
    simp only [List.append_toArray, List.cons_append, List.nil_append]
    have i0 := h1.cell0
    have i1 := h1.cell1
    have i2 := h1.frozen
    have j0 : (V.drew.setCell ⟨w.heap.size, 0, none⟩ (.int .i64 (s00 + y0))).cell? ⟨w.heap.size, 1, none⟩ = some (.int .i64 s01) := i1
    have j2 : (V.drew.setCell ⟨w.heap.size, 0, none⟩ (.int .i64 (s00 + y0))).cell? ⟨w.heap.size, 0, none⟩ = some (.int .i64 (s00 + y0)) := i0
    have j3 : (V.drew.setCell ⟨w.heap.size, 0, none⟩ (.int .i64 (s00 + y0))).frozen? ⟨w.heap.size, 1, none⟩ = false := h1.frozen 1
    refine any_val 12 (.pointer (some ⟨w.heap.size, 1, none⟩)) rfl (by kernel_rfl) rfl (by first | (simp [go_sem, j0, j2]; done) | rfl) ?_; simp only [Act.put, Array.getInternal_eq_getElem, List.getElem_toArray, List.getElem_cons_succ, List.getElem_cons_zero, List.setIfInBounds_toArray, List.set_cons_succ, List.set_cons_zero]
    refine any_skip 13 ((V.drew.setCell ⟨w.heap.size, 0, none⟩ (.int .i64 (s00 + y0))).setCell ⟨w.heap.size, 1, none⟩ (.int .i64 (s01 + y1))) rfl (by kernel_rfl) rfl (by simp [go_sem, f1, g0.frozen 1]) ?_; simp only [Act.put, Array.getInternal_eq_getElem, List.getElem_toArray, List.getElem_cons_succ, List.getElem_cons_zero, List.setIfInBounds_toArray, List.set_cons_succ, List.set_cons_zero]
    have h3 : Box2 ((V.drew.setCell ⟨w.heap.size, 0, none⟩ (.int .i64 (s00 + y0))).setCell ⟨w.heap.size, 1, none⟩ (.int .i64 (s01 + y1))) w.heap.size 28 (s00 + y0) (s01 + y1) := by
      exact box2_set1 (show Box2 (V.drew.setCell ⟨w.heap.size, 0, none⟩ (.int .i64 (s00 + y0))) w.heap.size 28 (s00 + y0) s01 from h1) _
    have hB5 : Below w.heap.size w ((V.drew.setCell ⟨w.heap.size, 0, none⟩ (.int .i64 (s00 + y0))).setCell ⟨w.heap.size, 1, none⟩ (.int .i64 (s01 + y1))) := (hB1.drew.setCell (Nat.le_refl _) _).setCell (Nat.le_refl _) _
    have hK5 : Keep V ((V.drew.setCell ⟨w.heap.size, 0, none⟩ (.int .i64 (s00 + y0))).setCell ⟨w.heap.size, 1, none⟩ (.int .i64 (s01 + y1))) := ((Keep.refl V).drew.setCell _ _).setCell _ _
    have HS := Lib.hid hS1
    clear hq0 hS e0 e1 ff f0 f1 hw0 hw1 i0 i1 i2 j0 j2 j3 h1 h2 b4 g0 hB1 hS1 hp
    obtain ⟨W5, hW5⟩ : ∃ W5, (V.drew.setCell ⟨w.heap.size, 0, none⟩ (.int .i64 (s00 + y0))).setCell ⟨w.heap.size, 1, none⟩ (.int .i64 (s01 + y1)) = W5 := ⟨_, rfl⟩
    rw [hW5] at h3 hB5 hK5
    refine any_done ?hready ?hafter
    case hready => kernel_rfl
    rw [hW5]
    refine ⟨rfl, hK5, ?_⟩
    clear hW5 hK5
    show Exec _ _ _ _ _ _
    refine exec_region_o fun ds => ?_
    gi_wp2
    refine eq_mk (Keep.refl _) ⟨l.length - (k + 1), by omega, k + 1, by omega, rfl, ?_, hB5, by simp [Slots, Fits]⟩
    rw [HS.out]
    exact h3
  · have hkl : k = l.length := by have := of_decide_eq_false hp; omega
    subst hkl
    refine exec_exit ?_
    show Exec _ _ _ _ _ _
    obtain ⟨s0, hs0⟩ : ∃ s, sumL l l.length = s := ⟨_, rfl⟩
    rw [hs0] at hX ⊢
    obtain ⟨a, b⟩ := s0
    simp only at hX ⊢
    have c0 := hX.cell0
    have c1 := hX.cell1
    have ff := hX.frozen
    clear hs0 hp
    refine exec_seq (exec_region_o fun ds => ?_)
    gi_wp2
    have g2 : Box2 ((W.setCell ⟨w.heap.size, 0, none⟩ (.int .i64 a)).setCell ⟨w.heap.size, 1, none⟩ (.int .i64 b)) w.heap.size 28 a b := by (simp only [Boxed, Box2, heap_alloc_at, heap_set_at, World.size_alloc, World.size_setCell]; repeat (first | rfl | exact hX | rw [if_pos (by omega)] | rw [if_neg (by omega)] | rw [show _ = _ from hX]))
    have hB5 : Below w.heap.size w ((W.setCell ⟨w.heap.size, 0, none⟩ (.int .i64 a)).setCell ⟨w.heap.size, 1, none⟩ (.int .i64 b)) := (hB.setCell (Nat.le_refl _) _).setCell (Nat.le_refl _) _
    exact eq_mk (((Keep.refl _).setCell _ _).setCell _ _) (exec_ret ⟨.inr rfl, fun W' hG => ⟨_, results_pair rfl rfl (hG.box2 g2), rfl, hB5.trans (hG.below (Nat.le_refl _) hB5.size)⟩⟩)
end Go.Proofs.Ytafmgmaelnpehaa
end

section
set_option linter.unusedVariables false
set_option linter.unusedSimpArgs false
namespace Go.Proofs.Ytafmgmaelnpehaa
open Go.RowKit Go.TL Go.Shelf Go.Fu
attribute [local go_sem] Oper.semAt_some
open PFurrowAsks








def z28' : S28 := ⟨0, 0⟩
def Fur.d (F : Fur) (k : Nat) : Int × Int := toP (F.l2.getD k z28')
def Fur.wd (F : Fur) (k : Nat) : Int × Int := toP (F.l1.getD k z28')
def Fur.soil (F : Fur) (k : Nat) : Int × Int := ((F.d k).1 * (F.wd k).1, (F.d k).2 * (F.wd k).2)
def soilV (b : Bool) (F : Fur) : (Int × Int) × Int := if b then (sumL (listOf F.soil F.l2.length) F.l2.length, 0) else ((0, 0), 1)
def SoilOk (F : Fur) : Prop := F.l2.length ≤ 8 ∧ F.l1.length = F.l2.length ∧ ∀ k, k < F.l2.length → (-1000000 ≤ (F.soil k).1 ∧ (F.soil k).1 ≤ 1000000) ∧ (-1000000 ≤ (F.soil k).2 ∧ (F.soil k).2 ≤ 1000000)
theorem soil_meas (F : Fur) (b : Nat) (w : World) (h : FBox F b w) (hs : SoilOk F) : Meas 74 #[.pointer (some ⟨b, 0, none⟩)] 108 134 (fun k => .agg #[.int .i64 (F.d k).1, .int .i64 (F.d k).2, .int .i64 (F.wd k).1, .int .i64 (F.wd k).2]) F.soil F.l2.length w where
  ent := enters_of Try.func74 (by kernel_rfl) rfl
  make k hk W hW := by
    obtain ⟨h8, he, hb⟩ := hs
    have := soil2_any F b k hk (by omega) (by omega) (by omega) W (h.below hW)
    have e2 : F.l2.getD k z28' = F.l2[k]'hk := by simp [hk]
    have e1 : F.l1.getD k z28' = F.l1[k]'(by omega) := by simp [show k < F.l1.length by omega]
    simp only [Fur.d, Fur.wd, toP, e1, e2]
    exact this
  tell k hk W := by
    have hb := hs.2.2 k hk
    exact turned_any _ _ _ _ hb.1 hb.2 W
set_option maxRecDepth 100000 in
set_option maxHeartbeats 600000 in
theorem Soil_any (F : Fur) (b : Bool) (w : World) (h : F.At w) (hi : F.Is b) (h8 : b = true → F.l0.length ≤ 8 ∧ SoilOk F) :
    Calls Try.prog 28 #[F.val] w fun e w' => e = .returned (.tuple #[.agg #[.int .i64 (soilV b F).1.1, .int .i64 (soilV b F).1.2], .int .i64 (soilV b F).2]) ∧ Below w.heap.size w w' := by
  have hmf : ∀ fn first cap w, (Instr.makeFunc fn first cap).run Try.prog w = .ok (.func fn first cap) w := fun _ _ _ _ => rfl
  refine (callsIn_wide (n := 0)).1 (callsIn_of_wp_marks Try.func28 rfl trivial ?_)
  simp only [Try.ntmps28, List.size_toArray, List.length_cons, List.length_nil, Nat.reduceAdd, Nat.reduceSub, Array.replicate_succ, Array.replicate_zero, List.push_toArray, List.append_toArray, List.nil_append, List.cons_append]
  simp only [Fur.val]
  refine split_rest fun rest hR => ?_
  gi_wp2
  have hB := (((Below.refl w.heap.size w).alloc (Nat.le_refl _) (.cells #[F.s0, F.s1, F.s2] 24)).alloc (by simp) (.cells #[.int .i64 0, .int .i64 0] 28)).alloc (by simp; omega) (.cells #[.int .i64 0] 29)
  have b1 : Box3 (((w.alloc (.cells #[F.s0, F.s1, F.s2] 24)).alloc (.cells #[.int .i64 0, .int .i64 0] 28)).alloc (.cells #[.int .i64 0] 29)) w.heap.size 24 F.s0 F.s1 F.s2 := ((Box3.new w 24 F.s0 F.s1 F.s2).grow (Grow.alloc 0 _ _)).grow (Grow.alloc 0 _ _)
  have b2 : Box2 (((w.alloc (.cells #[F.s0, F.s1, F.s2] 24)).alloc (.cells #[.int .i64 0, .int .i64 0] 28)).alloc (.cells #[.int .i64 0] 29)) (w.heap.size + 1) 28 0 0 := by (simp only [Boxed, Box2, heap_alloc_at, heap_set_at, World.size_alloc, World.size_setCell]; repeat (first | rfl | rw [if_pos (by omega)] | rw [if_neg (by omega)]))
  have b3 : Boxed (((w.alloc (.cells #[F.s0, F.s1, F.s2] 24)).alloc (.cells #[.int .i64 0, .int .i64 0] 28)).alloc (.cells #[.int .i64 0] 29)) (w.heap.size + 1 + 1) 29 (.int .i64 0) := by (simp only [Boxed, Box2, heap_alloc_at, heap_set_at, World.size_alloc, World.size_setCell]; repeat (first | rfl | rw [if_pos (by omega)] | rw [if_neg (by omega)]))
  refine guard_rest (lo := w.heap.size) (T := 132) (b := w.heap.size + 1 + 1) catches72 ⟨_, _, rfl⟩ (fun W => by simp [go_sem]) hB.size ?_
  subst hR
  generalize ((w.alloc (.cells #[F.s0, F.s1, F.s2] 24)).alloc (.cells #[.int .i64 0, .int .i64 0] 28)).alloc (.cells #[.int .i64 0] 29) = V at *
  have hF := h.below hB
  have c0 := b1.cell0
  have c1 := b1.cell1
  have c2 := b1.cell2
  refine exec_seq (exec_region_o fun ds => ?_)
  gi_wp2_with fail
  by_cases hb : b = false
  · subst hb
    refine ⟨trivial, rfl, (callsIn_wide.2 (open_no1 F _ V hF hi)).mono ?_⟩
    rintro e W2 ⟨rfl, hw2⟩
    refine eq_mk (Keep.of_below hw2) ?_
    refine .inr ⟨1, 29, 0, rfl, (hw2.block _ b3.lt).trans b3, ?_⟩
    rintro W' W'' hG rfl
    have hB2 := hB.trans (hw2.mono hB.size)
    have d2 := hG.box2 (show Box2 W2 (w.heap.size + 1) 28 0 0 from (hw2.block _ b2.lt).trans b2)
    have d3 := hG.boxed (show Boxed W2 (w.heap.size + 1 + 1) 29 (.int .i64 0) from (hw2.block _ b3.lt).trans b3)
    exact ⟨_, results_span rfl rfl rfl (box2_far d2 _ (by omega)) (boxed_set d3 _), by simp [soilV], (hB2.trans (hG.below (Nat.le_refl _) hB2.size)).setCell (by show w.heap.size ≤ w.heap.size + 1 + 1; omega) _⟩
  have hb' : b = true := by simpa using hb
  subst hb'
  obtain ⟨hl8, hok⟩ := h8 rfl
  refine ⟨trivial, rfl, (callsIn_wide.2 (open_yes F V hF hi hl8)).mono ?_⟩
  rintro e W2 ⟨A, c, rfl, hc, hsp, hw2, hAb⟩
  gi_wp2_with fail
  refine eq_mk (Keep.of_below hw2) ?_
  show Exec _ _ _ _ _ _
  have hFB : FBox F w.heap.size W2 := FBox.below ⟨b1, hF⟩ hw2
  have d2 : Box2 W2 (w.heap.size + 1) 28 0 0 := (hw2.block _ b2.lt).trans b2
  have d3 : Boxed W2 (w.heap.size + 1 + 1) 29 (.int .i64 0) := (hw2.block _ b3.lt).trans b3
  have hB2 := hB.trans (hw2.mono hB.size)
  clear b1 b2 b3 c0 c1 c2 hF hw2 hAb hsp hB
  have c0 := hFB.1.cell0
  have c1 := hFB.1.cell1
  have c2 := hFB.1.cell2
  refine exec_seq (exec_region_o fun ds => ?_)
  gi_wp2_with fail
  have hsp := spans108 F 74 #[.pointer (some ⟨w.heap.size, 0, none⟩)] F.soil F.d F.wd W2 hFB.2 (by have := hok.1; omega) (soil_meas F w.heap.size W2 hFB hok)
  refine ⟨trivial, rfl, (callsIn_wide.2 hsp).mono ?_⟩
  rintro e W3 ⟨v, rfl, hown, hw3⟩
  gi_wp2_with fail
  have hLl : (listOf F.soil F.l2.length).length = F.l2.length := listOf_len _ _
  have hown' : W3.ownsRow W2.heap.size 28 2 v (listOf F.soil F.l2.length).length (flat (listOf F.soil F.l2.length)) := by rw [hLl]; exact hown
  obtain ⟨A2, c3, rfl, _, hsp2, _⟩ := spans_own hown'
  have hbd : ∀ x ∈ listOf F.soil F.l2.length, (-1000000 ≤ x.1 ∧ x.1 ≤ 1000000) ∧ (-1000000 ≤ x.2 ∧ x.2 ≤ 1000000) := by
    intro x hx
    obtain ⟨k, hk, rfl⟩ := List.mem_map.1 hx
    exact hok.2.2 k (List.mem_range.1 hk)
  refine ⟨trivial, rfl, (callsIn_wide.2 (sum_any A2 c3 _ (by have := hok.1; omega) hbd W3 hsp2)).mono ?_⟩
  rintro e W4 ⟨rfl, hw4⟩
  have hw34 : Below W2.heap.size W2 W4 := hw3.trans (hw4.mono hw3.size)
  have g2 : Box2 W4 (w.heap.size + 1) 28 0 0 := (hw34.block _ d2.lt).trans d2
  have g3 : Boxed W4 (w.heap.size + 1 + 1) 29 (.int .i64 0) := (hw34.block _ d3.lt).trans d3
  have hB4 := hB2.trans (hw34.mono hB2.size)
  rw [hLl]
  have hv : soilV true F = (sumL (listOf F.soil F.l2.length) F.l2.length, 0) := rfl
  generalize sumL (listOf F.soil F.l2.length) F.l2.length = q at *
  obtain ⟨a, b⟩ := q
  simp only
  clear hown hown' hsp2 hbd hsp c0 c1 c2 hFB d2 d3 hB2
  have f1 := g2.cell0
  have f2 := g2.cell1
  have f3 := g2.frozen
  have f4 := g3.cell
  have f5 := g3.frozen
  gi_wp2
  refine eq_mk ((((Keep.of_below hw34).setCell _ _).setCell _ _).setCell _ _) ?_
  have h6 : Box2 (((W4.setCell ⟨w.heap.size + 1, 0, none⟩ (.int .i64 a)).setCell ⟨w.heap.size + 1, 1, none⟩ (.int .i64 b)).setCell ⟨w.heap.size + 1 + 1, 0, none⟩ (.int .i64 0)) (w.heap.size + 1) 28 a b := box2_far (box2_set1 (show Box2 (W4.setCell ⟨w.heap.size + 1, 0, none⟩ (.int .i64 a)) (w.heap.size + 1) 28 a 0 from by (simp only [Boxed, Box2, heap_alloc_at, heap_set_at, World.size_alloc, World.size_setCell]; repeat (first | rfl | exact g2 | rw [if_pos (by omega)] | rw [if_neg (by omega)] | rw [show _ = _ from g2]))) b) _ (by omega)
  have h7 : Boxed (((W4.setCell ⟨w.heap.size + 1, 0, none⟩ (.int .i64 a)).setCell ⟨w.heap.size + 1, 1, none⟩ (.int .i64 b)).setCell ⟨w.heap.size + 1 + 1, 0, none⟩ (.int .i64 0)) (w.heap.size + 1 + 1) 29 (.int .i64 0) := boxed_set (t := 29) (x := .int .i64 0) ((Below.heap_setCell _ _ _ _ (by show w.heap.size + 1 + 1 ≠ w.heap.size + 1; omega)).trans ((Below.heap_setCell _ _ _ _ (by show w.heap.size + 1 + 1 ≠ w.heap.size + 1; omega)).trans g3)) _
  have hB5 : Below w.heap.size w (((W4.setCell ⟨w.heap.size + 1, 0, none⟩ (.int .i64 a)).setCell ⟨w.heap.size + 1, 1, none⟩ (.int .i64 b)).setCell ⟨w.heap.size + 1 + 1, 0, none⟩ (.int .i64 0)) := ((hB4.setCell (by show w.heap.size ≤ w.heap.size + 1; omega) _).setCell (by show w.heap.size ≤ w.heap.size + 1; omega) _).setCell (by show w.heap.size ≤ w.heap.size + 1 + 1; omega) _
  exact exec_ret (.inl ⟨.inr rfl, h7.lt, fun W' hG => ⟨_, results_span rfl rfl rfl (hG.box2 h6) (hG.boxed h7), by rw [hv], hB5.trans (hG.below (Nat.le_refl _) hB5.size)⟩⟩)
end Go.Proofs.Ytafmgmaelnpehaa
end

section
set_option linter.unusedVariables false
set_option linter.unusedSimpArgs false
namespace Go.Proofs.Ytafmgmaelnpehaa
open Go.RowKit Go.TL Go.Shelf Go.Fu
attribute [local go_sem] Oper.semAt_some
open PFurrowAsks









/-- The stations of the first k at which p is so, as the program puts them together. -/
def shM (p : Nat → Bool) : Nat → Int
  | 0 => 0
  | k + 1 => if p k then bits .or .i64 (shM p k) (wrap64 (2 ^ k)) else shM p k
def ShV (b : Bool) (least : Int) (F : Fur) (r : Int × Int × Int) : Prop :=
  if b then if 0 ≤ least then r = (shM (fun k => decide ((F.d k).2 < least)) F.l2.length, shM (fun k => decide ((F.d k).1 < least)) F.l2.length, 0) else r = (0, 0, 2) else r = (0, 0, 1)
theorem results_two {fn : Func} {p q s : Tmp} (hr : fn.results = #[.tmp p, .tmp q, .cell s 29]) {t : Array Value} {y : Nat} {m n : Int} (hp : t[p]? = some (.int .i64 m)) (hq : t[q]? = some (.int .i64 n)) (hs : t[s]? = some (.pointer (some ⟨y, 0, none⟩))) {W : World} {e : Int} (hy : Boxed W y 29 (.int .i64 e)) : (results fn t).run Try.prog W = .ok (.tuple #[.int .i64 m, .int .i64 n, .int .i64 e]) W := by
  have h2 := hy.cell
  simp [results, hr, hp, hq, hs, go_sem, h2]
theorem sh_meas (F : Fur) (b : Nat) (w : World) (h : FBox F b w) (hl : F.l2.length ≤ 8) : Meas 71 #[.pointer (some ⟨b, 0, none⟩)] 104 133 (fun k => .agg #[.int .i64 (F.d k).1, .int .i64 (F.d k).2]) F.d F.l2.length w where
  ent := enters_of Try.func71 (by kernel_rfl) rfl
  make k hk W hW := by
    have := shallow2_any F b k hk (by omega) W (h.below hW)
    have e2 : F.l2.getD k z28' = F.l2[k]'hk := by simp [hk]
    simp only [Fur.d, toP, e2]
    exact this
  tell k hk W := deep_any _ _ W
def ShI (F : Fur) (least : Int) (w : World) (A : Option Addr) (c : Nat) (j : Nat) (t : Array Value) (W : World) : Prop :=
  ∃ k : Nat, k ≤ F.l2.length ∧ j = F.l2.length - k ∧ Spans W A (listOf F.d F.l2.length) ∧ Boxed W (w.heap.size + 1) 29 (.int .i64 0) ∧ Below w.heap.size w W ∧
    Slots [none, some (.int .i64 least), none, none, some (.int .i64 (shM (fun k => decide ((F.d k).2 < least)) k)), some (.int .i64 (shM (fun k => decide ((F.d k).1 < least)) k)), some (.pointer (some ⟨w.heap.size + 1, 0, none⟩)), none, none, none, none, none, none, none, none, none, some (.slice A F.l2.length c), some (.int .i64 F.l2.length), some (.int .i64 k), none, none, none, none, none, none, none, none, none, none, none, none, none, none, none, none, none, none, none, none, none, none, none] t
def ShA (F : Fur) (least : Int) (w : World) (A : Option Addr) (c k b8 : Nat) (t : Array Value) (W : World) : Prop :=
  Spans W A (listOf F.d F.l2.length) ∧ Boxed W (w.heap.size + 1) 29 (.int .i64 0) ∧ Below w.heap.size w W ∧ Box2 W b8 28 (F.d k).1 (F.d k).2 ∧ Slots [none, some (.int .i64 least), none, none, some (.int .i64 (shM (fun k => decide ((F.d k).2 < least)) (k + 1))), some (.int .i64 (shM (fun k => decide ((F.d k).1 < least)) k)), some (.pointer (some ⟨w.heap.size + 1, 0, none⟩)), some (.int .i64 k), some (.pointer (some ⟨b8, 0, none⟩)), none, none, none, none, none, none, none, some (.slice A F.l2.length c), some (.int .i64 F.l2.length), some (.int .i64 k), none, none, none, none, none, none, none, none, none, none, none, none, none, none, none, none, none, none, none, none, none, none, none] t
def ShB (F : Fur) (least : Int) (w : World) (A : Option Addr) (c k : Nat) (t : Array Value) (W : World) : Prop :=
  Spans W A (listOf F.d F.l2.length) ∧ Boxed W (w.heap.size + 1) 29 (.int .i64 0) ∧ Below w.heap.size w W ∧ Slots [none, some (.int .i64 least), none, none, some (.int .i64 (shM (fun k => decide ((F.d k).2 < least)) (k + 1))), some (.int .i64 (shM (fun k => decide ((F.d k).1 < least)) (k + 1))), some (.pointer (some ⟨w.heap.size + 1, 0, none⟩)), none, none, none, none, none, none, none, none, none, some (.slice A F.l2.length c), some (.int .i64 F.l2.length), some (.int .i64 k), none, none, none, none, none, none, none, none, none, none, none, none, none, none, none, none, none, none, none, none, none, none, none] t
set_option maxRecDepth 100000 in
set_option maxHeartbeats 600000 in
theorem Shallow_any (F : Fur) (b : Bool) (least : Int) (w : World) (h : F.At w) (hi : F.Is b) (h8 : b = true → F.l0.length ≤ 8 ∧ F.l2.length ≤ 8) :
    Calls Try.prog 26 #[F.val, .int .i64 least] w fun e w' => (∃ r, e = .returned (.tuple #[.int .i64 r.1, .int .i64 r.2.1, .int .i64 r.2.2]) ∧ ShV b least F r) ∧ Below w.heap.size w w' := by
  have hmf : ∀ fn first cap w, (Instr.makeFunc fn first cap).run Try.prog w = .ok (.func fn first cap) w := fun _ _ _ _ => rfl
  refine (callsIn_wide (n := 0)).1 (callsIn_of_wp_marks Try.func26 rfl trivial ?_)
  simp only [Try.ntmps26, List.size_toArray, List.length_cons, List.length_nil, Nat.reduceAdd, Nat.reduceSub, Array.replicate_succ, Array.replicate_zero, List.push_toArray, List.append_toArray, List.nil_append, List.cons_append]
  simp only [Fur.val]
  refine split_rest fun rest hR => ?_
  gi_wp2
  have hB := ((Below.refl w.heap.size w).alloc (Nat.le_refl _) (.cells #[F.s0, F.s1, F.s2] 24)).alloc (by simp) (.cells #[.int .i64 0] 29)
  have b1 : Box3 ((w.alloc (.cells #[F.s0, F.s1, F.s2] 24)).alloc (.cells #[.int .i64 0] 29)) w.heap.size 24 F.s0 F.s1 F.s2 := (Box3.new w 24 F.s0 F.s1 F.s2).grow (Grow.alloc 0 _ _)
  have b3 : Boxed ((w.alloc (.cells #[F.s0, F.s1, F.s2] 24)).alloc (.cells #[.int .i64 0] 29)) (w.heap.size + 1) 29 (.int .i64 0) := by (simp only [Boxed, Box2, heap_alloc_at, heap_set_at, World.size_alloc, World.size_setCell]; repeat (first | rfl | rw [if_pos (by omega)] | rw [if_neg (by omega)]))
  refine guard_rest (lo := w.heap.size) (T := 132) (b := w.heap.size + 1) catches69 ⟨_, _, rfl⟩ (fun W => by simp [go_sem]) hB.size ?_
  subst hR
  generalize (w.alloc (.cells #[F.s0, F.s1, F.s2] 24)).alloc (.cells #[.int .i64 0] 29) = V at *
  clear hmf
  have hF := h.below hB
  have c0 := b1.cell0
  have c1 := b1.cell1
  have c2 := b1.cell2
  refine exec_seq (exec_region_o fun ds => ?_)
  gi_wp2_with fail
  have stop : ∀ (code : Int) (t : Array Value) (W2 : World), Below V.heap.size V W2 → t[4]? = some (.int .i64 0) → t[5]? = some (.int .i64 0) → t[6]? = some (.pointer (some ⟨w.heap.size + 1, 0, none⟩)) → ShV b least F (0, 0, code) →
      guardEnd Try.f26 132 (w.heap.size + 1) w.heap.size (fun e w' => (∃ r, e = .returned (.tuple #[.int .i64 r.1, .int .i64 r.2.1, .int .i64 r.2.2]) ∧ ShV b least F r) ∧ Below w.heap.size w w') Try.prog (.panic (misfit code)) t W2 := by
    intro code t W2 hw2 h4 h5 h6 hv
    refine .inr ⟨code, 29, 0, rfl, (hw2.block _ b3.lt).trans b3, ?_⟩
    rintro W' W'' hG rfl
    have hB2 := hB.trans (hw2.mono hB.size)
    have d3 := hG.boxed (show Boxed W2 (w.heap.size + 1) 29 (.int .i64 0) from (hw2.block _ b3.lt).trans b3)
    exact ⟨_, results_two rfl h4 h5 h6 (boxed_set d3 _), ⟨(0, 0, code), rfl, hv⟩, (hB2.trans (hG.below (Nat.le_refl _) hB2.size)).setCell (by show w.heap.size ≤ w.heap.size + 1; omega) _⟩
  by_cases hb : b = false
  · subst hb
    refine ⟨trivial, rfl, (callsIn_wide.2 (open_no1 F _ V hF hi)).mono ?_⟩
    rintro e W2 ⟨rfl, hw2⟩
    exact eq_mk (Keep.of_below hw2) (stop 1 _ W2 hw2 rfl rfl rfl (by simp [ShV]))
  have hb' : b = true := by simpa using hb
  subst hb'
  obtain ⟨hl8, hl2⟩ := h8 rfl
  by_cases hm : 0 ≤ least
  case neg =>
    have hd : decide (0 ≤ least) = false := decide_eq_false hm
    rw [hd]
    refine ⟨trivial, rfl, (callsIn_wide.2 (open_no2 F V hF hi)).mono ?_⟩
    rintro e W2 ⟨rfl, hw2⟩
    exact eq_mk (Keep.of_below hw2) (stop 2 _ W2 hw2 rfl rfl rfl (by simp [ShV, hm]))
  clear stop
  have hd : decide (0 ≤ least) = true := decide_eq_true hm
  rw [hd]
  refine ⟨trivial, rfl, (callsIn_wide.2 (open_yes F V hF hi hl8)).mono ?_⟩
  rintro e W2 ⟨A0, c00, rfl, hc, hsp, hw2, hAb⟩
  gi_wp2_with fail
  refine eq_mk (Keep.of_below hw2) ?_
  show Exec _ _ _ _ _ _
  have hFB : FBox F w.heap.size W2 := FBox.below ⟨b1, hF⟩ hw2
  have d3 : Boxed W2 (w.heap.size + 1) 29 (.int .i64 0) := (hw2.block _ b3.lt).trans b3
  have hB2 := hB.trans (hw2.mono hB.size)
  clear b1 b3 c0 c1 c2 hF hw2 hAb hsp hB hd
  have c0 := hFB.1.cell0
  have c1 := hFB.1.cell1
  have c2 := hFB.1.cell2
  refine exec_seq (exec_seq (exec_region_o fun ds => ?_))
  gi_wp2_with fail
  have hsp := spans104 F 71 #[.pointer (some ⟨w.heap.size, 0, none⟩)] F.d W2 hFB.2 (by omega) (sh_meas F w.heap.size W2 hFB hl2)
  refine ⟨trivial, rfl, (callsIn_wide.2 hsp).mono ?_⟩
  rintro e W3 ⟨v, rfl, hown, hw3⟩
  have hLl : (listOf F.d F.l2.length).length = F.l2.length := listOf_len _ _
  have hown' : W3.ownsRow W2.heap.size 28 2 v (listOf F.d F.l2.length).length (flat (listOf F.d F.l2.length)) := by rw [hLl]; exact hown
  obtain ⟨A2, c3, rfl, _, hsp2, _⟩ := spans_own hown'
  have g3 : Boxed W3 (w.heap.size + 1) 29 (.int .i64 0) := (hw3.block _ d3.lt).trans d3
  have hB3 := hB2.trans (hw3.mono hB2.size)
  clear hown hown' hsp c0 c1 c2 hFB d3 hB2
  rw [hLl]
  gi_wp2
  refine eq_mk (Keep.of_below hw3) ?_
  show Exec _ _ _ _ _ _
  refine exec_block ?_
  refine exec_loop (ShI F least w A2 c3) F.l2.length ⟨0, by omega, by omega, hsp2, g3, hB3, by simp [Slots, Fits, shM]⟩ ?_
  clear hsp2 g3 hB3 hw3
  rintro j t W ⟨k, hk, hj, hsp, hE, hB, hSl⟩
  obtain ⟨x, hx⟩ := Slots.open_ hSl; simp only [fill, Nat.reduceAdd] at hx; subst hx; clear hSl
  refine exec_seq (exec_region_o fun ds => ?_)
  gi_wp2
  refine eq_mk (Keep.refl _) ?_
  show Exec _ _ _ _ _ _
  refine exec_seq (exec_cond (b := decide (k < F.l2.length)) rfl (fun hp => ?_) (fun hp => ?_))
  · have hkl : k < F.l2.length := of_decide_eq_true hp
    obtain ⟨g, off, rfl, hcc⟩ := hsp.at_ (by omega)
    have hk2 := hcc k (by omega)
    have hget : (listOf F.d F.l2.length)[k]'(by omega) = F.d k := by simp [listOf]
    rw [hget] at hk2
    obtain ⟨k0, k1⟩ := hk2
    have hkI : (k : Int) < F.l2.length := by omega
    refine exec_skip ?_
    show Exec _ _ _ _ _ _
    refine exec_cut (ShB F least w (some ⟨g, off, none⟩) c3 k) (exec_block (exec_seq (exec_region_o fun ds => ?_))) ?after
    case after =>
      clear k0 k1 hcc hsp hE hB hget
      rintro t W ⟨hsp, hE, hB, hSl⟩
      obtain ⟨x, hx⟩ := Slots.open_ hSl; simp only [fill, Nat.reduceAdd] at hx; subst hx; clear hSl
      refine exec_region_o fun ds => ?_
      gi_wp2
      exact eq_mk (Keep.refl _) ⟨j - 1, by omega, k + 1, by omega, by omega, hsp, hE, hB, by simp [Slots, Fits]⟩
    gi_wp2
    refine eq_mk ((Keep.refl _).alloc _) ?_
    show Exec _ _ _ _ _ _
    have gr := Grow.alloc W.heap.size W (.cells #[.int .i64 (F.d k).1, .int .i64 (F.d k).2] 28)
    have p1 := hsp.grow gr
    have p2 := gr.boxed hE
    have p3 := hB.alloc hB.size (.cells #[.int .i64 (F.d k).1, .int .i64 (F.d k).2] 28)
    have p4 := Box2.new W 28 (F.d k).1 (F.d k).2
    generalize W.alloc (.cells #[.int .i64 (F.d k).1, .int .i64 (F.d k).2] 28) = W1 at *
    clear gr hsp hE hB hcc hget k0 k1
    generalize W.heap.size = b8 at *
    clear W
    have e1 := p4.cell1
    have hk8 : k < 8 := by omega
    refine exec_cut (ShA F least w (some ⟨g, off, none⟩) c3 k b8) (exec_seq (exec_region_o fun ds => ?_)) ?second
    case second =>
      clear p1 p2 p3 p4 e1
      clear W1
      rintro t W ⟨hsp, hE, hB, h8, hSl⟩
      obtain ⟨x, hx⟩ := Slots.open_ hSl; simp only [fill, Nat.reduceAdd] at hx; subst hx; clear hSl
      have e0 := h8.cell0
      refine exec_seq (exec_region_o fun ds => ?_)
      gi_wp2
      refine eq_mk (Keep.refl _) ?_
      show Exec _ _ _ _ _ _
      refine exec_cond (b := decide ((F.d k).1 < least)) rfl (fun hp => exec_region_o fun ds => ?_) (fun hp => exec_skip ⟨hsp, hE, hB, by simp [Slots, Fits, shM, hp]⟩)
      gi_wp2
      exact eq_mk (Keep.refl _) ⟨hsp, hE, hB, by simp [Slots, Fits, shM, hp]⟩
    gi_wp2
    refine eq_mk (Keep.refl _) ?_
    show Exec _ _ _ _ _ _
    refine exec_cond (b := decide ((F.d k).2 < least)) rfl (fun hp => exec_region_o fun ds => ?_) (fun hp => exec_skip ⟨p1, p2, p3, p4, by simp [Slots, Fits, shM, hp]⟩)
    gi_wp2
    exact eq_mk (Keep.refl _) ⟨p1, p2, p3, p4, by simp [Slots, Fits, shM, hp]⟩
  · have hkl : k = F.l2.length := by have := of_decide_eq_false hp; omega
    subst hkl
    refine exec_exit ?_
    show Exec _ _ _ _ _ _
    have f3 := hE.cell
    have f3f := hE.frozen
    refine exec_seq (exec_region_o fun ds => ?_)
    gi_wp2
    have g4 := boxed_set hE (.int .i64 0)
    have hB5 := hB.setCell (p := ⟨w.heap.size + 1, 0, none⟩) (by show w.heap.size ≤ w.heap.size + 1; omega) (.int .i64 0)
    exact eq_mk ((Keep.refl _).setCell _ _) (exec_ret (.inl ⟨.inr rfl, g4.lt, fun W' hG => ⟨_, results_two rfl rfl rfl rfl (hG.boxed g4), ⟨(_, _, 0), rfl, by simp [ShV, hm]⟩, hB5.trans (hG.below (Nat.le_refl _) hB5.size)⟩⟩))
end Go.Proofs.Ytafmgmaelnpehaa
end

section
set_option linter.unusedVariables false
set_option linter.unusedSimpArgs false
namespace Go.Proofs.Ytafmgmaelnpehaa
open Go.RowKit Go.TL Go.Shelf Go.Fu
attribute [local go_sem] Oper.semAt_some
open PFurrowAsks
/-- None bends more than this one. -/
def wp1 (own n : Int) (s b : Int) : Bool := decide (b = own) || (decide (b < own) && !decide (s = n))
/-- This one bends so much, and that one more. -/
def wp2 (own n o : Int) (s b : Int) : Bool := (!decide (s = n) || decide (b = own)) && (!decide (s = o) || decide (own < b))
set_option maxRecDepth 100000 in
theorem may61 (b10 b6 : Nat) (own n : Int) (w0 : World) (h1 : Boxed w0 b10 3 (.int .i64 own)) (h2 : Boxed w0 b6 3 (.int .i64 n)) : May 61 #[.pointer (some ⟨b10, 0, none⟩), .pointer (some ⟨b6, 0, none⟩)] (wp1 own n) w0 where
  ent := enters_of Try.func61 (by kernel_rfl) rfl
  calls s bd W _ _ _ _ hW := by
    have k1 : W.cell? ⟨b10, 0, none⟩ = some (.int .i64 own) := (hW.cell h1.lt).trans h1.cell
    have k2 : W.cell? ⟨b6, 0, none⟩ = some (.int .i64 n) := (hW.cell h2.lt).trans h2.cell
    clear hW h1 h2
    by_cases e1 : bd = own
    · subst e1
      go_enter Try.func61, Try.ntmps61
      go_wp2
      go_ret
      exact ⟨by simp [wp1], Below.refl _ _⟩
    · have q1 : (bd == own) = false := by simpa using e1
      by_cases e2 : bd < own
      · have q2 : decide (bd < own) = true := decide_eq_true e2
        by_cases e3 : s = n
        · have q3 : (s != n) = false := by simpa using e3
          have hv : wp1 own n s bd = false := by simp [wp1, e1, e3]
          rw [hv]
          clear e1 e2 e3 hv
          go_enter Try.func61, Try.ntmps61
          go_wp2
          go_ret
          exact ⟨rfl, Below.refl _ _⟩
        · have q3 : (s != n) = true := by simpa using e3
          have hv : wp1 own n s bd = true := by simp [wp1, e2, e3]
          rw [hv]
          clear e1 e2 e3 hv
          go_enter Try.func61, Try.ntmps61
          go_wp2
          go_ret
          exact ⟨rfl, Below.refl _ _⟩
      · have q2 : decide (bd < own) = false := decide_eq_false e2
        have hv : wp1 own n s bd = false := by simp [wp1, e1, e2]
        rw [hv]
        clear e1 e2 hv
        go_enter Try.func61, Try.ntmps61
        go_wp2
        go_ret
        exact ⟨rfl, Below.refl _ _⟩
set_option maxRecDepth 100000 in
theorem may62 (b6 b10 b11 : Nat) (own n o : Int) (w0 : World) (h1 : Boxed w0 b10 3 (.int .i64 own)) (h2 : Boxed w0 b6 3 (.int .i64 n)) (h3 : Boxed w0 b11 3 (.int .i64 o)) : May 62 #[.pointer (some ⟨b6, 0, none⟩), .pointer (some ⟨b10, 0, none⟩), .pointer (some ⟨b11, 0, none⟩)] (wp2 own n o) w0 where
  ent := enters_of Try.func62 (by kernel_rfl) rfl
  calls s bd W _ _ _ _ hW := by
    have k1 : W.cell? ⟨b10, 0, none⟩ = some (.int .i64 own) := (hW.cell h1.lt).trans h1.cell
    have k2 : W.cell? ⟨b6, 0, none⟩ = some (.int .i64 n) := (hW.cell h2.lt).trans h2.cell
    have k3 : W.cell? ⟨b11, 0, none⟩ = some (.int .i64 o) := (hW.cell h3.lt).trans h3.cell
    clear hW h1 h2 h3
    have q1 : (s != n) = !decide (s = n) := by by_cases h : s = n <;> simp [h]
    have q2 : (bd == own) = decide (bd = own) := by by_cases h : bd = own <;> simp [h]
    have q3 : (s != o) = !decide (s = o) := by by_cases h : s = o <;> simp [h]
    by_cases e1 : s = n
    case neg =>
      have a1 : decide (s = n) = false := decide_eq_false e1
      by_cases e3 : s = o
      case neg =>
        have a3 : decide (s = o) = false := decide_eq_false e3
        rw [a1] at q1
        rw [a3] at q3
        have hv : wp2 own n o s bd = true := by simp [wp2, a1, a3]
        rw [hv]
        clear e1 e3 a1 a3 hv q2
        go_enter Try.func62, Try.ntmps62
        go_wp2
        go_ret
        exact ⟨rfl, Below.refl _ _⟩
      case pos =>
        have a3 : decide (s = o) = true := decide_eq_true e3
        rw [a1] at q1
        rw [a3] at q3
        have hv : wp2 own n o s bd = decide (own < bd) := by simp [wp2, a1, a3]
        rw [hv]
        clear e1 e3 a1 a3 hv q2
        go_enter Try.func62, Try.ntmps62
        go_wp2
        go_ret
        exact ⟨rfl, Below.refl _ _⟩
    case pos =>
      have a1 : decide (s = n) = true := decide_eq_true e1
      rw [a1] at q1
      by_cases e2 : bd = own
      case neg =>
        have a2 : decide (bd = own) = false := decide_eq_false e2
        rw [a2] at q2
        have hv : wp2 own n o s bd = false := by simp [wp2, a1, a2]
        rw [hv]
        clear e1 e2 a1 a2 hv q3
        go_enter Try.func62, Try.ntmps62
        go_wp2
        go_ret
        exact ⟨rfl, Below.refl _ _⟩
      case pos =>
        have a2 : decide (bd = own) = true := decide_eq_true e2
        rw [a2] at q2
        by_cases e3 : s = o
        case neg =>
          have a3 : decide (s = o) = false := decide_eq_false e3
          rw [a3] at q3
          have hv : wp2 own n o s bd = true := by simp [wp2, a2, a3]
          rw [hv]
          clear e1 e2 e3 a1 a2 a3 hv
          go_enter Try.func62, Try.ntmps62
          go_wp2
          go_ret
          exact ⟨rfl, Below.refl _ _⟩
        case pos =>
          have a3 : decide (s = o) = true := decide_eq_true e3
          rw [a3] at q3
          have hv : wp2 own n o s bd = decide (own < bd) := by simp [wp2, a2, a3]
          rw [hv]
          clear e1 e2 e3 a1 a2 a3 hv
          go_enter Try.func62, Try.ntmps62
          go_wp2
          go_ret
          exact ⟨rfl, Below.refl _ _⟩
end Go.Proofs.Ytafmgmaelnpehaa
end

section
set_option linter.unusedVariables false
set_option linter.unusedSimpArgs false
namespace Go.Proofs.Ytafmgmaelnpehaa
open Go.RowKit Go.TL Go.Shelf Go.Fu
attribute [local go_sem] Oper.semAt_some
open PFurrowAsks
/-- What the rounds of 'Worst' find as they found it. -/
structure WoB (w : World) (A : Option Addr) (l : List (Int × Int)) (c b5 b6 n : Nat) (W : World) : Prop where
  f : Boxed W b5 79 (.slice A l.length c)
  sp : Spans W A l
  far : l ≠ [] → ∀ a, A = some a → a.block < b5
  n : Boxed W b6 3 (.int .i64 n)
  e : Boxed W (w.heap.size + 1) 29 (.int .i64 0)
  below : Below w.heap.size w W
  o5 : w.heap.size + 1 < b5
  o6 : b5 < b6
theorem WoB.grow {w : World} {A : Option Addr} {l : List (Int × Int)} {c b5 b6 n : Nat} {W W' : World} {B : Nat} (h : WoB w A l c b5 b6 n W) (hg : Grow B W W') (hB : w.heap.size ≤ B) : WoB w A l c b5 b6 n W' :=
  ⟨hg.boxed h.f, h.sp.grow hg, h.far, hg.boxed h.n, hg.boxed h.e, h.below.trans (hg.below hB h.below.size), h.o5, h.o6⟩
theorem WoB.set {w : World} {A : Option Addr} {l : List (Int × Int)} {c b5 b6 n : Nat} {W : World} (h : WoB w A l c b5 b6 n W) (b : Nat) (v : Value) (hb : b6 < b) : WoB w A l c b5 b6 n (W.setCell ⟨b, 0, none⟩ v) := by
  obtain ⟨h1, h2, h3, h4, h5, h6, h7, h8⟩ := h
  exact ⟨boxed_far h1 _ (by omega), h2.far' (fun hl a ha => by have := h3 hl a ha; show _ ≠ b; omega), h3, boxed_far h4 _ (by omega), boxed_far h5 _ (by omega), h6.setCell (by show w.heap.size ≤ b; omega) _, h7, h8⟩
structure WoR (w : World) (A : Option Addr) (l : List (Int × Int)) (c b5 b6 n b8 b9 bC : Nat) (s : Int × Int) (m ls : Bool) (W : World) : Prop where
  b : WoB w A l c b5 b6 n W
  m : Boxed W b8 4 (.bool m)
  ls : Boxed W b9 4 (.bool ls)
  it : Box2 W bC 89 s.1 s.2
  o8 : b6 < b8
  o9 : b8 < b9
  oC : b9 < bC
section
variable {w : World} {A : Option Addr} {l : List (Int × Int)} {c b5 b6 n b8 b9 bC : Nat} {s : Int × Int} {m ls : Bool} {W W' : World}
theorem WoR.grow {B : Nat} (h : WoR w A l c b5 b6 n b8 b9 bC s m ls W) (hg : Grow B W W') (hB : w.heap.size ≤ B) : WoR w A l c b5 b6 n b8 b9 bC s m ls W' :=
  ⟨h.b.grow hg hB, hg.boxed h.m, hg.boxed h.ls, hg.box2 h.it, h.o8, h.o9, h.oC⟩
theorem WoR.set (h : WoR w A l c b5 b6 n b8 b9 bC s m ls W) (b : Nat) (v : Value) (hb : bC < b) : WoR w A l c b5 b6 n b8 b9 bC s m ls (W.setCell ⟨b, 0, none⟩ v) := by
  obtain ⟨h1, h2, h3, h4, h5, h6, h7⟩ := h
  exact ⟨h1.set b v (by omega), boxed_far h2 _ (by omega), boxed_far h3 _ (by omega), box2_far h4 _ (by omega), h5, h6, h7⟩
theorem WoR.setM (h : WoR w A l c b5 b6 n b8 b9 bC s m ls W) (m' : Bool) : WoR w A l c b5 b6 n b8 b9 bC s m' ls (W.setCell ⟨b8, 0, none⟩ (.bool m')) := by
  obtain ⟨h1, h2, h3, h4, h5, h6, h7⟩ := h
  exact ⟨h1.set b8 _ (by omega), boxed_set h2 _, boxed_far h3 _ (by omega), box2_far h4 _ (by omega), h5, h6, h7⟩
theorem WoR.setL (h : WoR w A l c b5 b6 n b8 b9 bC s m ls W) (m' : Bool) : WoR w A l c b5 b6 n b8 b9 bC s m m' (W.setCell ⟨b9, 0, none⟩ (.bool m')) := by
  obtain ⟨h1, h2, h3, h4, h5, h6, h7⟩ := h
  exact ⟨h1.set b9 _ (by omega), boxed_far h2 _ (by omega), boxed_set h3 _, box2_far h4 _ (by omega), h5, h6, h7⟩
end
/-- Some other station of the first k can bend more, while this one bends so much. -/
noncomputable def lessO (l : List (Int × Int)) (own : Int) (n k : Nat) : Bool := (List.range k).any fun i => decide (1 ≤ i) && !decide (i = n) && canB l (wp2 own n i)
theorem lessO_succ (l : List (Int × Int)) (own : Int) (n k : Nat) : lessO l own n (k + 1) = (lessO l own n k || (decide (1 ≤ k) && !decide (k = n) && canB l (wp2 own n k))) := by
  unfold lessO
  rw [List.range_succ, List.any_append]
  simp
def WiI (w : World) (A : Option Addr) (l : List (Int × Int)) (c b5 b6 n b8 b9 bC b10 : Nat) (s : Int × Int) (m ls : Bool) (own : Int) (j : Nat) (t : Array Value) (W : World) : Prop :=
  ∃ (k b11 : Nat), 1 ≤ k ∧ k + 1 ≤ l.length ∧ j = l.length - k ∧ b10 < b11 ∧ WoR w A l c b5 b6 n b8 b9 bC s m (ls || lessO l own n k) W ∧ Boxed W b10 3 (.int .i64 own) ∧ Boxed W b11 3 (.int .i64 k) ∧
    Slots [none, none, none, none, none, some (.pointer (some ⟨b5, 0, none⟩)), some (.pointer (some ⟨b6, 0, none⟩)), none, none, some (.pointer (some ⟨b9, 0, none⟩)), some (.pointer (some ⟨b10, 0, none⟩)), some (.pointer (some ⟨b11, 0, none⟩)), none, none, none, none, none, none, none, none, none, none, none, none, none, none, none, none, none, none, none, none, none, none, none, none, none, none, none, none, none, none, none, none, none, none, none, none, none, none, none, none, none, none, none, none, none, none, none, none, none, none, none, none, none, none, none, none, none, none] t
def WiM (w : World) (A : Option Addr) (l : List (Int × Int)) (c b5 b6 n b8 b9 bC b10 b11 k : Nat) (s : Int × Int) (m ls : Bool) (own : Int) (t : Array Value) (W : World) : Prop :=
  WoR w A l c b5 b6 n b8 b9 bC s m (ls || lessO l own n (k + 1)) W ∧ Boxed W b10 3 (.int .i64 own) ∧ Boxed W b11 3 (.int .i64 k) ∧
    Slots [none, none, none, none, none, some (.pointer (some ⟨b5, 0, none⟩)), some (.pointer (some ⟨b6, 0, none⟩)), none, none, some (.pointer (some ⟨b9, 0, none⟩)), some (.pointer (some ⟨b10, 0, none⟩)), some (.pointer (some ⟨b11, 0, none⟩)), none, none, none, none, none, none, none, none, none, none, none, none, none, none, none, none, none, none, none, none, none, none, none, none, none, none, none, none, none, none, none, none, none, none, none, none, none, none, none, none, none, none, none, none, none, none, none, none, none, none, none, none, none, none, none, none, none, none] t
set_option maxRecDepth 100000 in
set_option maxHeartbeats 600000 in
theorem worst_in {w : World} {A : Option Addr} {l : List (Int × Int)} {c b5 b6 n b8 b9 bC b10 : Nat} {s : Int × Int} {m ls : Bool} {own : Int} {V : World} (h : WoR w A l c b5 b6 n b8 b9 bC s m ls V) (h10 : Boxed V b10 3 (.int .i64 own)) (hb10 : bC < b10)
    (hl : l.length ≤ 8) (hl3 : 3 ≤ l.length) (hok : ∀ x ∈ l, okSpan x) (hn : n < l.length) (l1 : Nat) (t : Array Value)
    (hF : Slots [none, none, none, none, none, some (.pointer (some ⟨b5, 0, none⟩)), some (.pointer (some ⟨b6, 0, none⟩)), none, none, some (.pointer (some ⟨b9, 0, none⟩)), some (.pointer (some ⟨b10, 0, none⟩)), none, none, none, none, none, none, none, none, none, none, none, none, none, none, none, none, none, none, none, none, none, none, none, none, none, none, none, none, none, none, none, none, none, none, none, none, none, none, none, none, none, none, none, none, none, none, none, none, none, none, none, none, none, none, none, none, none, none, none] t) :
    Exec Try.prog (some l1) (sub (Try.f21.body.getD .skip) [1,1,1,0,1,0,0,1,0, 0,1,1,0,1, 0,1,0, 1]) t V fun e _ W => e = .normal ∧ WoR w A l c b5 b6 n b8 b9 bC s m (ls || lessO l own n (l.length - 1)) W := by
  obtain ⟨x, hx⟩ := Slots.open_ hF; simp only [fill, Nat.reduceAdd] at hx; subst hx; clear hF
  refine exec_seq (exec_region_r fun ds => ?_)
  gi_wp2
  refine eq_mk ((Keep.refl _).alloc _) ?_
  show Exec _ _ _ _ _ _
  have gr := Grow.alloc V.heap.size V (.cells #[.int .i64 1] 3)
  have g1 := h.grow gr h.b.below.size
  have g2 := gr.boxed h10
  have g3 := Boxed.new V 3 (.int .i64 1)
  have hlt := h10.lt
  generalize V.alloc (.cells #[.int .i64 1] 3) = W at *
  clear h h10 gr
  generalize V.heap.size = b11 at *
  clear V
  refine exec_block ?_
  refine exec_loop (WiI w A l c b5 b6 n b8 b9 bC b10 s m ls own) (l.length - 1) ⟨1, b11, by omega, by omega, rfl, hlt, by simpa [lessO] using g1, g2, g3, (by simp only [Slots, Fits, and_self])⟩ ?_
  clear g1 g2 g3 hlt
  clear W b11
  rintro j t W ⟨k, b11, hk, hkl, rfl, hb11, hR, h10, h11, hSl⟩
  obtain ⟨x, hx⟩ := Slots.open_ hSl; simp only [fill, Nat.reduceAdd] at hx; subst hx; clear hSl
  have k5 := hR.b.f.cell
  have k11 := h11.cell
  refine exec_seq (exec_seq (exec_region_r fun ds => ?_))
  gi_wp2
  refine eq_mk (Keep.refl _) ?_
  show Exec _ _ _ _ _ _
  refine exec_cond (b := decide ((k : Int) + 1 < l.length)) rfl (fun hp => exec_skip ?_) (fun hp => exec_exit ?_)
  · have hkl : k + 1 < l.length := by have := of_decide_eq_true hp; omega
    show Exec _ _ _ _ _ _
    refine exec_cut (WiM w A l c b5 b6 n b8 b9 bC b10 b11 k s m ls own) (exec_block (exec_seq (exec_region_r fun ds => ?_))) ?after
    case after =>
      clear hR h10 h11 k5 k11
      clear W
      rintro t W ⟨hR, h10, h11, hSl⟩
      obtain ⟨x, hx⟩ := Slots.open_ hSl; simp only [fill, Nat.reduceAdd] at hx; subst hx; clear hSl
      have k11 := h11.cell
      refine exec_seq (exec_seq (exec_region_r fun ds => ?_))
      gi_wp2
      refine eq_mk (Keep.refl _) ?_
      show Exec _ _ _ _ _ _
      refine exec_region_r fun ds => ?_
      gi_wp2
      refine eq_mk ((Keep.refl _).alloc _) ?_
      show Exec _ _ _ _ _ _
      have gr := Grow.alloc W.heap.size W (.cells #[.int .i64 k] 3)
      have g1 := hR.grow gr hR.b.below.size
      have g2 := gr.boxed h10
      have g3 := Boxed.new W 3 (.int .i64 k)
      have hlt := h10.lt
      generalize W.alloc (.cells #[.int .i64 k] 3) = X at *
      clear hR h10 h11 gr k11
      generalize W.heap.size = b11' at *
      clear W
      have k11 := g3.cell
      have f11 := g3.frozen
      refine exec_region_r fun ds => ?_
      gi_wp2
      refine eq_mk ((Keep.refl _).setCell _ _) ⟨l.length - (k + 1), by omega, k + 1, b11', by omega, by omega, rfl, hlt, g1.set _ _ (by omega), boxed_far g2 _ (by omega), ?_, by simp [Slots, Fits]⟩
      exact boxed_set g3 _
    have k6 := hR.b.n.cell
    gi_wp2
    refine eq_mk (Keep.refl _) ?_
    show Exec _ _ _ _ _ _
    refine exec_cond (b := ((k : Int) != (n : Int))) rfl (fun hp => ?_) (fun hp => exec_skip ?_)
    · have hkn : k ≠ n := by rintro rfl; simp at hp
      have HL : lessO l own n (k + 1) = (lessO l own n k || canB l (wp2 own n k)) := by rw [lessO_succ]; simp [hk, hkn]
      have HLh := Lib.hid HL
      clear HL hp
      refine exec_seq (exec_region_r fun ds => ?_)
      gi_wp2
      refine eq_mk (Keep.refl _) ?_
      show Exec _ _ _ _ _ _
      have k9 := hR.ls.cell
      have f9 := hR.ls.frozen
      have HS := fun b => hR.setL b
      by_cases hx : (ls || lessO l own n k) = true
      · have e1 : (ls || lessO l own n (k + 1)) = true := by rw [HLh.out, ← Bool.or_assoc, hx]; rfl
        have HS1 : WoR w A l c b5 b6 n b8 b9 bC s m (ls || lessO l own n (k + 1)) (W.setCell ⟨b9, 0, none⟩ (.bool true)) := by rw [e1]; exact HS true
        clear HS
        rw [hx] at k9
        clear hx e1
        have HSh := Lib.hid HS1
        clear HS1
        refine exec_region_r fun ds => ?_
        gi_wp2
        refine ⟨trivial, ?_⟩
        gi_wp2
        refine eq_mk ((Keep.refl _).setCell _ _) ?_
        show WiM _ _ _ _ _ _ _ _ _ _ _ _ _ _ _ _ _ _ _
        exact ⟨HSh.out, boxed_far h10 _ (by have := hR.oC; omega), boxed_far h11 _ (by have := hR.oC; omega), by simp [Slots, Fits]⟩
      · have hx' : (ls || lessO l own n k) = false := by simpa using hx
        have e1 : (ls || lessO l own n (k + 1)) = canB l (wp2 own n k) := by rw [HLh.out, ← Bool.or_assoc, hx']; rfl
        rw [hx'] at k9
        clear HS hx
        refine exec_region_r fun ds => ?_
        gi_wp2_with fail
        refine ⟨trivial, rfl, (CallsIn.inRound l1 (callsIn_wide.2 (can_any A c l hl hok (wp2 own n k) W hR.b.sp 62 _ (may62 b6 b10 b11 own n k W h10 hR.b.n h11)))).mono ?_⟩
        rintro e W1 ⟨rfl, hw1⟩
        have r1 := hR.grow (Grow.of_below (B := w.heap.size) hw1) (Nat.le_refl _)
        have r10 : Boxed W1 b10 3 (.int .i64 own) := (hw1.block _ h10.lt).trans h10
        have r11 : Boxed W1 b11 3 (.int .i64 k) := (hw1.block _ h11.lt).trans h11
        have HS1 : WoR w A l c b5 b6 n b8 b9 bC s m (ls || lessO l own n (k + 1)) (W1.setCell ⟨b9, 0, none⟩ (.bool (canB l (wp2 own n k)))) := by rw [e1]; exact r1.setL _
        have k9 := r1.ls.cell
        have f9 := r1.ls.frozen
        have hK := Keep.of_below hw1
        clear e1 hw1 hR h10 h11 k5 k11 k6 hx'
        have HSh := Lib.hid HS1
        clear HS1
        generalize canB l (wp2 own n k) = cb at *
        gi_wp2
        refine eq_mk (hK.setCell _ _) ?_
        show WiM _ _ _ _ _ _ _ _ _ _ _ _ _ _ _ _ _ _ _
        exact ⟨HSh.out, boxed_far r10 _ (by have := r1.oC; omega), boxed_far r11 _ (by have := r1.oC; omega), by simp [Slots, Fits]⟩
    · have hkn : k = n := by have : (k : Int) = n := by simpa using hp
                             omega
      refine ⟨?_, h10, h11, by simp [Slots, Fits]⟩
      rw [lessO_succ]
      simpa [hkn] using hR
  · have hkl2 : k = l.length - 1 := by have := of_decide_eq_false hp; omega
    exact ⟨rfl, hkl2 ▸ hR⟩
end Go.Proofs.Ytafmgmaelnpehaa
end

section
set_option linter.unusedVariables false
set_option linter.unusedSimpArgs false
namespace Go.Proofs.Ytafmgmaelnpehaa
open Go.RowKit Go.TL Go.Shelf Go.Fu
attribute [local go_sem] Oper.semAt_some
open PFurrowAsks
set_option maxRecDepth 100000 in
set_option maxHeartbeats 600000 in
theorem worst_body {w : World} {A : Option Addr} {l : List (Int × Int)} {c b5 b6 n b8 b9 bC b10 : Nat} {s : Int × Int} {m ls : Bool} {own : Int} {V : World} (h : WoR w A l c b5 b6 n b8 b9 bC s m ls V) (h10 : Boxed V b10 3 (.int .i64 own)) (hb10 : bC < b10)
    (hl : l.length ≤ 8) (hl3 : 3 ≤ l.length) (hok : ∀ x ∈ l, okSpan x) (hn : n < l.length) (l1 : Nat) (t : Array Value)
    (hF : Slots [none, none, none, none, none, some (.pointer (some ⟨b5, 0, none⟩)), some (.pointer (some ⟨b6, 0, none⟩)), none, some (.pointer (some ⟨b8, 0, none⟩)), some (.pointer (some ⟨b9, 0, none⟩)), some (.pointer (some ⟨b10, 0, none⟩)), none, none, none, none, none, none, none, none, none, none, none, none, none, none, none, none, none, none, none, none, none, none, none, none, none, none, none, none, none, none, none, none, none, none, none, none, none, none, none, none, none, none, none, none, none, none, none, none, none, none, none, none, none, none, none, none, none, none, none] t) :
    Exec Try.prog (some l1) (sub (Try.f21.body.getD .skip) [1,1,1,0,1,0,0,1,0, 0,1,1,0,1, 0,1]) t V fun e _ W => e = .normal ∧ WoR w A l c b5 b6 n b8 b9 bC s (m || canB l (wp1 own n)) (ls || lessO l own n (l.length - 1)) W := by
  obtain ⟨x, hx⟩ := Slots.open_ hF; simp only [fill, Nat.reduceAdd] at hx; subst hx; clear hF
  refine exec_block ?_
  have k8 := h.m.cell
  have f8 := h.m.frozen
  have k5 := h.b.f.cell
  refine exec_seq (exec_region_r fun ds => ?_)
  by_cases hx : m = true
  · subst hx
    gi_wp2_with fail
    refine ⟨trivial, ?_⟩
    gi_wp2
    refine eq_mk ((Keep.refl _).setCell _ _) ?_
    show Exec _ _ _ _ _ _
    refine (worst_in (h.setM true) (boxed_far h10 _ (by have := h.o9; have := h.oC; omega)) hb10 hl hl3 hok hn l1 _ (by simp only [Slots, Fits, and_self])).mono ?_
    rintro e t W ⟨rfl, hW⟩
    exact ⟨rfl, hW⟩
  · have hx' : m = false := by simpa using hx
    subst hx'
    gi_wp2_with fail
    refine ⟨trivial, rfl, (CallsIn.inRound l1 (callsIn_wide.2 (can_any A c l hl hok (wp1 own n) V h.b.sp 61 _ (may61 b10 b6 own n V h10 h.b.n)))).mono ?_⟩
    rintro e W1 ⟨rfl, hw1⟩
    have r1 := h.grow (Grow.of_below (B := w.heap.size) hw1) (Nat.le_refl _)
    have r10 : Boxed W1 b10 3 (.int .i64 own) := (hw1.block _ h10.lt).trans h10
    have HS1 := r1.setM (canB l (wp1 own n))
    have k8 := r1.m.cell
    have f8 := r1.m.frozen
    have hK := Keep.of_below hw1
    have hoo := r1.o9
    have hoC := r1.oC
    clear hw1 h h10 k5 r1
    generalize hcb : canB l (wp1 own n) = cb at *
    have HC := Lib.hid hcb
    clear hcb
    gi_wp2
    refine eq_mk (hK.setCell _ _) ?_
    show Exec _ _ _ _ _ _
    refine (worst_in HS1 (boxed_far r10 _ (by omega)) hb10 hl hl3 hok hn l1 _ (by simp only [Slots, Fits, and_self])).mono ?_
    rintro e t W ⟨rfl, hW⟩
    exact ⟨rfl, by rw [HC.out]; simpa using hW⟩
end Go.Proofs.Ytafmgmaelnpehaa
end

section
set_option linter.unusedVariables false
set_option linter.unusedSimpArgs false
namespace Go.Proofs.Ytafmgmaelnpehaa
open Go.RowKit Go.TL Go.Shelf Go.Fu
attribute [local go_sem] Oper.semAt_some
open PFurrowAsks
def AtOk (st : Bool × Int × Int) : Prop := 0 ≤ st.2.1 ∧ st.2.1 ≤ st.2.2 ∧ st.2.2 ≤ 4000
theorem step1_ok {st : Bool × Int × Int} {n : Int} (h : AtOk st) (hn : 0 ≤ n ∧ n ≤ 4000) : AtOk (step1 st n) := by
  obtain ⟨h1, h2, h3⟩ := h
  unfold step1 AtOk
  simp only
  repeat' split
  all_goals (simp only; omega)
theorem foldl_ok {α β : Type} (I : β → Prop) (f : β → α → β) : ∀ (l : List α) (s : β), I s → (∀ s a, a ∈ l → I s → I (f s a)) → I (l.foldl f s)
  | [], _, h, _ => h
  | a :: l, s, h, hf => foldl_ok I f l (f s a) (hf s a List.mem_cons_self h) fun s b hb => hf s b (List.mem_cons_of_mem _ hb)
theorem atF_ok (l : List (Int × Int)) (s : Nat) (h1 : 1 ≤ s) (h2 : s + 1 < l.length) (hok : ∀ x ∈ l, okSpan x) : 0 ≤ (atF l s).1 ∧ (atF l s).1 ≤ (atF l s).2 ∧ (atF l s).2 ≤ 4000 := by
  have : AtOk (stA (spanL (l.getD (s - 1) (0, 0))) (spanL (l.getD s (0, 0))) (spanL (l.getD (s + 1) (0, 0))) (false, 0, 0)) :=
    foldl_ok AtOk _ _ _ ⟨by simp, by simp, by simp⟩ fun st a ha hs => foldl_ok AtOk _ _ _ hs fun st b hb hs => foldl_ok AtOk _ _ _ hs fun st c hc hs => step1_ok hs (bendI_bd _ _ _ (span_ok l hok _ (by omega) _ ha) (span_ok l hok _ (by omega) _ hb) (span_ok l hok _ (by omega) _ hc))
  exact this
/-- The station can bend most. -/
noncomputable def worstC (l : List (Int × Int)) (n : Nat) : Bool := decide (1 ≤ n) && (spanL (atF l n)).any fun own => canB l (wp1 own n)
/-- The station surely bends most. -/
noncomputable def worstS (l : List (Int × Int)) (n : Nat) : Bool := decide (1 ≤ n) && !(spanL (atF l n)).any fun own => lessO l own n (l.length - 1)
noncomputable def worstV (b : Bool) (l : List (Int × Int)) : Int × Int × Int := if b then (shM (worstS l) (l.length - 1), shM (worstC l) (l.length - 1), 0) else (0, 0, 1)
theorem any_take {α : Type} (f : α → Bool) (L : List α) (k : Nat) (h : k < L.length) : (L.take (k + 1)).any f = ((L.take k).any f || f (L[k]'h)) := by
  rw [List.take_succ_eq_append_getElem h, List.any_append]
  simp
theorem sh_one (p : Nat → Bool) (h : p 0 = false) : shM p 1 = 0 := by simp [shM, h]
def WoI (w : World) (A : Option Addr) (l : List (Int × Int)) (c b5 : Nat) (j : Nat) (t : Array Value) (W : World) : Prop :=
  ∃ (k b6 : Nat), 1 ≤ k ∧ (k + 1 ≤ l.length ∨ k = 1) ∧ j = l.length - k ∧ WoB w A l c b5 b6 k W ∧
    Slots [none, none, some (.int .i64 (shM (worstS l) k)), some (.int .i64 (shM (worstC l) k)), some (.pointer (some ⟨w.heap.size + 1, 0, none⟩)), some (.pointer (some ⟨b5, 0, none⟩)), some (.pointer (some ⟨b6, 0, none⟩)), none, none, none, none, none, none, none, none, none, none, none, none, none, none, none, none, none, none, none, none, none, none, none, none, none, none, none, none, none, none, none, none, none, none, none, none, none, none, none, none, none, none, none, none, none, none, none, none, none, none, none, none, none, none, none, none, none, none, none, none, none, none, none] t
def WoM (w : World) (A : Option Addr) (l : List (Int × Int)) (c b5 b6 k : Nat) (t : Array Value) (W : World) : Prop :=
  WoB w A l c b5 b6 k W ∧ Slots [none, none, some (.int .i64 (shM (worstS l) (k + 1))), some (.int .i64 (shM (worstC l) (k + 1))), some (.pointer (some ⟨w.heap.size + 1, 0, none⟩)), some (.pointer (some ⟨b5, 0, none⟩)), some (.pointer (some ⟨b6, 0, none⟩)), none, none, none, none, none, none, none, none, none, none, none, none, none, none, none, none, none, none, none, none, none, none, none, none, none, none, none, none, none, none, none, none, none, none, none, none, none, none, none, none, none, none, none, none, none, none, none, none, none, none, none, none, none, none, none, none, none, none, none, none, none, none, none] t
set_option maxRecDepth 100000 in
set_option maxHeartbeats 600000 in
theorem worst_station {w : World} {A : Option Addr} {l : List (Int × Int)} {c b5 b6 k : Nat} {V : World} (h : WoB w A l c b5 b6 k V) (hk : 1 ≤ k) (hkl : k + 1 < l.length)
    (hl : l.length ≤ 8) (hok : ∀ x ∈ l, okSpan x) (t : Array Value)
    (hF : Slots [none, none, some (.int .i64 (shM (worstS l) k)), some (.int .i64 (shM (worstC l) k)), some (.pointer (some ⟨w.heap.size + 1, 0, none⟩)), some (.pointer (some ⟨b5, 0, none⟩)), some (.pointer (some ⟨b6, 0, none⟩)), none, none, none, none, none, none, none, none, none, none, none, none, none, none, none, none, none, none, none, none, none, none, none, none, none, none, none, none, none, none, none, none, none, none, none, none, none, none, none, none, none, none, none, none, none, none, none, none, none, none, none, none, none, none, none, none, none, none, none, none, none, none, none] t) :
    Exec Try.prog none (sub (Try.f21.body.getD .skip) [1,1,1,0,1,0,0,1,0]) t V (andThen (WoM w A l c b5 b6 k) fun _ _ _ => False) := by
  obtain ⟨x, hx⟩ := Slots.open_ hF; simp only [fill, Nat.reduceAdd] at hx; subst hx; clear hF
  refine exec_block ?_
  have k5 := h.f.cell
  have k6 := h.n.cell
  have hat := atF_ok l k hk hkl hok
  refine exec_seq (exec_region_o fun ds => ?_)
  gi_wp2_with fail
  refine ⟨trivial, rfl, (callsIn_wide.2 (at_any A c l k hk hkl hl hok V h.sp)).mono ?_⟩
  rintro e W1 ⟨rfl, hw1⟩
  have h1 := h.grow (Grow.of_below (B := w.heap.size) hw1) (Nat.le_refl _)
  have hK := Keep.of_below hw1
  clear hw1 h k5 k6
  have hsC : ∃ sp, atF l k = sp := ⟨_, rfl⟩
  obtain ⟨⟨lo, hi⟩, hsp⟩ := hsC
  have hC : worstC l k = (spanL (lo, hi)).any fun own => canB l (wp1 own k) := by unfold worstC; rw [hsp]; simp [hk]
  have hS : worstS l k = !(spanL (lo, hi)).any fun own => lessO l own k (l.length - 1) := by unfold worstS; rw [hsp]; simp [hk]
  have HC := Lib.hid hC
  have HS := Lib.hid hS
  clear hC hS
  rw [hsp] at hat ⊢
  clear hsp
  obtain ⟨hat1, hat2, hat3⟩ := hat
  simp only at hat1 hat2 hat3 ⊢
  gi_wp2
  refine eq_mk (hK.alloc _) ?_
  show Exec _ _ _ _ _ _
  have gr := Grow.alloc W1.heap.size W1 (.cells #[.int .i64 lo, .int .i64 hi] 28)
  have h2 := h1.grow gr h1.below.size
  have q7 := Box2.new W1 28 lo hi
  have hl7 := h1.n.lt
  generalize W1.alloc (.cells #[.int .i64 lo, .int .i64 hi] 28) = W2 at *
  clear gr h1 hK
  clear V
  generalize W1.heap.size = b7 at *
  clear W1
  refine exec_seq (exec_region_o fun ds => ?_)
  gi_wp2
  refine eq_mk (((Keep.refl _).alloc _).alloc _) ?_
  show Exec _ _ _ _ _ _
  have gr := (Grow.alloc W2.heap.size W2 (.cells #[.bool false] 4)).trans (Grow.alloc W2.heap.size _ (.cells #[.bool false] 4))
  have h3 := h2.grow gr h2.below.size
  have r7 := gr.box2 q7
  have q8 : Boxed ((W2.alloc (.cells #[.bool false] 4)).alloc (.cells #[.bool false] 4)) W2.heap.size 4 (.bool false) := by (simp only [Boxed, Box2, heap_alloc_at, heap_set_at, World.size_alloc, World.size_setCell]; repeat (first | rfl | rw [if_pos (by omega)] | rw [if_neg (by omega)]))
  have q9 : Boxed ((W2.alloc (.cells #[.bool false] 4)).alloc (.cells #[.bool false] 4)) (W2.heap.size + 1) 4 (.bool false) := by (simp only [Boxed, Box2, heap_alloc_at, heap_set_at, World.size_alloc, World.size_setCell]; repeat (first | rfl | rw [if_pos (by omega)] | rw [if_neg (by omega)]))
  have hl8 := q7.lt
  generalize (W2.alloc (.cells #[.bool false] 4)).alloc (.cells #[.bool false] 4) = W3 at *
  clear gr h2 q7
  generalize W2.heap.size = b8 at *
  clear W2
  have c0 := r7.cell0
  have c1 := r7.cell1
  refine exec_seq (exec_seq (exec_region_o fun ds => ?_))
  gi_wp2_with fail
  refine ⟨trivial, rfl, (callsIn_wide.2 (all_any _ _ _)).mono ?_⟩
  rintro e w' ⟨rfl, rfl⟩
  gi_wp2_with fail
  refine eq_mk ((Keep.refl _).alloc _) ?_
  show Exec _ _ _ _ _ _
  refine exec_block ?_
  have itB : Iter Try.prog 93 #[.pointer (some ⟨W3.heap.size, 0, none⟩)] (fun x : Int => #[.int .i64 x]) (spanL (lo, hi)) (fun k => k = W3.heap.size) (W3.alloc (.cells #[.int .i64 lo, .int .i64 hi] 89)) :=
    all1_iter W3.heap.size lo hi _ (by simp only; omega) (by omega) (by omega) _ (Box2.new W3 89 lo hi)
  have gr := Grow.alloc W3.heap.size W3 (.cells #[.int .i64 lo, .int .i64 hi] 89)
  have hR : WoR w A l c b5 b6 k b8 (b8 + 1) W3.heap.size (lo, hi) false false (W3.alloc (.cells #[.int .i64 lo, .int .i64 hi] 89)) :=
    ⟨h3.grow gr h3.below.size, gr.boxed q8, gr.boxed q9, Box2.new W3 89 lo hi, by omega, by omega, q9.lt⟩
  have hWs := h3.below.size
  clear gr h3 r7 c0 c1 q8 q9
  generalize W3.alloc (.cells #[.int .i64 lo, .int .i64 hi] 89) = W4 at *
  generalize W3.heap.size = bC at *
  clear W3
  have hlC := hR.it.lt
  refine exec_range (L := spanL (lo, hi)) rfl (enters_of Try.func93 (by kernel_rfl) rfl) itB (fun k hk => by omega) (fun _ => rfl)
    (fun j V => WoR w A l c b5 b6 k b8 (b8 + 1) bC (lo, hi) (((spanL (lo, hi)).take j).any fun own => canB l (wp1 own k)) (((spanL (lo, hi)).take j).any fun own => lessO l own k (l.length - 1)) V)
    (fun cd V => False)
    (fun j => fun _ _ h1 hg => h1.grow hg (by omega)) (fun cd => Stab.pure _ _)
    (by simpa using hR) ?round ?done ?ret ?exit
  case ret => exact fun _ h => h.elim
  case exit => exact fun _ _ h => h.elim
  case round =>
    clear hR itB
    rintro l1 j hj V hV hR
    rw [any_take _ _ _ hj, any_take _ _ _ hj]
    generalize (spanL (lo, hi))[j]'hj = own at *
    generalize (((spanL (lo, hi)).take j).any fun own => canB l (wp1 own k)) = m at *
    generalize (((spanL (lo, hi)).take j).any fun own => lessO l own k (l.length - 1)) = ls at *
    refine exec_region_r fun ds => ?_
    gi_wp2
    have hS0 : Same (fun q => q = bC) V (V.alloc (.cells #[.int .i64 own] 3)) := Same.of_below ((Below.refl V.heap.size V).alloc (Nat.le_refl _) _) (fun q hq => by rw [hq]; exact hR.it.lt)
    refine eq_mk ((Keep.refl _).alloc _) ⟨rfl, hS0, ?_⟩
    intro V1 hG hsz1
    have gr := (Grow.alloc W4.heap.size V (.cells #[.int .i64 own] 3)).trans hG
    have h10 := hG.boxed (Boxed.new V 3 (.int .i64 own))
    have r1 := hR.grow gr (by omega)
    refine (worst_body r1 h10 hR.it.lt hl (by omega) hok (by omega) l1 _ (by simp only [Slots, Fits, and_self])).mono ?_
    rintro e t W ⟨rfl, hW⟩
    exact ⟨fun q hq => by rw [hq]; exact (show W.heap[bC]? = _ from hW.it).trans (show V1.heap[bC]? = _ from r1.it).symm, hW⟩
  case done =>
    clear itB
    clear hR
    rintro W hR
    rw [List.take_length, ← HC.out, show (spanL (lo, hi)).any (fun own => lessO l own k (l.length - 1)) = !worstS l k from by rw [HS.out]; simp] at hR
    have k8 := hR.m.cell
    have k9 := hR.ls.cell
    have k6 := hR.b.n.cell
    have hk8 : k < 8 := by omega
    refine exec_cut (fun t W => WoR w A l c b5 b6 k b8 (b8 + 1) bC (lo, hi) (worstC l k) (!worstS l k) W ∧ Slots [none, none, some (.int .i64 (shM (worstS l) k)), some (.int .i64 (shM (worstC l) (k + 1))), some (.pointer (some ⟨w.heap.size + 1, 0, none⟩)), some (.pointer (some ⟨b5, 0, none⟩)), some (.pointer (some ⟨b6, 0, none⟩)), none, none, some (.pointer (some ⟨b8 + 1, 0, none⟩)), none, none, none, none, none, none, none, none, none, none, none, none, none, none, none, none, none, none, none, none, none, none, none, none, none, none, none, none, none, none, none, none, none, none, none, none, none, none, none, none, none, none, none, none, none, none, none, none, none, none, none, none, none, none, none, none, none, none, none, none] t) (exec_seq (exec_region_o fun ds => ?_)) ?second
    case second =>
      clear hR k8 k9 k6
      clear W
      rintro t W ⟨hR, hSl⟩
      obtain ⟨x, hx⟩ := Slots.open_ hSl; simp only [fill, Nat.reduceAdd] at hx; subst hx; clear hSl
      have k9 := hR.ls.cell
      have k6 := hR.b.n.cell
      refine exec_seq (exec_region_o fun ds => ?_)
      gi_wp2
      refine eq_mk (Keep.refl _) ?_
      show Exec _ _ _ _ _ _
      refine exec_cond (b := worstS l k) (by simp [ev, go_sem, Act.eval]) (fun hp => exec_region_o fun ds => ?_) (fun hp => exec_skip ?_)
      · gi_wp2
        refine eq_mk (Keep.refl _) ?_
        exact ⟨hR.b, by simp [Slots, Fits, shM, hp]⟩
      · exact ⟨hR.b, by simp [Slots, Fits, shM, hp]⟩
    gi_wp2
    refine eq_mk (Keep.refl _) ?_
    show Exec _ _ _ _ _ _
    refine exec_cond (b := worstC l k) rfl (fun hp => exec_region_o fun ds => ?_) (fun hp => exec_skip ?_)
    · gi_wp2
      refine eq_mk (Keep.refl _) ?_
      exact ⟨hR, by simp [Slots, Fits, shM, hp]⟩
    · exact ⟨hR, by simp [Slots, Fits, shM, hp]⟩
set_option maxRecDepth 100000 in
set_option maxHeartbeats 600000 in
theorem Worst_any (F : Fur) (b : Bool) (w : World) (h : F.At w) (hi : F.Is b) (h8 : b = true → F.l0.length ≤ 8 ∧ ∀ x ∈ F.pl, okSpan x) :
    Calls Try.prog 21 #[F.val] w fun e w' => e = .returned (.tuple #[.int .i64 (worstV b F.pl).1, .int .i64 (worstV b F.pl).2.1, .int .i64 (worstV b F.pl).2.2]) ∧ Below w.heap.size w w' := by
  have hmf : ∀ fn first cap w, (Instr.makeFunc fn first cap).run Try.prog w = .ok (.func fn first cap) w := fun _ _ _ _ => rfl
  refine (callsIn_wide (n := 0)).1 (callsIn_of_wp_marks Try.func21 rfl trivial ?_)
  simp only [Try.ntmps21, List.size_toArray, List.length_cons, List.length_nil, Nat.reduceAdd, Nat.reduceSub, Array.replicate_succ, Array.replicate_zero, List.push_toArray, List.append_toArray, List.nil_append, List.cons_append]
  simp only [Fur.val]
  refine split_rest fun rest hR => ?_
  gi_wp2
  have hB := ((Below.refl w.heap.size w).alloc (Nat.le_refl _) (.cells #[F.s0, F.s1, F.s2] 24)).alloc (by simp) (.cells #[.int .i64 0] 29)
  have b1 : Box3 ((w.alloc (.cells #[F.s0, F.s1, F.s2] 24)).alloc (.cells #[.int .i64 0] 29)) w.heap.size 24 F.s0 F.s1 F.s2 := (Box3.new w 24 F.s0 F.s1 F.s2).grow (Grow.alloc 0 _ _)
  have b3 : Boxed ((w.alloc (.cells #[F.s0, F.s1, F.s2] 24)).alloc (.cells #[.int .i64 0] 29)) (w.heap.size + 1) 29 (.int .i64 0) := by (simp only [Boxed, Box2, heap_alloc_at, heap_set_at, World.size_alloc, World.size_setCell]; repeat (first | rfl | rw [if_pos (by omega)] | rw [if_neg (by omega)]))
  refine guard_rest (lo := w.heap.size) (T := 132) (b := w.heap.size + 1) catches60 ⟨_, _, rfl⟩ (fun W => by simp [go_sem]) hB.size ?_
  subst hR
  generalize (w.alloc (.cells #[F.s0, F.s1, F.s2] 24)).alloc (.cells #[.int .i64 0] 29) = V at *
  clear hmf
  have hF := h.below hB
  have c0 := b1.cell0
  have c1 := b1.cell1
  have c2 := b1.cell2
  refine exec_seq (exec_region_o fun ds => ?_)
  gi_wp2_with fail
  by_cases hb : b = false
  · subst hb
    refine ⟨trivial, rfl, (callsIn_wide.2 (open_no1 F _ V hF hi)).mono ?_⟩
    rintro e W2 ⟨rfl, hw2⟩
    refine eq_mk (Keep.of_below hw2) ?_
    refine .inr ⟨1, 29, 0, rfl, (hw2.block _ b3.lt).trans b3, ?_⟩
    rintro W' W'' hG rfl
    have hB2 := hB.trans (hw2.mono hB.size)
    have d3 := hG.boxed (show Boxed W2 (w.heap.size + 1) 29 (.int .i64 0) from (hw2.block _ b3.lt).trans b3)
    exact ⟨_, results_two rfl rfl rfl rfl (boxed_set d3 _), rfl, (hB2.trans (hG.below (Nat.le_refl _) hB2.size)).setCell (by show w.heap.size ≤ w.heap.size + 1; omega) _⟩
  have hb' : b = true := by simpa using hb
  subst hb'
  obtain ⟨hl8, hok⟩ := h8 rfl
  refine ⟨trivial, rfl, (callsIn_wide.2 (open_yes F V hF hi hl8)).mono ?_⟩
  rintro e W2 ⟨A, c, rfl, hc, hsp, hw2, hAb⟩
  gi_wp2_with fail
  refine eq_mk ((Keep.of_below hw2).alloc _) ?_
  show Exec _ _ _ _ _ _
  have hpl : F.l0.length = F.pl.length := F.pl_len.symm
  have hsp0 : Spans W2 A F.pl := hsp
  have hB2 := hB.trans (hw2.mono hB.size)
  have d3 : Boxed W2 (w.heap.size + 1) 29 (.int .i64 0) := (hw2.block _ b3.lt).trans b3
  have hV2 : w.heap.size + 1 < W2.heap.size := d3.lt
  clear hsp b1 b3 c0 c1 c2 hF hB hw2 hAb
  clear V
  rw [hpl] at hl8 hc ⊢
  generalize F.pl = l at *
  have hA2 := hsp0.lt
  have gr := Grow.alloc W2.heap.size W2 (.cells #[.slice A l.length c] 79)
  have e1 := Boxed.new W2 79 (.slice A l.length c)
  have e2 := hsp0.grow gr
  have e4 := gr.boxed d3
  have e5 := hB2.alloc hB2.size (.cells #[.slice A l.length c] 79)
  generalize W2.alloc (.cells #[.slice A l.length c] 79) = W3 at *
  clear gr hsp0 d3 hB2
  generalize W2.heap.size = b5 at *
  clear W2
  refine exec_seq (exec_seq (exec_region_o fun ds => ?_))
  gi_wp2
  refine eq_mk ((Keep.refl _).alloc _) ?_
  show Exec _ _ _ _ _ _
  refine exec_block ?_
  have gr : Grow 0 W3 (W3.alloc (.cells #[.int .i64 1] 3)) := Grow.alloc _ _ _
  have hWB : WoB w A l c b5 W3.heap.size 1 (W3.alloc (.cells #[.int .i64 1] 3)) :=
    ⟨gr.boxed e1, e2.grow gr, hA2, Boxed.new W3 3 _, gr.boxed e4, e5.alloc e5.size _, hV2, e1.lt⟩
  generalize W3.alloc (.cells #[.int .i64 1] 3) = W at *
  clear gr e1 e2 e4 e5 hA2
  generalize W3.heap.size = b6 at *
  clear W3
  have hw1 : worstC l 0 = false := rfl
  have hw2 : worstS l 0 = false := rfl
  refine exec_loop (WoI w A l c b5) (l.length - 1) ⟨1, b6, by omega, by omega, rfl, hWB, by rw [sh_one _ hw1, sh_one _ hw2]; exact (by simp only [Slots, Fits, and_self])⟩ ?_
  clear hWB
  clear W b6
  clear hc
  rintro j t W ⟨k, b6, hk, hkl, rfl, hWB, hSl⟩
  obtain ⟨x, hx⟩ := Slots.open_ hSl; simp only [fill, Nat.reduceAdd] at hx; subst hx; clear hSl
  have k5 := hWB.f.cell
  have k6 := hWB.n.cell
  have hkI : (k : Int) ≤ 8 := by omega
  refine exec_seq (exec_seq (exec_region_o fun ds => ?_))
  gi_wp2
  refine eq_mk (Keep.refl _) ?_
  show Exec _ _ _ _ _ _
  refine exec_cond (b := decide ((k : Int) + 1 < l.length)) rfl (fun hp => exec_skip ?_) (fun hp => exec_exit ?_)
  · have hkl : k + 1 < l.length := by have := of_decide_eq_true hp; omega
    show Exec _ _ _ _ _ _
    refine exec_cut (WoM w A l c b5 b6 k) ((worst_station hWB hk hkl hl8 hok _ (by simp only [Slots, Fits, and_self])).mono ?_) ?_
    · intro e t W h
      cases e <;> first | exact h | exact h.elim
    clear hWB k5 k6
    clear W
    rintro t W ⟨hWB, hSl⟩
    obtain ⟨x, hx⟩ := Slots.open_ hSl; simp only [fill, Nat.reduceAdd] at hx; subst hx; clear hSl
    have k6 := hWB.n.cell
    refine exec_seq (exec_seq (exec_region_o fun ds => ?_))
    gi_wp2
    refine eq_mk (Keep.refl _) ?_
    show Exec _ _ _ _ _ _
    refine exec_region_o fun ds => ?_
    gi_wp2
    refine eq_mk ((Keep.refl _).alloc _) ?_
    show Exec _ _ _ _ _ _
    have gr := Grow.alloc W.heap.size W (.cells #[.int .i64 k] 3)
    have g1 := hWB.grow gr hWB.below.size
    have g3 := Boxed.new W 3 (.int .i64 k)
    have hlt := hWB.f.lt
    generalize W.alloc (.cells #[.int .i64 k] 3) = X at *
    clear hWB gr k6
    generalize W.heap.size = b6' at *
    clear W
    have k6 := g3.cell
    have f6 := g3.frozen
    refine exec_region_o fun ds => ?_
    gi_wp2
    refine eq_mk ((Keep.refl _).setCell _ _) ?_
    obtain ⟨h1, h2, h3, h4, h5, h6, h7, h8⟩ := g1
    refine ⟨l.length - (k + 1), by omega, k + 1, b6', by omega, by omega, rfl, ⟨boxed_far h1 _ (by omega), h2.far' (fun hl a ha => by have := h3 hl a ha; show _ ≠ b6'; omega), h3, ?_, boxed_far h5 _ (by omega), h6.setCell (by show w.heap.size ≤ b6'; omega) _, h7, hlt⟩, (by simp only [Slots, Fits, and_self])⟩
    exact boxed_set g3 _
  · have hkl2 : shM (worstS l) (l.length - 1) = shM (worstS l) k ∧ shM (worstC l) (l.length - 1) = shM (worstC l) k := by
      have := of_decide_eq_false hp
      by_cases e : k = l.length - 1
      · rw [e]; exact ⟨rfl, rfl⟩
      · have e1 : k = 1 := by omega
        have e2 : l.length - 1 = 0 := by omega
        rw [e1, e2, sh_one _ hw1, sh_one _ hw2]
        exact ⟨rfl, rfl⟩
    show Exec _ _ _ _ _ _
    have hE := hWB.e
    have hBe := hWB.below
    have f3 := hE.cell
    have f3f := hE.frozen
    clear hp
    refine exec_seq (exec_region_o fun ds => ?_)
    gi_wp2
    have g4 := boxed_set hE (.int .i64 0)
    have hB5 := hBe.setCell (p := ⟨w.heap.size + 1, 0, none⟩) (by show w.heap.size ≤ w.heap.size + 1; omega) (.int .i64 0)
    refine eq_mk ((Keep.refl _).setCell _ _) (exec_ret (.inl ⟨.inr rfl, g4.lt, fun W' hG => ⟨_, results_two rfl rfl rfl rfl (hG.boxed g4), ?_, hB5.trans (hG.below (Nat.le_refl _) hB5.size)⟩⟩))
    show _ = Ending.returned (.tuple #[.int .i64 (shM (worstS l) (l.length - 1)), .int .i64 (shM (worstC l) (l.length - 1)), .int .i64 0])
    rw [hkl2.1, hkl2.2]
end Go.Proofs.Ytafmgmaelnpehaa
end

section
set_option linter.unusedVariables false
set_option linter.unusedSimpArgs false
namespace Go.Fu
/-- Station i's offset is one of its span. -/
def InS (l : List (Int × Int)) (i : Nat) (a : Int) : Prop := (l.getD i (0, 0)).1 ≤ a ∧ a ≤ (l.getD i (0, 0)).2
def Truth (l : List (Int × Int)) (x : Nat → Int) : Prop := ∀ i, i < l.length → InS l i (x i)
def bnd (x : Nat → Int) (n : Nat) : Int := bendI (x (n - 1)) (x n) (x (n + 1))
theorem mem_in (l : List (Int × Int)) (i : Nat) (a : Int) : a ∈ spanL (l.getD i (0, 0)) ↔ InS l i a := mem_spanL _ _
theorem bnd_congr {x y : Nat → Int} {n : Nat} (h1 : x (n - 1) = y (n - 1)) (h2 : x n = y n) (h3 : x (n + 1) = y (n + 1)) : bnd x n = bnd y n := by unfold bnd; rw [h1, h2, h3]
theorem reach_iff (l : List (Int × Int)) (p : Int → Int → Bool) : ∀ (m : Nat) (q : Int × Int), Reach l p (m + 1) q ↔
    ∃ y : Nat → Int, (∀ i, i ≤ m + 1 → InS l i (y i)) ∧ y m = q.1 ∧ y (m + 1) = q.2 ∧ ∀ n, 1 ≤ n → n ≤ m → p n (bnd y n) = true
  | 0, q => by
    show (_ ∧ _) ↔ _
    rw [mem_in, mem_in]
    constructor
    · rintro ⟨h1, h2⟩
      refine ⟨fun i => if i = 0 then q.1 else q.2, fun i hi => ?_, rfl, rfl, fun n h1 h2 => by omega⟩
      by_cases e : i = 0
      · subst e; exact h1
      · obtain rfl : i = 1 := by omega
        exact h2
    · rintro ⟨y, h, e1, e2, _⟩
      rw [← e1, ← e2]
      exact ⟨h 0 (by omega), h 1 (by omega)⟩
  | m + 1, q => by
    show (_ ∧ ∃ a, Reach l p (m + 1) (a, q.1) ∧ _) ↔ _
    rw [mem_in]
    constructor
    · rintro ⟨h1, a, h2, h3⟩
      obtain ⟨y, hy, e1, e2, hp⟩ := (reach_iff l p m _).1 h2
      simp only at e1 e2
      refine ⟨fun i => if i = m + 2 then q.2 else y i, fun i hi => ?_, ?_, ?_, fun n hn1 hn2 => ?_⟩
      · by_cases e : i = m + 2
        · subst e; simpa using h1
        · simp only [e, if_false]; exact hy i (by omega)
      · simp only [show m + 1 ≠ m + 2 by omega, if_false]; exact e2
      · simp
      · by_cases e : n = m + 1
        · subst e
          have : bnd (fun i => if i = m + 2 then q.2 else y i) (m + 1) = bendI a q.1 q.2 := by
            unfold bnd
            simp only [Nat.add_sub_cancel, show m ≠ m + 2 by omega, show m + 1 ≠ m + 2 by omega, if_false, if_true, e1, e2]
          rw [this]
          exact_mod_cast h3
        · rw [bnd_congr (y := y) (by simp only [show n - 1 ≠ m + 2 by omega, if_false]) (by simp only [show n ≠ m + 2 by omega, if_false]) (by simp only [show n + 1 ≠ m + 2 by omega, if_false])]
          exact hp n hn1 (by omega)
    · rintro ⟨y, h, e1, e2, hp⟩
      refine ⟨e2 ▸ h (m + 2) (by omega), y m, (reach_iff l p m _).2 ⟨y, fun i hi => h i (by omega), rfl, e1, fun n h1 h2 => hp n h1 (by omega)⟩, ?_⟩
      have := hp (m + 1) (by omega) (by omega)
      unfold bnd at this
      rw [Nat.add_sub_cancel, e1, e2] at this
      exact_mod_cast this
theorem lo_in {l : List (Int × Int)} (hok : ∀ x ∈ l, okSpan x) (i : Nat) (h : i < l.length) : InS l i (l.getD i (0, 0)).1 := by
  obtain ⟨_, h2, _⟩ := hok _ (getD_mem l i h)
  exact ⟨Int.le_refl _, h2⟩
theorem canB_iff (l : List (Int × Int)) (p : Int → Int → Bool) (hok : ∀ x ∈ l, okSpan x) : canB l p = true ↔ ∃ x, Truth l x ∧ ∀ n, 1 ≤ n → n + 1 < l.length → p n (bnd x n) = true := by
  unfold canB
  simp only [decide_eq_true_eq]
  unfold canP
  by_cases h : l.length < 3
  · exact ⟨fun _ => ⟨fun i => (l.getD i (0, 0)).1, fun i hi => lo_in hok i hi, fun n h1 h2 => by omega⟩, fun _ => .inl h⟩
  · obtain ⟨m, hm⟩ : ∃ m, l.length = m + 3 := ⟨l.length - 3, by omega⟩
    rw [hm]
    constructor
    · rintro (h' | ⟨q, hq⟩)
      · omega
      · obtain ⟨y, h1, _, _, h2⟩ := (reach_iff l p (m + 1) q).1 hq
        exact ⟨y, fun i hi => h1 i (by omega), fun n h1 h3 => h2 n h1 (by omega)⟩
    · rintro ⟨x, h1, h2⟩
      exact .inr ⟨(x (m + 1), x (m + 2)), (reach_iff l p (m + 1) _).2 ⟨x, fun i hi => h1 i (by omega), rfl, rfl, fun n h3 h4 => h2 n h3 (by omega)⟩⟩
/-! ### Computing it -/
def reachD (l : List (Int × Int)) (p : Int → Int → Bool) : Nat → List (Int × Int)
  | 0 => []
  | 1 => (spanL (l.getD 0 (0, 0))).flatMap fun a => (spanL (l.getD 1 (0, 0))).map fun b => (a, b)
  | n + 2 => (reachD l p (n + 1)).flatMap fun x => ((spanL (l.getD (n + 2) (0, 0))).filter fun c => p ((n : Int) + 1) (bendI x.1 x.2 c)).map fun c => (x.2, c)
theorem mem_reachD (l : List (Int × Int)) (p : Int → Int → Bool) : ∀ (n : Nat) (q : Int × Int), q ∈ reachD l p n ↔ Reach l p n q
  | 0, q => by simp [reachD, Reach]
  | 1, q => by
    simp only [reachD, Reach, List.mem_flatMap, List.mem_map]
    constructor
    · rintro ⟨a, ha, b, hb, rfl⟩; exact ⟨ha, hb⟩
    · rintro ⟨h1, h2⟩; exact ⟨q.1, h1, q.2, h2, rfl⟩
  | n + 2, q => by
    simp only [reachD, Reach, List.mem_flatMap, List.mem_map, List.mem_filter]
    constructor
    · rintro ⟨x, hx, c, ⟨hc, hp⟩, rfl⟩
      exact ⟨hc, x.1, (mem_reachD l p (n + 1) _).1 hx, hp⟩
    · rintro ⟨h1, a, h2, h3⟩
      exact ⟨(a, q.1), (mem_reachD l p (n + 1) _).2 h2, q.2, ⟨h1, h3⟩, rfl⟩
def canD (l : List (Int × Int)) (p : Int → Int → Bool) : Bool := decide (l.length < 3) || !(reachD l p (l.length - 1)).isEmpty
theorem canB_eq (l : List (Int × Int)) (p : Int → Int → Bool) : canB l p = canD l p := by
  unfold canB canD canP
  rw [Bool.eq_iff_iff]
  simp only [decide_eq_true_eq, Bool.or_eq_true, Bool.not_eq_true', ← mem_reachD]
  constructor
  · rintro (h | ⟨x, hx⟩)
    · exact .inl h
    · refine .inr ?_
      cases hr : reachD l p (l.length - 1) with
      | nil => rw [hr] at hx; cases hx
      | cons a r => rfl
  · rintro (h | h)
    · exact .inl h
    · cases hr : reachD l p (l.length - 1) with
      | nil => rw [hr] at h; cases h
      | cons a r => exact .inr ⟨a, by simp⟩
end Go.Fu
end

section
namespace Go.Proofs.Ytafmgmaelnpehaa.PFurrowAsks
open Go.RowKit Go.Proofs.YtafmgmaelnpehaaW.PrintWords Go.Proofs.YtafmgmaelnpehaaW.PrintLast Go.Proofs.YtafmgmaelnpehaaW.PrintMore
attribute [local go_sem] max2_int min2_int max_two min_two max_three min_three max_four min_four   -- for this text's walks alone
set_option linter.unusedVariables false
set_option linter.unusedSimpArgs false

/-! ### furrowworkslaw04_span: function 31 -/
def furrowworkslaw04_span.f (a0 : Int) (a1 : Int) : Option (Int × Int) := some (a0, a1)
set_option maxHeartbeats 8000000 in
set_option maxRecDepth 100000 in
theorem furrowworkslaw04_span.calls (a0 : Int) (a1 : Int) (r1 : Int) (r2 : Int) (w : World) (h : furrowworkslaw04_span.f a0 a1 = some (r1, r2)) :
    Calls Try.prog 31 #[.int .i64 a0, .int .i64 a1] w fun e w' => e = .returned (.agg #[.int .i64 r1, .int .i64 r2]) ∧ Below w.heap.size w w' := by
  have hu28 := Try.underlying28
  have HB := Aside0.mk (Below.refl w.heap.size w)
  have H : (some (a0, a1)) = some (r1, r2) := h
  clear h
  simp only [Option.some.injEq, Prod.mk.injEq] at H
  obtain ⟨rfl, rfl⟩ := H
  go_enter Try.func31, Try.ntmps31
  go_wp2_with (first | ((with_reducible refine gate_dst (N := 4) rfl ?_); refine box_event ?hg (N := 4) ?hd (cs := #[.int .i64 0, .int .i64 0]) (t := 28) ?hr ?_; (case hd => rfl); (case hg => rfl); (case hr => first | (go_simp; done) | (go_simp; rfl)); intro gb130 hg w3 hbox hb; have n0_ := Aside0.mk (below_step (by repeat (first | (with_reducible first | exact HB.out | apply below_alloc | apply pw_below_drewN | apply below_drew1) | exact HB.out)) hb); have n1_ := Aside0.mk (hbox); have n2_ := Aside0.mk ((by rw [hg]; exact (below_size (by repeat (first | (with_reducible first | exact HB.out | apply below_alloc | apply pw_below_drewN | apply below_drew1) | exact HB.out))) : w.heap.size ≤ gb130)); have n3_ := Aside0.mk ((by rw [hg]; exact (below_size (by repeat (first | (with_reducible first | exact HB.out | apply below_alloc | apply pw_below_drewN | apply below_drew1) | exact HB.out))) : w.heap.size ≤ gb130)); clear HB; have HB := n0_; have BK130 := n1_; have GW130 := n2_; have GE130 := n3_; clear n0_ n1_ n2_ n3_; clear hb hbox hg; have hcz4_0 : w3.cell? ⟨gb130, 0, none⟩ = some (.int .i64 0) := (blk_cell BK130.out 0).trans rfl; have hcz4_1 : w3.cell? ⟨gb130, 1, none⟩ = some (.int .i64 0) := (blk_cell BK130.out 1).trans rfl; have hfz4_0 := blk_frozen BK130.out 0; have hfz4_1 := blk_frozen BK130.out 1))
  refine bodyPost_ret (results_cell_row rfl _ _ gb130 28 #[.int .i64 a0, .int .i64 a1] (0, 0) _ rfl (by (with_reducible repeat (first | refine blk_drewN ?_ _ | refine blk_drew ?_ | refine blk_alloc ?_ _)); refine blk_put (cs := #[.int .i64 a0, .int .i64 0]) ?_ 1 _ rfl; (with_reducible repeat (first | refine blk_drewN ?_ _ | refine blk_drew ?_ | refine blk_alloc ?_ _)); refine blk_put (cs := #[.int .i64 0, .int .i64 0]) ?_ 0 _ rfl; (with_reducible repeat (first | refine blk_drewN ?_ _ | refine blk_drew ?_ | refine blk_alloc ?_ _)); exact BK130.out) Try.underlying28 rfl (by kernel_rfl)) rfl ?_
  exact ⟨by first | rfl | (simp [errW_none, errW_some] <;> rfl) | (simp [*, errW_none, errW_some] <;> rfl), by repeat (first | (with_reducible first | exact HB.out | apply below_alloc | apply pw_below_drewN | apply below_drew1 | refine below_set ?_ GE130.out) | exact HB.out)⟩

end Go.Proofs.Ytafmgmaelnpehaa.PFurrowAsks
end

section
namespace Go.Proofs.Ytafmgmaelnpehaa.PFurrowAsks
open Go.RowKit Go.Proofs.YtafmgmaelnpehaaW.PrintWords Go.Proofs.YtafmgmaelnpehaaW.PrintLast Go.Proofs.YtafmgmaelnpehaaW.PrintMore
attribute [local go_sem] max2_int min2_int max_two min_two max_three min_three max_four min_four   -- for this text's walks alone
set_option linter.unusedVariables false
set_option linter.unusedSimpArgs false

/-! ### furrowworkslaw04_sample: function 30 -/
def furrowworkslaw04_sample.l0 : Nat → Int → Int → List (S28) → List (S28) → List (S28) → Option ((List (S28)) × (List (S28)) × (List (S28)))
  | 0, _, _, _, _, _ => none
  | k + 1, x17, x18, x159000, x159001, x159002 => if x18 < x17 then ((furrowworkslaw04_span.f 30 30).bind fun bt159 => (if x159001.length < 8796093022208 then (furrowworkslaw04_sample.l0 k x17 (wrap64 (x18 + 1)) x159000 (x159001 ++ [(⟨bt159.1, bt159.2⟩ : S28)]) x159002) else (none))) else (some (x159000, x159001, x159002))
def furrowworkslaw04_sample.f (k : Nat)  : Option ((List (S28)) × (List (S28)) × (List (S28))) := (furrowworkslaw04_span.f 0 1).bind fun bt132 => ((furrowworkslaw04_span.f 2 3).bind fun bt134 => ((furrowworkslaw04_span.f 0 0).bind fun bt136 => ((furrowworkslaw04_span.f 1 1).bind fun bt138 => ((furrowworkslaw04_span.f 5 6).bind fun bt140 => ((some (([(⟨bt132.1, bt132.2⟩ : S28), (⟨bt134.1, bt134.2⟩ : S28), (⟨bt136.1, bt136.2⟩ : S28), (⟨bt138.1, bt138.2⟩ : S28), (⟨bt140.1, bt140.2⟩ : S28)] : List (S28)) : List (S28))).bind fun y142 => ((furrowworkslaw04_span.f 15 16).bind fun bt145 => ((furrowworkslaw04_span.f 14 18).bind fun bt147 => ((furrowworkslaw04_span.f 15 15).bind fun bt149 => ((furrowworkslaw04_span.f 12 14).bind fun bt151 => ((furrowworkslaw04_span.f 16 17).bind fun bt153 => (furrowworkslaw04_sample.l0 k (y142.length : Int) 0 y142 ([] : List (S28)) (([(⟨bt145.1, bt145.2⟩ : S28), (⟨bt147.1, bt147.2⟩ : S28), (⟨bt149.1, bt149.2⟩ : S28), (⟨bt151.1, bt151.2⟩ : S28), (⟨bt153.1, bt153.2⟩ : S28)] : List (S28))))))))))))))
theorem furrowworkslaw04_sample.mono_l : ∀ k, (∀ y0 y1 y2 y3 y4, LeO (furrowworkslaw04_sample.l0 k y0 y1 y2 y3 y4) (furrowworkslaw04_sample.l0 (k + 1) y0 y1 y2 y3 y4))
  | 0 => fun _ _ _ _ _ r h => by simp [furrowworkslaw04_sample.l0] at h
  | k + 1 => by
    have ih0 := furrowworkslaw04_sample.mono_l k
    · intro y0 y1 y2 y3 y4
      unfold furrowworkslaw04_sample.l0
      repeat' first
      | (with_reducible exact ih0 _ _ _ _ _)
      | (with_reducible exact LeO.refl _)
      | (with_reducible exact LeO.none _)
      | (with_reducible refine LeO.ite ?_ ?_)
      | (with_reducible refine LeO.bind ?_ (fun _ => ?_))
      | exact ih0 _ _ _ _ _
      | exact LeO.none _
      | refine LeO.ite ?_ ?_
      | refine LeO.bind ?_ (fun _ => ?_)
theorem furrowworkslaw04_sample.mono : ∀ k, LeO (furrowworkslaw04_sample.f k ) (furrowworkslaw04_sample.f (k + 1) ) := by
  intro  k
  have ih0 := furrowworkslaw04_sample.mono_l k
  unfold furrowworkslaw04_sample.f
  repeat' first
      | (with_reducible exact ih0 _ _ _ _ _)
      | (with_reducible exact LeO.refl _)
      | (with_reducible exact LeO.none _)
      | (with_reducible refine LeO.ite ?_ ?_)
      | (with_reducible refine LeO.bind ?_ (fun _ => ?_))
      | exact ih0 _ _ _ _ _
      | exact LeO.none _
      | refine LeO.ite ?_ ?_
      | refine LeO.bind ?_ (fun _ => ?_)
set_option maxHeartbeats 8000000 in
set_option maxRecDepth 100000 in
theorem furrowworkslaw04_sample.calls (k : Nat)  (r1 : List (S28)) (r2 : List (S28)) (r3 : List (S28)) (w : World) (h : furrowworkslaw04_sample.f k  = some (r1, r2, r3)) :
    Calls Try.prog 30 #[] w fun e w' => ∃ v0_ v1_ v2_ : Value, e = .returned (.agg #[v0_, v1_, v2_]) ∧ Kd.R k28 28 w' w.heap.size (fun k_ => some k_ ≠ (v1_ : Value).ownBlock ∧ some k_ ≠ (v2_ : Value).ownBlock) v0_ r1 ∧ Kd.R k28 28 w' w.heap.size (fun k_ => some k_ ≠ (v0_ : Value).ownBlock ∧ some k_ ≠ (v2_ : Value).ownBlock) v1_ r2 ∧ Kd.R k28 28 w' w.heap.size (fun k_ => some k_ ≠ (v0_ : Value).ownBlock ∧ some k_ ≠ (v1_ : Value).ownBlock) v2_ r3 ∧ Below w.heap.size w w' := by
  have hu24 := Try.underlying24
  have HB := Aside0.mk (Below.refl w.heap.size w)
  have H : ((furrowworkslaw04_span.f 0 1).bind fun bt132 => ((furrowworkslaw04_span.f 2 3).bind fun bt134 => ((furrowworkslaw04_span.f 0 0).bind fun bt136 => ((furrowworkslaw04_span.f 1 1).bind fun bt138 => ((furrowworkslaw04_span.f 5 6).bind fun bt140 => ((some (([(⟨bt132.1, bt132.2⟩ : S28), (⟨bt134.1, bt134.2⟩ : S28), (⟨bt136.1, bt136.2⟩ : S28), (⟨bt138.1, bt138.2⟩ : S28), (⟨bt140.1, bt140.2⟩ : S28)] : List (S28)) : List (S28))).bind fun y142 => ((furrowworkslaw04_span.f 15 16).bind fun bt145 => ((furrowworkslaw04_span.f 14 18).bind fun bt147 => ((furrowworkslaw04_span.f 15 15).bind fun bt149 => ((furrowworkslaw04_span.f 12 14).bind fun bt151 => ((furrowworkslaw04_span.f 16 17).bind fun bt153 => (furrowworkslaw04_sample.l0 k (y142.length : Int) 0 y142 ([] : List (S28)) (([(⟨bt145.1, bt145.2⟩ : S28), (⟨bt147.1, bt147.2⟩ : S28), (⟨bt149.1, bt149.2⟩ : S28), (⟨bt151.1, bt151.2⟩ : S28), (⟨bt153.1, bt153.2⟩ : S28)] : List (S28))))))))))))))) = some (r1, r2, r3) := h
  clear h
  replace H := Option.bind_eq_some_iff.mp H
  obtain ⟨⟨t132, t133⟩, A10, H⟩ := H
  replace H : ((furrowworkslaw04_span.f 2 3).bind fun bt134 => ((furrowworkslaw04_span.f 0 0).bind fun bt136 => ((furrowworkslaw04_span.f 1 1).bind fun bt138 => ((furrowworkslaw04_span.f 5 6).bind fun bt140 => ((some (([(⟨t132, t133⟩ : S28), (⟨bt134.1, bt134.2⟩ : S28), (⟨bt136.1, bt136.2⟩ : S28), (⟨bt138.1, bt138.2⟩ : S28), (⟨bt140.1, bt140.2⟩ : S28)] : List (S28)) : List (S28))).bind fun y142 => ((furrowworkslaw04_span.f 15 16).bind fun bt145 => ((furrowworkslaw04_span.f 14 18).bind fun bt147 => ((furrowworkslaw04_span.f 15 15).bind fun bt149 => ((furrowworkslaw04_span.f 12 14).bind fun bt151 => ((furrowworkslaw04_span.f 16 17).bind fun bt153 => (furrowworkslaw04_sample.l0 k (y142.length : Int) 0 y142 ([] : List (S28)) (([(⟨bt145.1, bt145.2⟩ : S28), (⟨bt147.1, bt147.2⟩ : S28), (⟨bt149.1, bt149.2⟩ : S28), (⟨bt151.1, bt151.2⟩ : S28), (⟨bt153.1, bt153.2⟩ : S28)] : List (S28)))))))))))))) = some (r1, r2, r3) := H
  have A1 := Aside0.mk A10
  clear A10
  replace H := Option.bind_eq_some_iff.mp H
  obtain ⟨⟨t134, t135⟩, A20, H⟩ := H
  replace H : ((furrowworkslaw04_span.f 0 0).bind fun bt136 => ((furrowworkslaw04_span.f 1 1).bind fun bt138 => ((furrowworkslaw04_span.f 5 6).bind fun bt140 => ((some (([(⟨t132, t133⟩ : S28), (⟨t134, t135⟩ : S28), (⟨bt136.1, bt136.2⟩ : S28), (⟨bt138.1, bt138.2⟩ : S28), (⟨bt140.1, bt140.2⟩ : S28)] : List (S28)) : List (S28))).bind fun y142 => ((furrowworkslaw04_span.f 15 16).bind fun bt145 => ((furrowworkslaw04_span.f 14 18).bind fun bt147 => ((furrowworkslaw04_span.f 15 15).bind fun bt149 => ((furrowworkslaw04_span.f 12 14).bind fun bt151 => ((furrowworkslaw04_span.f 16 17).bind fun bt153 => (furrowworkslaw04_sample.l0 k (y142.length : Int) 0 y142 ([] : List (S28)) (([(⟨bt145.1, bt145.2⟩ : S28), (⟨bt147.1, bt147.2⟩ : S28), (⟨bt149.1, bt149.2⟩ : S28), (⟨bt151.1, bt151.2⟩ : S28), (⟨bt153.1, bt153.2⟩ : S28)] : List (S28))))))))))))) = some (r1, r2, r3) := H
  have A2 := Aside0.mk A20
  clear A20
  replace H := Option.bind_eq_some_iff.mp H
  obtain ⟨⟨t136, t137⟩, A30, H⟩ := H
  replace H : ((furrowworkslaw04_span.f 1 1).bind fun bt138 => ((furrowworkslaw04_span.f 5 6).bind fun bt140 => ((some (([(⟨t132, t133⟩ : S28), (⟨t134, t135⟩ : S28), (⟨t136, t137⟩ : S28), (⟨bt138.1, bt138.2⟩ : S28), (⟨bt140.1, bt140.2⟩ : S28)] : List (S28)) : List (S28))).bind fun y142 => ((furrowworkslaw04_span.f 15 16).bind fun bt145 => ((furrowworkslaw04_span.f 14 18).bind fun bt147 => ((furrowworkslaw04_span.f 15 15).bind fun bt149 => ((furrowworkslaw04_span.f 12 14).bind fun bt151 => ((furrowworkslaw04_span.f 16 17).bind fun bt153 => (furrowworkslaw04_sample.l0 k (y142.length : Int) 0 y142 ([] : List (S28)) (([(⟨bt145.1, bt145.2⟩ : S28), (⟨bt147.1, bt147.2⟩ : S28), (⟨bt149.1, bt149.2⟩ : S28), (⟨bt151.1, bt151.2⟩ : S28), (⟨bt153.1, bt153.2⟩ : S28)] : List (S28)))))))))))) = some (r1, r2, r3) := H
  have A3 := Aside0.mk A30
  clear A30
  replace H := Option.bind_eq_some_iff.mp H
  obtain ⟨⟨t138, t139⟩, A40, H⟩ := H
  replace H : ((furrowworkslaw04_span.f 5 6).bind fun bt140 => ((some (([(⟨t132, t133⟩ : S28), (⟨t134, t135⟩ : S28), (⟨t136, t137⟩ : S28), (⟨t138, t139⟩ : S28), (⟨bt140.1, bt140.2⟩ : S28)] : List (S28)) : List (S28))).bind fun y142 => ((furrowworkslaw04_span.f 15 16).bind fun bt145 => ((furrowworkslaw04_span.f 14 18).bind fun bt147 => ((furrowworkslaw04_span.f 15 15).bind fun bt149 => ((furrowworkslaw04_span.f 12 14).bind fun bt151 => ((furrowworkslaw04_span.f 16 17).bind fun bt153 => (furrowworkslaw04_sample.l0 k (y142.length : Int) 0 y142 ([] : List (S28)) (([(⟨bt145.1, bt145.2⟩ : S28), (⟨bt147.1, bt147.2⟩ : S28), (⟨bt149.1, bt149.2⟩ : S28), (⟨bt151.1, bt151.2⟩ : S28), (⟨bt153.1, bt153.2⟩ : S28)] : List (S28))))))))))) = some (r1, r2, r3) := H
  have A4 := Aside0.mk A40
  clear A40
  replace H := Option.bind_eq_some_iff.mp H
  obtain ⟨⟨t140, t141⟩, A50, H⟩ := H
  replace H : ((some (([(⟨t132, t133⟩ : S28), (⟨t134, t135⟩ : S28), (⟨t136, t137⟩ : S28), (⟨t138, t139⟩ : S28), (⟨t140, t141⟩ : S28)] : List (S28)) : List (S28))).bind fun y142 => ((furrowworkslaw04_span.f 15 16).bind fun bt145 => ((furrowworkslaw04_span.f 14 18).bind fun bt147 => ((furrowworkslaw04_span.f 15 15).bind fun bt149 => ((furrowworkslaw04_span.f 12 14).bind fun bt151 => ((furrowworkslaw04_span.f 16 17).bind fun bt153 => (furrowworkslaw04_sample.l0 k (y142.length : Int) 0 y142 ([] : List (S28)) (([(⟨bt145.1, bt145.2⟩ : S28), (⟨bt147.1, bt147.2⟩ : S28), (⟨bt149.1, bt149.2⟩ : S28), (⟨bt151.1, bt151.2⟩ : S28), (⟨bt153.1, bt153.2⟩ : S28)] : List (S28)))))))))) = some (r1, r2, r3) := H
  have A5 := Aside0.mk A50
  clear A50
  obtain ⟨y142, hy142⟩ : ∃ y_ : List (S28), y_ = (([(⟨t132, t133⟩ : S28), (⟨t134, t135⟩ : S28), (⟨t136, t137⟩ : S28), (⟨t138, t139⟩ : S28), (⟨t140, t141⟩ : S28)] : List (S28))) := ⟨_, rfl⟩
  replace H : ((furrowworkslaw04_span.f 15 16).bind fun bt145 => ((furrowworkslaw04_span.f 14 18).bind fun bt147 => ((furrowworkslaw04_span.f 15 15).bind fun bt149 => ((furrowworkslaw04_span.f 12 14).bind fun bt151 => ((furrowworkslaw04_span.f 16 17).bind fun bt153 => (furrowworkslaw04_sample.l0 k (y142.length : Int) 0 y142 ([] : List (S28)) (([(⟨bt145.1, bt145.2⟩ : S28), (⟨bt147.1, bt147.2⟩ : S28), (⟨bt149.1, bt149.2⟩ : S28), (⟨bt151.1, bt151.2⟩ : S28), (⟨bt153.1, bt153.2⟩ : S28)] : List (S28))))))))) = some (r1, r2, r3) := by first | (rw [hy142]; with_reducible exact H) | (have H2_ := (Option.bind_some _ _).symm.trans H; rw [hy142]; with_reducible exact H2_) | (have H2_ := (Option.bind_some _ _).symm.trans H; with_reducible exact H2_) | with_reducible exact H | (rw [hy142]; exact H) | exact H
  have Ny142 := Aside0.mk hy142
  clear hy142
  replace H := Option.bind_eq_some_iff.mp H
  obtain ⟨⟨t145, t146⟩, A60, H⟩ := H
  replace H : ((furrowworkslaw04_span.f 14 18).bind fun bt147 => ((furrowworkslaw04_span.f 15 15).bind fun bt149 => ((furrowworkslaw04_span.f 12 14).bind fun bt151 => ((furrowworkslaw04_span.f 16 17).bind fun bt153 => (furrowworkslaw04_sample.l0 k (y142.length : Int) 0 y142 ([] : List (S28)) (([(⟨t145, t146⟩ : S28), (⟨bt147.1, bt147.2⟩ : S28), (⟨bt149.1, bt149.2⟩ : S28), (⟨bt151.1, bt151.2⟩ : S28), (⟨bt153.1, bt153.2⟩ : S28)] : List (S28)))))))) = some (r1, r2, r3) := H
  have A6 := Aside0.mk A60
  clear A60
  replace H := Option.bind_eq_some_iff.mp H
  obtain ⟨⟨t147, t148⟩, A70, H⟩ := H
  replace H : ((furrowworkslaw04_span.f 15 15).bind fun bt149 => ((furrowworkslaw04_span.f 12 14).bind fun bt151 => ((furrowworkslaw04_span.f 16 17).bind fun bt153 => (furrowworkslaw04_sample.l0 k (y142.length : Int) 0 y142 ([] : List (S28)) (([(⟨t145, t146⟩ : S28), (⟨t147, t148⟩ : S28), (⟨bt149.1, bt149.2⟩ : S28), (⟨bt151.1, bt151.2⟩ : S28), (⟨bt153.1, bt153.2⟩ : S28)] : List (S28))))))) = some (r1, r2, r3) := H
  have A7 := Aside0.mk A70
  clear A70
  replace H := Option.bind_eq_some_iff.mp H
  obtain ⟨⟨t149, t150⟩, A80, H⟩ := H
  replace H : ((furrowworkslaw04_span.f 12 14).bind fun bt151 => ((furrowworkslaw04_span.f 16 17).bind fun bt153 => (furrowworkslaw04_sample.l0 k (y142.length : Int) 0 y142 ([] : List (S28)) (([(⟨t145, t146⟩ : S28), (⟨t147, t148⟩ : S28), (⟨t149, t150⟩ : S28), (⟨bt151.1, bt151.2⟩ : S28), (⟨bt153.1, bt153.2⟩ : S28)] : List (S28)))))) = some (r1, r2, r3) := H
  have A8 := Aside0.mk A80
  clear A80
  replace H := Option.bind_eq_some_iff.mp H
  obtain ⟨⟨t151, t152⟩, A90, H⟩ := H
  replace H : ((furrowworkslaw04_span.f 16 17).bind fun bt153 => (furrowworkslaw04_sample.l0 k (y142.length : Int) 0 y142 ([] : List (S28)) (([(⟨t145, t146⟩ : S28), (⟨t147, t148⟩ : S28), (⟨t149, t150⟩ : S28), (⟨t151, t152⟩ : S28), (⟨bt153.1, bt153.2⟩ : S28)] : List (S28))))) = some (r1, r2, r3) := H
  have A9 := Aside0.mk A90
  clear A90
  replace H := Option.bind_eq_some_iff.mp H
  obtain ⟨⟨t153, t154⟩, A100, H⟩ := H
  replace H : (furrowworkslaw04_sample.l0 k (y142.length : Int) 0 y142 ([] : List (S28)) (([(⟨t145, t146⟩ : S28), (⟨t147, t148⟩ : S28), (⟨t149, t150⟩ : S28), (⟨t151, t152⟩ : S28), (⟨t153, t154⟩ : S28)] : List (S28)))) = some (r1, r2, r3) := H
  have A10 := Aside0.mk A100
  clear A100
  obtain ⟨y155, hy155⟩ : ∃ y_ : List (S28), y_ = (([(⟨t145, t146⟩ : S28), (⟨t147, t148⟩ : S28), (⟨t149, t150⟩ : S28), (⟨t151, t152⟩ : S28), (⟨t153, t154⟩ : S28)] : List (S28))) := ⟨_, rfl⟩
  replace H : (furrowworkslaw04_sample.l0 k (y142.length : Int) 0 y142 ([] : List (S28)) y155) = some (r1, r2, r3) := by first | (rw [hy155]; with_reducible exact H) | (have H2_ := (Option.bind_some _ _).symm.trans H; rw [hy155]; with_reducible exact H2_) | (have H2_ := (Option.bind_some _ _).symm.trans H; with_reducible exact H2_) | with_reducible exact H | (rw [hy155]; exact H) | exact H
  have Ny155 := Aside0.mk hy155
  clear hy155
  have H' := Aside0.mk H
  clear H
  go_enter Try.func30, Try.ntmps30
  go_wp2_with (first | ((with_reducible refine gate_dst (N := 0) rfl ?_); refine box_event ?hg (N := 0) ?hd (cs := #[.slice none 0 0, .slice none 0 0, .slice none 0 0]) (t := 24) ?hr ?_; (case hd => rfl); (case hg => rfl); (case hr => first | (go_simp; done) | (go_simp; rfl)); intro gb131 hg w11 hbox hb; have n0_ := Aside0.mk (below_step (by repeat (first | (with_reducible first | exact HB.out | apply below_alloc | apply pw_below_drewN | apply below_drew1) | exact HB.out)) hb); have n1_ := Aside0.mk (hbox); have n2_ := Aside0.mk ((by rw [hg]; exact (below_size (by repeat (first | (with_reducible first | exact HB.out | apply below_alloc | apply pw_below_drewN | apply below_drew1) | exact HB.out))) : w.heap.size ≤ gb131)); have n3_ := Aside0.mk ((by rw [hg]; exact (below_size (by repeat (first | (with_reducible first | exact HB.out | apply below_alloc | apply pw_below_drewN | apply below_drew1) | exact HB.out))) : w.heap.size ≤ gb131)); clear HB; have HB := n0_; have BK131 := n1_; have GW131 := n2_; have GE131 := n3_; clear n0_ n1_ n2_ n3_; clear hb hbox hg) | ((with_reducible refine gate_callee (f := 31) rfl ?_); refine goesL_ (some 2) rfl rfl Try.func31 (by kernel_rfl) rfl #[.int .i64 0, .int .i64 1] rfl (by (try simp only [List.map_toArray, List.map_cons, List.map_nil]); first | done | rfl | (simp only [List.length_drop, List.length_take]; rfl)) ?_; (with_reducible refine (furrowworkslaw04_span.calls 0 1 t132 t133 _ A1.out).mono ?_); rintro e w12 ⟨rfl, hb⟩; refine ⟨_, rfl, ?_⟩; have n0_ := Aside0.mk (blk_below (g := gb131) (o := .cells #[.slice none 0 0, .slice none 0 0, .slice none 0 0] 24 (0, 0)) (by (with_reducible repeat (first | refine blk_drewN ?_ _ | refine blk_drew ?_ | refine blk_alloc ?_ _)); exact BK131.out) hb); have n1_ := Aside0.mk (below_step (by repeat (first | (with_reducible first | exact HB.out | apply below_alloc | apply pw_below_drewN | apply below_drew1 | refine below_set ?_ GE131.out) | exact HB.out)) hb); clear BK131; clear HB; have BK131 := n0_; have HB := n1_; clear n0_ n1_; (try clear hb); (try clear hb2); (try clear hk); (try clear hi)) | ((with_reducible refine gate_callee (f := 31) rfl ?_); refine goesL_ (some 3) rfl rfl Try.func31 (by kernel_rfl) rfl #[.int .i64 2, .int .i64 3] rfl (by (try simp only [List.map_toArray, List.map_cons, List.map_nil]); first | done | rfl | (simp only [List.length_drop, List.length_take]; rfl)) ?_; (with_reducible refine (furrowworkslaw04_span.calls 2 3 t134 t135 _ A2.out).mono ?_); rintro e w13 ⟨rfl, hb⟩; refine ⟨_, rfl, ?_⟩; have n0_ := Aside0.mk (blk_below (g := gb131) (o := .cells #[.slice none 0 0, .slice none 0 0, .slice none 0 0] 24 (0, 0)) (by (with_reducible repeat (first | refine blk_drewN ?_ _ | refine blk_drew ?_ | refine blk_alloc ?_ _)); exact BK131.out) hb); have n1_ := Aside0.mk (below_step (by repeat (first | (with_reducible first | exact HB.out | apply below_alloc | apply pw_below_drewN | apply below_drew1 | refine below_set ?_ GE131.out) | exact HB.out)) hb); clear BK131; clear HB; have BK131 := n0_; have HB := n1_; clear n0_ n1_; (try clear hb); (try clear hb2); (try clear hk); (try clear hi)) | ((with_reducible refine gate_callee (f := 31) rfl ?_); refine goesL_ (some 4) rfl rfl Try.func31 (by kernel_rfl) rfl #[.int .i64 0, .int .i64 0] rfl (by (try simp only [List.map_toArray, List.map_cons, List.map_nil]); first | done | rfl | (simp only [List.length_drop, List.length_take]; rfl)) ?_; (with_reducible refine (furrowworkslaw04_span.calls 0 0 t136 t137 _ A3.out).mono ?_); rintro e w14 ⟨rfl, hb⟩; refine ⟨_, rfl, ?_⟩; have n0_ := Aside0.mk (blk_below (g := gb131) (o := .cells #[.slice none 0 0, .slice none 0 0, .slice none 0 0] 24 (0, 0)) (by (with_reducible repeat (first | refine blk_drewN ?_ _ | refine blk_drew ?_ | refine blk_alloc ?_ _)); exact BK131.out) hb); have n1_ := Aside0.mk (below_step (by repeat (first | (with_reducible first | exact HB.out | apply below_alloc | apply pw_below_drewN | apply below_drew1 | refine below_set ?_ GE131.out) | exact HB.out)) hb); clear BK131; clear HB; have BK131 := n0_; have HB := n1_; clear n0_ n1_; (try clear hb); (try clear hb2); (try clear hk); (try clear hi)) | ((with_reducible refine gate_callee (f := 31) rfl ?_); refine goesL_ (some 5) rfl rfl Try.func31 (by kernel_rfl) rfl #[.int .i64 1, .int .i64 1] rfl (by (try simp only [List.map_toArray, List.map_cons, List.map_nil]); first | done | rfl | (simp only [List.length_drop, List.length_take]; rfl)) ?_; (with_reducible refine (furrowworkslaw04_span.calls 1 1 t138 t139 _ A4.out).mono ?_); rintro e w15 ⟨rfl, hb⟩; refine ⟨_, rfl, ?_⟩; have n0_ := Aside0.mk (blk_below (g := gb131) (o := .cells #[.slice none 0 0, .slice none 0 0, .slice none 0 0] 24 (0, 0)) (by (with_reducible repeat (first | refine blk_drewN ?_ _ | refine blk_drew ?_ | refine blk_alloc ?_ _)); exact BK131.out) hb); have n1_ := Aside0.mk (below_step (by repeat (first | (with_reducible first | exact HB.out | apply below_alloc | apply pw_below_drewN | apply below_drew1 | refine below_set ?_ GE131.out) | exact HB.out)) hb); clear BK131; clear HB; have BK131 := n0_; have HB := n1_; clear n0_ n1_; (try clear hb); (try clear hb2); (try clear hk); (try clear hi)) | ((with_reducible refine gate_callee (f := 31) rfl ?_); refine goesL_ (some 6) rfl rfl Try.func31 (by kernel_rfl) rfl #[.int .i64 5, .int .i64 6] rfl (by (try simp only [List.map_toArray, List.map_cons, List.map_nil]); first | done | rfl | (simp only [List.length_drop, List.length_take]; rfl)) ?_; (with_reducible refine (furrowworkslaw04_span.calls 5 6 t140 t141 _ A5.out).mono ?_); rintro e w16 ⟨rfl, hb⟩; refine ⟨_, rfl, ?_⟩; have n0_ := Aside0.mk (blk_below (g := gb131) (o := .cells #[.slice none 0 0, .slice none 0 0, .slice none 0 0] 24 (0, 0)) (by (with_reducible repeat (first | refine blk_drewN ?_ _ | refine blk_drew ?_ | refine blk_alloc ?_ _)); exact BK131.out) hb); have n1_ := Aside0.mk (below_step (by repeat (first | (with_reducible first | exact HB.out | apply below_alloc | apply pw_below_drewN | apply below_drew1 | refine below_set ?_ GE131.out) | exact HB.out)) hb); clear BK131; clear HB; have BK131 := n0_; have HB := n1_; clear n0_ n1_; (try clear hb); (try clear hb2); (try clear hk); (try clear hi)) | ((with_reducible refine gate_dst (N := 7) rfl ?_); refine Kd.R_lit k28 _ 28 ?hg (N := 7) ?hd (xs := ([(⟨t132, t133⟩ : S28), (⟨t134, t135⟩ : S28), (⟨t136, t137⟩ : S28), (⟨t138, t139⟩ : S28), (⟨t140, t141⟩ : S28)] : List (S28))) (inner := [.int .i64 t132, .int .i64 t133, .int .i64 t134, .int .i64 t135, .int .i64 t136, .int .i64 t137, .int .i64 t138, .int .i64 t139, .int .i64 t140, .int .i64 t141]) (ok := fun _ => True) (okp := fun _ => True) ?hr ?hp (fun _ hk => hk) trivial (Below.refl _ _) (Nat.le_refl _) (by simp) ?_; (case hd => rfl); (case hg => rfl); (case hr => first | (go_simp; done) | (go_simp; rfl)); (case hp => exact (Reps.c2 (show Kd.M k28 _ _ _ (⟨t132, t133⟩ : S28) [.int .i64 t132, .int .i64 t133] from (k28_mkM _ _ _ (⟨t132, t133⟩ : S28) )) (Reps.c2 (show Kd.M k28 _ _ _ (⟨t134, t135⟩ : S28) [.int .i64 t134, .int .i64 t135] from (k28_mkM _ _ _ (⟨t134, t135⟩ : S28) )) (Reps.c2 (show Kd.M k28 _ _ _ (⟨t136, t137⟩ : S28) [.int .i64 t136, .int .i64 t137] from (k28_mkM _ _ _ (⟨t136, t137⟩ : S28) )) (Reps.c2 (show Kd.M k28 _ _ _ (⟨t138, t139⟩ : S28) [.int .i64 t138, .int .i64 t139] from (k28_mkM _ _ _ (⟨t138, t139⟩ : S28) )) (Reps.c2 (show Kd.M k28 _ _ _ (⟨t140, t141⟩ : S28) [.int .i64 t140, .int .i64 t141] from (k28_mkM _ _ _ (⟨t140, t141⟩ : S28) )) (Reps.none _ _))))))); intro v143 w17 ho18 hb hg_ hnew_; clear hg_ hnew_; (first | rw [← Ny142.out] at ho18 | (simp only [Int.reduceToNat] at ho18; rw [← Ny142.out] at ho18)); have n0_ := Aside0.mk (Kd.R_lower ho18 (below_size (by repeat (first | (with_reducible first | exact HB.out | apply below_alloc | apply pw_below_drewN | apply below_drew1 | refine below_set ?_ GE131.out) | exact HB.out)))); have n1_ := Aside0.mk (blk_below (g := gb131) (o := .cells #[.slice none 0 0, .slice none 0 0, .slice none 0 0] 24 (0, 0)) (by (with_reducible repeat (first | refine blk_drewN ?_ _ | refine blk_drew ?_ | refine blk_alloc ?_ _)); exact BK131.out) hb); have n2_ := Aside0.mk (below_step (by repeat (first | (with_reducible first | exact HB.out | apply below_alloc | apply pw_below_drewN | apply below_drew1 | refine below_set ?_ GE131.out) | exact HB.out)) hb); clear BK131; clear HB; have HO144 := n0_; have BK131 := n1_; have HB := n2_; clear n0_ n1_ n2_; clear hb ho18) | ((with_reducible refine gate_callee (f := 31) rfl ?_); refine goesL_ (some 8) rfl rfl Try.func31 (by kernel_rfl) rfl #[.int .i64 15, .int .i64 16] rfl (by (try simp only [List.map_toArray, List.map_cons, List.map_nil]); first | done | rfl | (simp only [List.length_drop, List.length_take]; rfl)) ?_; (with_reducible refine (furrowworkslaw04_span.calls 15 16 t145 t146 _ A6.out).mono ?_); rintro e w19 ⟨rfl, hb⟩; refine ⟨_, rfl, ?_⟩; have n0_ := Aside0.mk (Kd.R_below (by (with_reducible repeat (first | apply Kd.R_alloc | apply Kd.R_drewN | apply Kd.R_drew)); exact HO144.out) hb); have n1_ := Aside0.mk (blk_below (g := gb131) (o := .cells #[.slice none 0 0, .slice none 0 0, .slice none 0 0] 24 (0, 0)) (by (with_reducible repeat (first | refine blk_drewN ?_ _ | refine blk_drew ?_ | refine blk_alloc ?_ _)); exact BK131.out) hb); have n2_ := Aside0.mk (below_step (by repeat (first | (with_reducible first | exact HB.out | apply below_alloc | apply pw_below_drewN | apply below_drew1 | refine below_set ?_ GE131.out) | exact HB.out)) hb); clear HO144; clear BK131; clear HB; have HO144 := n0_; have BK131 := n1_; have HB := n2_; clear n0_ n1_ n2_; (try clear hb); (try clear hb2); (try clear hk); (try clear hi)) | ((with_reducible refine gate_callee (f := 31) rfl ?_); refine goesL_ (some 9) rfl rfl Try.func31 (by kernel_rfl) rfl #[.int .i64 14, .int .i64 18] rfl (by (try simp only [List.map_toArray, List.map_cons, List.map_nil]); first | done | rfl | (simp only [List.length_drop, List.length_take]; rfl)) ?_; (with_reducible refine (furrowworkslaw04_span.calls 14 18 t147 t148 _ A7.out).mono ?_); rintro e w20 ⟨rfl, hb⟩; refine ⟨_, rfl, ?_⟩; have n0_ := Aside0.mk (Kd.R_below (by (with_reducible repeat (first | apply Kd.R_alloc | apply Kd.R_drewN | apply Kd.R_drew)); exact HO144.out) hb); have n1_ := Aside0.mk (blk_below (g := gb131) (o := .cells #[.slice none 0 0, .slice none 0 0, .slice none 0 0] 24 (0, 0)) (by (with_reducible repeat (first | refine blk_drewN ?_ _ | refine blk_drew ?_ | refine blk_alloc ?_ _)); exact BK131.out) hb); have n2_ := Aside0.mk (below_step (by repeat (first | (with_reducible first | exact HB.out | apply below_alloc | apply pw_below_drewN | apply below_drew1 | refine below_set ?_ GE131.out) | exact HB.out)) hb); clear HO144; clear BK131; clear HB; have HO144 := n0_; have BK131 := n1_; have HB := n2_; clear n0_ n1_ n2_; (try clear hb); (try clear hb2); (try clear hk); (try clear hi)) | ((with_reducible refine gate_callee (f := 31) rfl ?_); refine goesL_ (some 10) rfl rfl Try.func31 (by kernel_rfl) rfl #[.int .i64 15, .int .i64 15] rfl (by (try simp only [List.map_toArray, List.map_cons, List.map_nil]); first | done | rfl | (simp only [List.length_drop, List.length_take]; rfl)) ?_; (with_reducible refine (furrowworkslaw04_span.calls 15 15 t149 t150 _ A8.out).mono ?_); rintro e w21 ⟨rfl, hb⟩; refine ⟨_, rfl, ?_⟩; have n0_ := Aside0.mk (Kd.R_below (by (with_reducible repeat (first | apply Kd.R_alloc | apply Kd.R_drewN | apply Kd.R_drew)); exact HO144.out) hb); have n1_ := Aside0.mk (blk_below (g := gb131) (o := .cells #[.slice none 0 0, .slice none 0 0, .slice none 0 0] 24 (0, 0)) (by (with_reducible repeat (first | refine blk_drewN ?_ _ | refine blk_drew ?_ | refine blk_alloc ?_ _)); exact BK131.out) hb); have n2_ := Aside0.mk (below_step (by repeat (first | (with_reducible first | exact HB.out | apply below_alloc | apply pw_below_drewN | apply below_drew1 | refine below_set ?_ GE131.out) | exact HB.out)) hb); clear HO144; clear BK131; clear HB; have HO144 := n0_; have BK131 := n1_; have HB := n2_; clear n0_ n1_ n2_; (try clear hb); (try clear hb2); (try clear hk); (try clear hi)) | ((with_reducible refine gate_callee (f := 31) rfl ?_); refine goesL_ (some 11) rfl rfl Try.func31 (by kernel_rfl) rfl #[.int .i64 12, .int .i64 14] rfl (by (try simp only [List.map_toArray, List.map_cons, List.map_nil]); first | done | rfl | (simp only [List.length_drop, List.length_take]; rfl)) ?_; (with_reducible refine (furrowworkslaw04_span.calls 12 14 t151 t152 _ A9.out).mono ?_); rintro e w22 ⟨rfl, hb⟩; refine ⟨_, rfl, ?_⟩; have n0_ := Aside0.mk (Kd.R_below (by (with_reducible repeat (first | apply Kd.R_alloc | apply Kd.R_drewN | apply Kd.R_drew)); exact HO144.out) hb); have n1_ := Aside0.mk (blk_below (g := gb131) (o := .cells #[.slice none 0 0, .slice none 0 0, .slice none 0 0] 24 (0, 0)) (by (with_reducible repeat (first | refine blk_drewN ?_ _ | refine blk_drew ?_ | refine blk_alloc ?_ _)); exact BK131.out) hb); have n2_ := Aside0.mk (below_step (by repeat (first | (with_reducible first | exact HB.out | apply below_alloc | apply pw_below_drewN | apply below_drew1 | refine below_set ?_ GE131.out) | exact HB.out)) hb); clear HO144; clear BK131; clear HB; have HO144 := n0_; have BK131 := n1_; have HB := n2_; clear n0_ n1_ n2_; (try clear hb); (try clear hb2); (try clear hk); (try clear hi)) | ((with_reducible refine gate_callee (f := 31) rfl ?_); refine goesL_ (some 12) rfl rfl Try.func31 (by kernel_rfl) rfl #[.int .i64 16, .int .i64 17] rfl (by (try simp only [List.map_toArray, List.map_cons, List.map_nil]); first | done | rfl | (simp only [List.length_drop, List.length_take]; rfl)) ?_; (with_reducible refine (furrowworkslaw04_span.calls 16 17 t153 t154 _ A10.out).mono ?_); rintro e w23 ⟨rfl, hb⟩; refine ⟨_, rfl, ?_⟩; have n0_ := Aside0.mk (Kd.R_below (by (with_reducible repeat (first | apply Kd.R_alloc | apply Kd.R_drewN | apply Kd.R_drew)); exact HO144.out) hb); have n1_ := Aside0.mk (blk_below (g := gb131) (o := .cells #[.slice none 0 0, .slice none 0 0, .slice none 0 0] 24 (0, 0)) (by (with_reducible repeat (first | refine blk_drewN ?_ _ | refine blk_drew ?_ | refine blk_alloc ?_ _)); exact BK131.out) hb); have n2_ := Aside0.mk (below_step (by repeat (first | (with_reducible first | exact HB.out | apply below_alloc | apply pw_below_drewN | apply below_drew1 | refine below_set ?_ GE131.out) | exact HB.out)) hb); clear HO144; clear BK131; clear HB; have HO144 := n0_; have BK131 := n1_; have HB := n2_; clear n0_ n1_ n2_; (try clear hb); (try clear hb2); (try clear hk); (try clear hi)) | ((with_reducible refine gate_dst (N := 13) rfl ?_); refine Kd.R_lit k28 _ 28 ?hg (N := 13) ?hd (xs := ([(⟨t145, t146⟩ : S28), (⟨t147, t148⟩ : S28), (⟨t149, t150⟩ : S28), (⟨t151, t152⟩ : S28), (⟨t153, t154⟩ : S28)] : List (S28))) (inner := [.int .i64 t145, .int .i64 t146, .int .i64 t147, .int .i64 t148, .int .i64 t149, .int .i64 t150, .int .i64 t151, .int .i64 t152, .int .i64 t153, .int .i64 t154]) (ok := fun _ => True) (okp := fun _ => True) ?hr ?hp (fun _ hk => hk) trivial (Below.refl _ _) (Nat.le_refl _) (by simp) ?_; (case hd => rfl); (case hg => rfl); (case hr => first | (go_simp; done) | (go_simp; rfl)); (case hp => exact (Reps.c2 (show Kd.M k28 _ _ _ (⟨t145, t146⟩ : S28) [.int .i64 t145, .int .i64 t146] from (k28_mkM _ _ _ (⟨t145, t146⟩ : S28) )) (Reps.c2 (show Kd.M k28 _ _ _ (⟨t147, t148⟩ : S28) [.int .i64 t147, .int .i64 t148] from (k28_mkM _ _ _ (⟨t147, t148⟩ : S28) )) (Reps.c2 (show Kd.M k28 _ _ _ (⟨t149, t150⟩ : S28) [.int .i64 t149, .int .i64 t150] from (k28_mkM _ _ _ (⟨t149, t150⟩ : S28) )) (Reps.c2 (show Kd.M k28 _ _ _ (⟨t151, t152⟩ : S28) [.int .i64 t151, .int .i64 t152] from (k28_mkM _ _ _ (⟨t151, t152⟩ : S28) )) (Reps.c2 (show Kd.M k28 _ _ _ (⟨t153, t154⟩ : S28) [.int .i64 t153, .int .i64 t154] from (k28_mkM _ _ _ (⟨t153, t154⟩ : S28) )) (Reps.none _ _))))))); intro v156 w24 ho25 hb hg_ hnew_; clear hg_ hnew_; (first | rw [← Ny155.out] at ho25 | (simp only [Int.reduceToNat] at ho25; rw [← Ny155.out] at ho25)); have n0_ := Aside0.mk (Kd.R_elder' (by (with_reducible repeat (first | apply Kd.R_alloc | apply Kd.R_drewN | apply Kd.R_drew)); exact HO144.out) (Kd.R_base ho25) hb); have n1_ := Aside0.mk (Kd.R_lower (Kd.R_new' ho25 (Kd.R_lt (by (with_reducible repeat (first | apply Kd.R_alloc | apply Kd.R_drewN | apply Kd.R_drew)); exact HO144.out))) (below_size (by repeat (first | (with_reducible first | exact HB.out | apply below_alloc | apply pw_below_drewN | apply below_drew1 | refine below_set ?_ GE131.out) | exact HB.out)))); have n2_ := Aside0.mk (blk_below (g := gb131) (o := .cells #[.slice none 0 0, .slice none 0 0, .slice none 0 0] 24 (0, 0)) (by (with_reducible repeat (first | refine blk_drewN ?_ _ | refine blk_drew ?_ | refine blk_alloc ?_ _)); exact BK131.out) hb); have n3_ := Aside0.mk (below_step (by repeat (first | (with_reducible first | exact HB.out | apply below_alloc | apply pw_below_drewN | apply below_drew1 | refine below_set ?_ GE131.out) | exact HB.out)) hb); clear HO144; clear BK131; clear HB; have HO144 := n0_; have HO157 := n1_; have BK131 := n2_; have HB := n3_; clear n0_ n1_ n2_ n3_; clear hb ho25; obtain ⟨Ao26, co26, eo26⟩ := Kd.R_slice HO157.out; subst eo26; obtain ⟨Ao27, co27, eo27⟩ := Kd.R_slice HO144.out; subst eo27) | ((with_reducible refine gate_dst (N := 1) rfl ?_); refine box_event ?hg (N := 1) ?hd (cs := #[.slice none 0 0, .slice none 0 0, .slice none 0 0]) (t := 24) ?hr ?_; (case hd => rfl); (case hg => rfl); (case hr => first | (go_simp; done) | (go_simp; rfl)); intro gb158 hg w28 hbox hb; have n0_ := Aside0.mk (Kd.R_below (by (with_reducible repeat (first | apply Kd.R_alloc | apply Kd.R_drewN | apply Kd.R_drew)); exact HO144.out) hb); have n1_ := Aside0.mk (Kd.R_below (by (with_reducible repeat (first | apply Kd.R_alloc | apply Kd.R_drewN | apply Kd.R_drew)); exact HO157.out) hb); have n2_ := Aside0.mk (blk_below (g := gb131) (o := .cells #[.slice none 0 0, .slice none 0 0, .slice none 0 0] 24 (0, 0)) (by (with_reducible repeat (first | refine blk_drewN ?_ _ | refine blk_drew ?_ | refine blk_alloc ?_ _)); exact BK131.out) hb); have n3_ := Aside0.mk (below_step (by repeat (first | (with_reducible first | exact HB.out | apply below_alloc | apply pw_below_drewN | apply below_drew1 | refine below_set ?_ GE131.out) | exact HB.out)) hb); have n4_ := Aside0.mk (hbox); have n5_ := Aside0.mk ((by rw [hg]; exact (below_size (by repeat (first | (with_reducible first | exact HB.out | apply below_alloc | apply pw_below_drewN | apply below_drew1 | refine below_set ?_ GE131.out) | exact HB.out))) : w.heap.size ≤ gb158)); have n6_ := Aside0.mk ((by rw [hg]; exact (below_size (by repeat (first | (with_reducible first | exact HB.out | apply below_alloc | apply pw_below_drewN | apply below_drew1 | refine below_set ?_ GE131.out) | exact HB.out))) : w.heap.size ≤ gb158)); have n7_ := Aside0.mk ((by rw [hg]; exact Nat.ne_of_lt (blk_lt (g := gb131) (o := .cells #[.slice none 0 0, .slice none 0 0, .slice none 0 0] 24 (0, 0)) (by (with_reducible repeat (first | refine blk_drewN ?_ _ | refine blk_drew ?_ | refine blk_alloc ?_ _)); exact BK131.out)) : gb131 ≠ gb158)); have n8_ := Aside0.mk ((by rw [hg]; exact Nat.ne_of_gt (blk_lt (g := gb131) (o := .cells #[.slice none 0 0, .slice none 0 0, .slice none 0 0] 24 (0, 0)) (by (with_reducible repeat (first | refine blk_drewN ?_ _ | refine blk_drew ?_ | refine blk_alloc ?_ _)); exact BK131.out)) : gb158 ≠ gb131)); clear HO144; clear HO157; clear BK131; clear HB; have HO144 := n0_; have HO157 := n1_; have BK131 := n2_; have HB := n3_; have BK158 := n4_; have GW158 := n5_; have GE158 := n6_; have NB131_158 := n7_; have NB158_131 := n8_; clear n0_ n1_ n2_ n3_ n4_ n5_ n6_ n7_ n8_; clear hb hbox hg; have hnb29 := NB158_131.out; have hnc29 := NB131_158.out; have hcz30_0 : w28.cell? ⟨gb158, 0, none⟩ = some (.slice none 0 0) := (blk_cell BK158.out 0).trans rfl; have hcz30_1 : w28.cell? ⟨gb158, 1, none⟩ = some (.slice none 0 0) := (blk_cell BK158.out 1).trans rfl; have hcz30_2 : w28.cell? ⟨gb158, 2, none⟩ = some (.slice none 0 0) := (blk_cell BK158.out 2).trans rfl; have hfz30_0 := blk_frozen BK158.out 0; have hfz30_1 := blk_frozen BK158.out 1; have hfz30_2 := blk_frozen BK158.out 2))
  go_loopg [18] k (fun kq v18 w' => ∃ (x18_1 : Int) (x159001_1 : List (S28)) (u159001 : Value), v18 = .int .i64 x18_1 ∧ Aside0 (furrowworkslaw04_sample.l0 kq (y142.length : Int) x18_1 y142 x159001_1 y155 = some (r1, r2, r3)) ∧ Aside0 (kq ≤ k) ∧ Aside0 (Kd.R k28 28 w' w.heap.size (fun k_ => some k_ ≠ (u159001 : Value).ownBlock ∧ some k_ ≠ ((.slice Ao26 y155.length co26) : Value).ownBlock) (.slice Ao27 y142.length co27) y142) ∧ Aside0 (Kd.R k28 28 w' w.heap.size (fun k_ => some k_ ≠ ((.slice Ao27 y142.length co27) : Value).ownBlock ∧ some k_ ≠ ((.slice Ao26 y155.length co26) : Value).ownBlock) u159001 x159001_1) ∧ Aside0 (Kd.R k28 28 w' w.heap.size (fun k_ => some k_ ≠ ((.slice Ao27 y142.length co27) : Value).ownBlock ∧ some k_ ≠ (u159001 : Value).ownBlock) (.slice Ao26 y155.length co26) y155) ∧ Aside0 (w'.heap[gb131]? = some (.cells #[(.slice none 0 0), (.slice none 0 0), (.slice none 0 0)] 24 (0, 0))) ∧ Aside0 (w'.heap[gb158]? = some (.cells #[(.slice Ao27 y142.length co27), u159001, (.slice Ao26 y155.length co26)] 24 (0, 0))) ∧ Aside0 (Below w.heap.size w w'))
  case atStart => exact ⟨(0), (([] : List (S28))), (.slice none 0 0), (by first | rfl | (simp; done) | (simp [*]; done)), H', ⟨Nat.le_refl _⟩, ⟨by (with_reducible repeat (first | apply Kd.R_alloc | apply Kd.R_drewN | apply Kd.R_drew)); exact Kd.R_mono (Kd.R_far (p := ⟨gb158, 2, none⟩) (Kd.R_far (p := ⟨gb158, 1, none⟩) (Kd.R_far (p := ⟨gb158, 0, none⟩) (Kd.R_types HO144.out BK158.out (by decide)) (fun _ hk => hk.2) (.slice Ao27 y142.length co27)) (fun _ hk => hk.2) (.slice none 0 0)) (fun _ hk => hk.2) (.slice Ao26 y155.length co26)) (fun _ hk => ⟨(by simp [Value.ownBlock]), hk.1.2⟩)⟩, ⟨by first | exact Kd.R_nil _ _ _ _ _ | exact Kd.N_nil _ _ _ _ _ | exact Kd.V_nil _ _ _ _ _ | exact Kd.Q_nil _ _ _ _ _ | exact Kd.S_nil _ _ _ _ _⟩, ⟨by (with_reducible repeat (first | apply Kd.R_alloc | apply Kd.R_drewN | apply Kd.R_drew)); exact Kd.R_mono (Kd.R_far (p := ⟨gb158, 2, none⟩) (Kd.R_far (p := ⟨gb158, 1, none⟩) (Kd.R_far (p := ⟨gb158, 0, none⟩) (Kd.R_types HO157.out BK158.out (by decide)) (fun _ hk => hk.2) (.slice Ao27 y142.length co27)) (fun _ hk => hk.2) (.slice none 0 0)) (fun _ hk => hk.2) (.slice Ao26 y155.length co26)) (fun _ hk => ⟨hk.1.2, (by simp [Value.ownBlock])⟩)⟩, ⟨by (with_reducible repeat (first | refine blk_drewN ?_ _ | refine blk_drew ?_ | refine blk_alloc ?_ _)); refine blk_far ?_ NB131_158.out _; (with_reducible repeat (first | refine blk_drewN ?_ _ | refine blk_drew ?_ | refine blk_alloc ?_ _)); refine blk_far ?_ NB131_158.out _; (with_reducible repeat (first | refine blk_drewN ?_ _ | refine blk_drew ?_ | refine blk_alloc ?_ _)); refine blk_far ?_ NB131_158.out _; (with_reducible repeat (first | refine blk_drewN ?_ _ | refine blk_drew ?_ | refine blk_alloc ?_ _)); exact BK131.out⟩, ⟨by (with_reducible repeat (first | refine blk_drewN ?_ _ | refine blk_drew ?_ | refine blk_alloc ?_ _)); refine blk_put (cs := #[.slice Ao27 y142.length co27, .slice none 0 0, .slice none 0 0]) ?_ 2 _ rfl; (with_reducible repeat (first | refine blk_drewN ?_ _ | refine blk_drew ?_ | refine blk_alloc ?_ _)); refine blk_put (cs := #[.slice Ao27 y142.length co27, .slice none 0 0, .slice none 0 0]) ?_ 1 _ rfl; (with_reducible repeat (first | refine blk_drewN ?_ _ | refine blk_drew ?_ | refine blk_alloc ?_ _)); refine blk_put (cs := #[.slice none 0 0, .slice none 0 0, .slice none 0 0]) ?_ 0 _ rfl; (with_reducible repeat (first | refine blk_drewN ?_ _ | refine blk_drew ?_ | refine blk_alloc ?_ _)); exact BK158.out⟩, ⟨by repeat (first | (with_reducible first | exact HB.out | apply below_alloc | apply pw_below_drewN | apply below_drew1 | refine below_set ?_ GE131.out | refine below_set ?_ GE158.out) | exact HB.out)⟩⟩
  case round =>
    clear H'
    try clear c2
    try clear p2
    try clear c3
    try clear c29
    try clear c30
    try clear hcz30_0
    try clear hcz30_1
    try clear hcz30_2
    try clear hfz30_0
    try clear hfz30_1
    try clear hfz30_2
    obtain ⟨x18_1, x159001_1, u159001, rfl, HA, HK1, HO_159000, HO_159001, HO_159002, BK131, BK158, HB⟩ := hrel
    cases gk with
    | zero => exact absurd HA.out (by simp [furrowworkslaw04_sample.l0])
    | succ k1 =>
      have H := HA.out
      clear HA
      simp only [furrowworkslaw04_sample.l0] at H
      by_cases c31 : x18_1 < (y142.length : Int)
      · rw [if_pos c31] at H
        have c31b0 : decide (x18_1 < (y142.length : Int)) = true := decide_eq_true c31
        clear c31
        replace H := Option.bind_eq_some_iff.mp H
        obtain ⟨⟨t159, t160⟩, A320, H⟩ := H
        replace H : (if x159001_1.length < 8796093022208 then (furrowworkslaw04_sample.l0 k1 (y142.length : Int) (wrap64 (x18_1 + 1)) y142 (x159001_1 ++ [(⟨t159, t160⟩ : S28)]) y155) else (none)) = some (r1, r2, r3) := H
        have A32 := Aside0.mk A320
        clear A320
        by_cases c33 : x159001_1.length < 8796093022208
        · rw [if_pos c33] at H
          have LMc33 := Aside0.mk c33
          clear c33
          obtain ⟨y161, hy161⟩ : ∃ y_ : List (S28), y_ = (x159001_1 ++ [(⟨t159, t160⟩ : S28)]) := ⟨_, rfl⟩
          replace H : (furrowworkslaw04_sample.l0 k1 (y142.length : Int) (wrap64 (x18_1 + 1)) y142 y161 y155) = some (r1, r2, r3) := by first | (rw [hy161]; with_reducible exact H) | (have H2_ := (Option.bind_some _ _).symm.trans H; rw [hy161]; with_reducible exact H2_) | (have H2_ := (Option.bind_some _ _).symm.trans H; with_reducible exact H2_) | with_reducible exact H | (rw [hy161]; exact H) | exact H
          have Ny161 := Aside0.mk hy161
          clear hy161
          have H' := Aside0.mk H
          clear H
          try go_wp2
          have n0_ := Aside0.mk (Kd.R_drew HO_159000.out)
          have n1_ := Aside0.mk (Kd.R_drew HO_159001.out)
          have n2_ := Aside0.mk (Kd.R_drew HO_159002.out)
          have n3_ := Aside0.mk (blk_drew BK131.out)
          have n4_ := Aside0.mk (blk_drew BK158.out)
          have n5_ := Aside0.mk (below_drew1 HB.out)
          clear HO_159000
          clear HO_159001
          clear HO_159002
          clear BK131
          clear BK158
          clear HB
          have HO_159000 := n0_
          have HO_159001 := n1_
          have HO_159002 := n2_
          have BK131 := n3_
          have BK158 := n4_
          have HB := n5_
          clear n0_ n1_ n2_ n3_ n4_ n5_
          refine start_ (n := 7) (S := fun w' => w'.cell? ⟨gb158, 0, none⟩ = some (.slice Ao27 y142.length co27) ∧ w'.cell? ⟨gb158, 1, none⟩ = some (u159001) ∧ w'.cell? ⟨gb158, 2, none⟩ = some (.slice Ao26 y155.length co26)) (ds := [6]) #[false, false, false, false, false, false, false] (by kernel_rfl) rfl rfl ⟨(blk_cell BK158.out 0).trans rfl, (blk_cell BK158.out 1).trans rfl, (blk_cell BK158.out 2).trans rfl⟩ (fun hHeld => ?_)
          generalize wr.drew = w34 at HO_159000 HO_159001 HO_159002 BK131 BK158 HB hHeld ⊢
          refine pure_ (i := 0) (N := some 20) (v := ?_) (a' := ?_) #[true, false, false, false, false, false, false] rfl rfl (by kernel_rfl) (fun _ _ _ h => h) (Or.inl ⟨by rfl, ?_⟩) ?_ ?_
          rotate_left
          · intro w'
            go_simp
            with_reducible rfl
          rotate_left
          · simp only [Act.put, List.setIfInBounds_toArray, List.set_cons_zero, List.set_cons_succ, i64_w, i32_w]
            rfl
          refine take_ (i := 1) (N := some 21) (v := ?_) (a' := ?_) #[true, true, false, false, false, false, false] rfl rfl (by kernel_rfl) (fun _ _ _ h => h) (Or.inl ⟨by rfl, ?_⟩) hHeld ?_ ?_
          rotate_left
          · rintro w' ⟨s0, s1, s2⟩
            go_simp
            with_reducible rfl
          rotate_left
          · simp only [Act.put, List.setIfInBounds_toArray, List.set_cons_zero, List.set_cons_succ, i64_w, i32_w]
            rfl
          refine one_ (i := 2) (N := some 22) #[true, true, true, false, false, false, false] rfl rfl (by kernel_rfl) (by decide) (fun K hK => ?_)
          refine goes_ Try.func31 (by kernel_rfl) rfl #[.int .i64 30, .int .i64 30] (by rfl) rfl rfl (by (try simp only [List.map_toArray, List.map_cons, List.map_nil]); first | done | rfl | (simp only [List.length_drop, List.length_take]; rfl)) ?_
          with_reducible refine (furrowworkslaw04_span.calls 30 30 t159 t160 _ A32.out).mono ?_
          rintro e w35 ⟨rfl, hb⟩
          refine ⟨_, rfl, ?_⟩
          have n0_ := Aside0.mk (Kd.R_below (by (with_reducible repeat (first | apply Kd.R_alloc | apply Kd.R_drewN | apply Kd.R_drew)); exact HO_159000.out) hb)
          have n1_ := Aside0.mk (Kd.R_below (by (with_reducible repeat (first | apply Kd.R_alloc | apply Kd.R_drewN | apply Kd.R_drew)); exact HO_159001.out) hb)
          have n2_ := Aside0.mk (Kd.R_below (by (with_reducible repeat (first | apply Kd.R_alloc | apply Kd.R_drewN | apply Kd.R_drew)); exact HO_159002.out) hb)
          have n3_ := Aside0.mk (blk_below (g := gb131) (o := .cells #[.slice none 0 0, .slice none 0 0, .slice none 0 0] 24 (0, 0)) (by (with_reducible repeat (first | refine blk_drewN ?_ _ | refine blk_drew ?_ | refine blk_alloc ?_ _)); exact BK131.out) hb)
          have n4_ := Aside0.mk (blk_below (g := gb158) (o := .cells #[.slice Ao27 y142.length co27, u159001, .slice Ao26 y155.length co26] 24 (0, 0)) (by (with_reducible repeat (first | refine blk_drewN ?_ _ | refine blk_drew ?_ | refine blk_alloc ?_ _)); exact BK158.out) hb)
          have n5_ := Aside0.mk (below_step (by repeat (first | (with_reducible first | exact HB.out | apply below_alloc | apply pw_below_drewN | apply below_drew1 | refine below_set ?_ GE131.out | refine below_set ?_ GE158.out) | exact HB.out)) hb)
          clear HO_159000
          clear HO_159001
          clear HO_159002
          clear BK131
          clear BK158
          clear HB
          have HO_159000 := n0_
          have HO_159001 := n1_
          have HO_159002 := n2_
          have BK131 := n3_
          have BK158 := n4_
          have HB := n5_
          clear n0_ n1_ n2_ n3_ n4_ n5_
          (try clear hb)
          (try clear hb2)
          (try clear hk)
          (try clear hi)
          refine hK.out _ _ ⟨(blk_cell BK158.out 0).trans rfl, (blk_cell BK158.out 1).trans rfl, (blk_cell BK158.out 2).trans rfl⟩ (fun hHeld => ?_)
          clear hK K
          refine norm_ (a' := ?_) ?_ ?_
          rotate_left
          · show Act.put _ (some 22) _ = _
            simp only [Act.put, List.setIfInBounds_toArray, List.set_cons_zero, List.set_cons_succ, i64_w, i32_w]
            rfl
          refine one_ (i := 3) (N := some 23) #[true, true, true, true, false, false, false] rfl rfl (by kernel_rfl) (by decide) (fun K hK => ?_)
          refine value_ (w1 := ?_) (v := ?_) (by rfl) rfl ?_ ?_
          rotate_left 2
          · go_simp
            constructor
            · rfl
            · rfl
          refine hK.out _ _ ⟨(blk_cell (blk_alloc BK158.out _) 0).trans rfl, (blk_cell (blk_alloc BK158.out _) 1).trans rfl, (blk_cell (blk_alloc BK158.out _) 2).trans rfl⟩ (fun hHeld => ?_)
          clear hK K
          refine norm_ (a' := ?_) ?_ ?_
          rotate_left
          · show Act.put _ (some 23) _ = _
            simp only [Act.put, List.setIfInBounds_toArray, List.set_cons_zero, List.set_cons_succ, i64_w, i32_w]
            rfl
          refine one_ (i := 4) (N := some 24) #[true, true, true, true, true, false, false] rfl rfl (by kernel_rfl) (by decide) (fun K hK => ?_)
          refine Kd.R_append_step k28 (w0 := w) w.heap.size (by rfl) (.tmp 21) (.tmp 23) 22 28 (.agg #[(.int .i64 0), (.int .i64 0)]) 16 rfl Try.underlying22 info28 rfl (by decide) (by omega) u159001 x159001_1 (⟨t159, t160⟩ : S28) [.int .i64 t159, .int .i64 t160] (fun k_ => some k_ ≠ (.slice Ao27 y142.length co27 : Value).ownBlock ∧ some k_ ≠ (.slice Ao26 y155.length co26 : Value).ownBlock) (fun _ => False) rfl rfl ?aP (fun _ hk => hk.elim) ?aF ?aO ?aB ?aS ?aL ?_
          (case aP => exact k28_mkM _ _ _ (⟨t159, t160⟩ : S28))
          (case aB => exact (by repeat (first | (with_reducible first | exact HB.out | apply below_alloc | apply pw_below_drewN | apply below_drew1 | refine below_set ?_ GE131.out | refine below_set ?_ GE158.out) | exact HB.out)))
          (case aF => exact (fun k_ hk => ⟨Kd.fresh' (Kd.R_lt (by (with_reducible repeat (first | apply Kd.R_alloc | apply Kd.R_drewN | apply Kd.R_drew)); exact HO_159000.out)) k_ hk, Kd.fresh' (Kd.R_lt (by (with_reducible repeat (first | apply Kd.R_alloc | apply Kd.R_drewN | apply Kd.R_drew)); exact HO_159002.out)) k_ hk⟩))
          (case aO => exact (by (with_reducible repeat (first | apply Kd.R_alloc | apply Kd.R_drewN | apply Kd.R_drew)); exact HO_159001.out))
          (case aS => exact (below_size (by repeat (first | (with_reducible first | exact HB.out | apply below_alloc | apply pw_below_drewN | apply below_drew1 | refine below_set ?_ GE131.out | refine below_set ?_ GE158.out) | exact HB.out))))
          (case aL => have := LMc33.out; omega)
          intro v162 w36 ho hb hg hat
          rw [← Ny161.out] at ho
          have n0_ := Aside0.mk (Kd.R_after (ok := (fun k_ => some k_ ≠ (.slice Ao26 y155.length co26 : Value).ownBlock)) (by (with_reducible repeat (first | apply Kd.R_alloc | apply Kd.R_drewN | apply Kd.R_drew)); exact Kd.R_mono HO_159000.out (fun _ hk => ⟨hk.2, hk.1⟩)) hg hat)
          have n1_ := Aside0.mk (Kd.R_after (ok := (fun k_ => some k_ ≠ (.slice Ao27 y142.length co27 : Value).ownBlock)) (by (with_reducible repeat (first | apply Kd.R_alloc | apply Kd.R_drewN | apply Kd.R_drew)); exact HO_159002.out) hg hat)
          have n2_ := Aside0.mk (blk_grown (g := gb131) (o := .cells #[.slice none 0 0, .slice none 0 0, .slice none 0 0] 24 (0, 0)) (by (with_reducible repeat (first | refine blk_drewN ?_ _ | refine blk_drew ?_ | refine blk_alloc ?_ _)); exact BK131.out) hg (Kd.R_ne HO_159001.out BK131.out (by decide)))
          have n3_ := Aside0.mk (blk_grown (g := gb158) (o := .cells #[.slice Ao27 y142.length co27, u159001, .slice Ao26 y155.length co26] 24 (0, 0)) (by (with_reducible repeat (first | refine blk_drewN ?_ _ | refine blk_drew ?_ | refine blk_alloc ?_ _)); exact BK158.out) hg (Kd.R_ne HO_159001.out BK158.out (by decide)))
          have n4_ := Aside0.mk (hb)
          have n5_ := Aside0.mk (ho)
          clear HO_159000
          clear HO_159002
          clear BK131
          clear BK158
          clear HB
          clear HO_159001
          have HO_159000 := n0_
          have HO_159002 := n1_
          have BK131 := n2_
          have BK158 := n3_
          have HB := n4_
          have HO163 := n5_
          clear n0_ n1_ n2_ n3_ n4_ n5_
          clear ho hb hg hat
          obtain ⟨Ao37, co37, eo37⟩ := Kd.R_slice HO163.out
          (first | subst eo37 | (injection eo37 with f1_ f2_ f3_; have f4_ := f1_.symm; have f5_ := f3_.symm; clear f1_ f2_ f3_; subst f4_; subst f5_))
          refine hK.out _ _ ⟨(blk_cell BK158.out 0).trans rfl, (blk_cell BK158.out 1).trans rfl, (blk_cell BK158.out 2).trans rfl⟩ (fun hHeld => ?_)
          clear hK K
          refine norm_ (a' := ?_) ?_ ?_
          rotate_left
          · show Act.put _ (some 24) _ = _
            simp only [Act.put, List.setIfInBounds_toArray, List.set_cons_zero, List.set_cons_succ, i64_w, i32_w]
            rfl
          refine pure_ (i := 5) (N := some 25) (v := ?_) (a' := ?_) #[true, true, true, true, true, true, false] rfl rfl (by kernel_rfl) (fun _ _ _ h => h) (Or.inl ⟨by rfl, ?_⟩) ?_ ?_
          rotate_left
          · intro w'
            go_simp
            with_reducible rfl
          rotate_left
          · simp only [Act.put, List.setIfInBounds_toArray, List.set_cons_zero, List.set_cons_succ, i64_w, i32_w]
            rfl
          refine last_ (i := 6) (N := none) #[true, true, true, true, true, true, true] rfl rfl (by kernel_rfl) (by decide) (fun K hK => ?_)
          have hs38 : w36.cell? ⟨gb158, 1, none⟩ = some (u159001) := (blk_cell BK158.out 1).trans rfl
          have hfs38 := blk_frozen BK158.out 1
          have hns38_0 := NB131_158.out
          have hms38_0 := NB158_131.out
          refine skip_ (w1 := ?_) (by rfl) rfl ?_ ?_
          rotate_left
          · go_simp
            rfl
          refine hK.out _ _ ?_
          clear hK K
          refine done_ (by kernel_rfl) ?_
          try go_wp2
          go_roundg k1
          case measure => have := HK1.out; omega
          case rel => exact ⟨(wrap64 (x18_1 + 1)), (y161), (.slice Ao37 y161.length co37), (by first | rfl | (simp; done) | (simp [*]; done)), H', ⟨by have := HK1.out; omega⟩, ⟨by (with_reducible repeat (first | apply Kd.R_alloc | apply Kd.R_drewN | apply Kd.R_drew)); exact Kd.R_mono (Kd.R_far (p := ⟨gb158, 1, none⟩) (Kd.R_types HO_159000.out BK158.out (by decide)) (fun _ hk => hk.2) (.slice Ao37 y161.length co37)) (fun _ hk => ⟨hk.1.2, hk.1.1⟩)⟩, ⟨by (with_reducible repeat (first | apply Kd.R_alloc | apply Kd.R_drewN | apply Kd.R_drew)); exact Kd.R_mono (Kd.R_far (p := ⟨gb158, 1, none⟩) (Kd.R_types HO163.out BK158.out (by decide)) (fun _ hk => hk.2) (.slice Ao37 y161.length co37)) (fun _ hk => ⟨hk.1.1, hk.1.2⟩)⟩, ⟨by (with_reducible repeat (first | apply Kd.R_alloc | apply Kd.R_drewN | apply Kd.R_drew)); exact Kd.R_mono (Kd.R_far (p := ⟨gb158, 1, none⟩) (Kd.R_types HO_159002.out BK158.out (by decide)) (fun _ hk => hk.2) (.slice Ao37 y161.length co37)) (fun _ hk => ⟨hk.1.1, hk.1.2⟩)⟩, ⟨by (with_reducible repeat (first | refine blk_drewN ?_ _ | refine blk_drew ?_ | refine blk_alloc ?_ _)); refine blk_far ?_ NB131_158.out _; (with_reducible repeat (first | refine blk_drewN ?_ _ | refine blk_drew ?_ | refine blk_alloc ?_ _)); exact BK131.out⟩, ⟨by (with_reducible repeat (first | refine blk_drewN ?_ _ | refine blk_drew ?_ | refine blk_alloc ?_ _)); refine blk_put (cs := #[.slice Ao27 y142.length co27, u159001, .slice Ao26 y155.length co26]) ?_ 1 _ rfl; (with_reducible repeat (first | refine blk_drewN ?_ _ | refine blk_drew ?_ | refine blk_alloc ?_ _)); exact BK158.out⟩, ⟨by repeat (first | (with_reducible first | exact HB.out | apply below_alloc | apply pw_below_drewN | apply below_drew1 | refine below_set ?_ GE131.out | refine below_set ?_ GE158.out) | exact HB.out)⟩⟩
        · rw [if_neg c33] at H
          exact absurd H (by simp)
      · rw [if_neg c31] at H
        have c31b0 : decide (x18_1 < (y142.length : Int)) = false := decide_eq_false c31
        clear c31
        simp only [Option.some.injEq, Prod.mk.injEq] at H
        obtain ⟨rfl, rfl, rfl⟩ := H
        have hnb39 := NB158_131.out
        have hnc39 := NB131_158.out
        have hcz40_0 : wr.cell? ⟨gb158, 0, none⟩ = some (.slice Ao27 y142.length co27) := (blk_cell BK158.out 0).trans rfl
        have hcz40_1 : wr.cell? ⟨gb158, 1, none⟩ = some (u159001) := (blk_cell BK158.out 1).trans rfl
        have hcz40_2 : wr.cell? ⟨gb158, 2, none⟩ = some (.slice Ao26 y155.length co26) := (blk_cell BK158.out 2).trans rfl
        have hfz40_0 := blk_frozen BK158.out 0
        have hfz40_1 := blk_frozen BK158.out 1
        have hfz40_2 := blk_frozen BK158.out 2
        have hcz41_0 : wr.cell? ⟨gb131, 0, none⟩ = some (.slice none 0 0) := (blk_cell BK131.out 0).trans rfl
        have hcz41_1 : wr.cell? ⟨gb131, 1, none⟩ = some (.slice none 0 0) := (blk_cell BK131.out 1).trans rfl
        have hcz41_2 : wr.cell? ⟨gb131, 2, none⟩ = some (.slice none 0 0) := (blk_cell BK131.out 2).trans rfl
        have hfz41_0 := blk_frozen BK131.out 0
        have hfz41_1 := blk_frozen BK131.out 1
        have hfz41_2 := blk_frozen BK131.out 2
        obtain ⟨Ao42, co42, eo42⟩ := Kd.R_slice HO_159001.out
        subst eo42
        go_wp2
        refine bodyPost_ret (results_cell_row rfl _ _ gb131 24 #[.slice Ao27 y142.length co27, .slice Ao42 x159001_1.length co42, .slice Ao26 y155.length co26] (0, 0) _ rfl (by (with_reducible repeat (first | refine blk_drewN ?_ _ | refine blk_drew ?_ | refine blk_alloc ?_ _)); refine blk_put (cs := #[.slice Ao27 y142.length co27, .slice Ao42 x159001_1.length co42, .slice none 0 0]) ?_ 2 _ rfl; (with_reducible repeat (first | refine blk_drewN ?_ _ | refine blk_drew ?_ | refine blk_alloc ?_ _)); refine blk_put (cs := #[.slice Ao27 y142.length co27, .slice none 0 0, .slice none 0 0]) ?_ 1 _ rfl; (with_reducible repeat (first | refine blk_drewN ?_ _ | refine blk_drew ?_ | refine blk_alloc ?_ _)); refine blk_put (cs := #[.slice none 0 0, .slice none 0 0, .slice none 0 0]) ?_ 0 _ rfl; (with_reducible repeat (first | refine blk_drewN ?_ _ | refine blk_drew ?_ | refine blk_alloc ?_ _)); exact BK131.out) Try.underlying24 rfl (by kernel_rfl)) rfl ?_
        exact ⟨_, _, _, by first | rfl | (simp [errW_none, errW_some] <;> rfl) | (simp [*, errW_none, errW_some] <;> rfl), by (with_reducible repeat (first | apply Kd.R_alloc | apply Kd.R_drewN | apply Kd.R_drew)); exact Kd.R_mono (Kd.R_far (p := ⟨gb131, 2, none⟩) (Kd.R_far (p := ⟨gb131, 1, none⟩) (Kd.R_far (p := ⟨gb131, 0, none⟩) (Kd.R_types HO_159000.out BK131.out (by decide)) (fun _ hk => hk.2) (.slice Ao27 y142.length co27)) (fun _ hk => hk.2) (.slice Ao42 x159001_1.length co42)) (fun _ hk => hk.2) (.slice Ao26 y155.length co26)) (fun _ hk => ⟨hk.1.1, hk.1.2⟩), by (with_reducible repeat (first | apply Kd.R_alloc | apply Kd.R_drewN | apply Kd.R_drew)); exact Kd.R_mono (Kd.R_far (p := ⟨gb131, 2, none⟩) (Kd.R_far (p := ⟨gb131, 1, none⟩) (Kd.R_far (p := ⟨gb131, 0, none⟩) (Kd.R_types HO_159001.out BK131.out (by decide)) (fun _ hk => hk.2) (.slice Ao27 y142.length co27)) (fun _ hk => hk.2) (.slice Ao42 x159001_1.length co42)) (fun _ hk => hk.2) (.slice Ao26 y155.length co26)) (fun _ hk => ⟨hk.1.1, hk.1.2⟩), by (with_reducible repeat (first | apply Kd.R_alloc | apply Kd.R_drewN | apply Kd.R_drew)); exact Kd.R_mono (Kd.R_far (p := ⟨gb131, 2, none⟩) (Kd.R_far (p := ⟨gb131, 1, none⟩) (Kd.R_far (p := ⟨gb131, 0, none⟩) (Kd.R_types HO_159002.out BK131.out (by decide)) (fun _ hk => hk.2) (.slice Ao27 y142.length co27)) (fun _ hk => hk.2) (.slice Ao42 x159001_1.length co42)) (fun _ hk => hk.2) (.slice Ao26 y155.length co26)) (fun _ hk => ⟨hk.1.1, hk.1.2⟩), by repeat (first | (with_reducible first | exact HB.out | apply below_alloc | apply pw_below_drewN | apply below_drew1 | refine below_set ?_ GE131.out | refine below_set ?_ GE158.out) | exact HB.out)⟩

end Go.Proofs.Ytafmgmaelnpehaa.PFurrowAsks
end

section
set_option linter.unusedVariables false
set_option linter.unusedSimpArgs false
namespace Go.Proofs.Ytafmgmaelnpehaa
open Go.RowKit Go.TL Go.Shelf Go.Fu
open PFurrowAsks
def smp0 : List S28 := [⟨0, 1⟩, ⟨2, 3⟩, ⟨0, 0⟩, ⟨1, 1⟩, ⟨5, 6⟩]
def smp1 : List S28 := [⟨30, 30⟩, ⟨30, 30⟩, ⟨30, 30⟩, ⟨30, 30⟩, ⟨30, 30⟩]
def smp2 : List S28 := [⟨15, 16⟩, ⟨14, 18⟩, ⟨15, 15⟩, ⟨12, 14⟩, ⟨16, 17⟩]
def pF : List (Int × Int) := [(0, 1), (2, 3), (0, 0), (1, 1), (5, 6)]
theorem sample_is : furrowworkslaw04_sample.f 10 = some (smp0, smp1, smp2) := by kernel_rfl
theorem smp_valid : valid smp0 smp1 smp2 = true := by kernel_rfl
theorem pF_ok : ∀ x ∈ pF, okSpan x := by unfold okSpan; decide +kernel
theorem least_F : leastN pF = 3 := leastN_eq pF_ok ⟨by rw [canB_eq]; decide +kernel, fun k hk => by
  rw [canB_eq]
  rcases k with _ | _ | _ | k
  · decide +kernel
  · decide +kernel
  · decide +kernel
  · omega⟩
theorem bend_F : bendV true pF = ((3, 6), 0) := by
  unfold bendV
  rw [if_pos rfl, least_F, show hiF pF (pF.length - 2) = 6 by decide +kernel]
  rfl
theorem at_F1 : atF pF 1 = (3, 6) := by decide +kernel
theorem at_F2 : atF pF 2 = (3, 4) := by decide +kernel
theorem at_F3 : atF pF 3 = (3, 4) := by decide +kernel
theorem str_F : strV true pF = ([1, 2, 0, 1, 5], 0) := by
  unfold strV
  rw [if_pos rfl, least_F]
  unfold strF
  have h : strStep 3 = fun s k => match (spanL (s.1.getD k (0, 0))).find? (fun o => canD (s.1.set k (o, o)) (upP 3)) with
    | some o => (s.1.set k (o, o), s.2 ++ [o])
    | none => s := by
    funext s k
    unfold strStep
    simp only [canB_eq]
    rfl
  rw [h]
  decide +kernel
theorem worst_F : worstV true pF = (0, 14, 0) := by
  unfold worstV
  rw [if_pos rfl]
  have h1 : worstS pF = fun n => decide (1 ≤ n) && !(spanL (atF pF n)).any fun own => (List.range (pF.length - 1)).any fun i => decide (1 ≤ i) && !decide (i = n) && canD pF (wp2 own n i) := by
    funext n
    unfold worstS lessO
    simp only [canB_eq]
  have h2 : worstC pF = fun n => decide (1 ≤ n) && (spanL (atF pF n)).any fun own => canD pF (wp1 own n) := by
    funext n
    unfold worstC
    simp only [canB_eq]
  rw [h1, h2]
  decide +kernel
/-! ### Which stations must be wrong -/
/-- Of the sets that are enough, r has the fewest stations; of those, it is the least. -/
structure IsWrong (l : List (Int × Int)) (most : Int) (r : Nat) : Prop where
  lt : r < 2 ^ l.length
  can : canB (freeS r l) (upP most) = true
  min : ∀ s, s < 2 ^ l.length → canB (freeS s l) (upP most) = true → ones 8 r ≤ ones 8 s ∧ (ones 8 s = ones 8 r → r ≤ s)
theorem IsWrong.eq {l : List (Int × Int)} {most : Int} {r s : Nat} (h : IsWrong l most r) (k : IsWrong l most s) : r = s := by
  obtain ⟨a1, a2⟩ := h.min s k.lt k.can
  obtain ⟨b1, b2⟩ := k.min r h.lt h.can
  have := a2 (by omega)
  have := b2 (by omega)
  omega
theorem getD_set {α : Type} (l : List α) (d : α) (k i : Nat) (v : α) (h : k < l.length) : (l.set k v).getD i d = if i = k then v else l.getD i d := by
  simp only [List.getD_eq_getElem?_getD, List.getElem?_set]
  by_cases e : k = i
  · subst e; simp [h]
  · simp [e, Ne.symm e]
theorem freeK_get (s : Nat) (l : List (Int × Int)) (i : Nat) : ∀ k, k ≤ l.length → (freeK s l k).getD i (0, 0) = if i < k ∧ s / 2 ^ i % 2 = 1 then (-12, 12) else l.getD i (0, 0)
  | 0, _ => by simp [freeK]
  | k + 1, hk => by
    have ih := freeK_get s l i k (by omega)
    have hl := freeK_len s l k
    unfold freeK
    split
    · rename_i hs
      rw [getD_set _ _ _ _ _ (by omega), ih]
      by_cases e : i = k
      · subst e; simp [hs]
      · simp only [e, if_false]
        by_cases h1 : s / 2 ^ i % 2 = 1
        · simp only [h1, and_true]; congr 1; apply propext; omega
        · simp [h1]
    · rename_i hs
      rw [ih]
      by_cases e : i = k
      · subst e; simp [hs]
      · by_cases h1 : s / 2 ^ i % 2 = 1
        · simp only [h1, and_true]; congr 1; apply propext; omega
        · simp [h1]
theorem freeS_get (s : Nat) (l : List (Int × Int)) (i : Nat) (h : i < l.length) : (freeS s l).getD i (0, 0) = if s / 2 ^ i % 2 = 1 then (-12, 12) else l.getD i (0, 0) := by
  unfold freeS
  rw [freeK_get _ _ _ _ (Nat.le_refl _)]
  simp [h]
theorem freeS_len (s : Nat) (l : List (Int × Int)) : (freeS s l).length = l.length := freeK_len s l _
theorem freeS_ok (s : Nat) (l : List (Int × Int)) (hok : ∀ x ∈ l, okSpan x) : ∀ x ∈ freeS s l, okSpan x := freeK_ok s l hok _
theorem ones_le : ∀ (k s : Nat), s < 2 ^ k → ∀ j, k ≤ j → ones j s ≤ k
  | 0, s, h, j, hj => by
    obtain rfl : s = 0 := by simpa using h
    have : ∀ j, ones j 0 = 0 := fun j => by induction j with
      | zero => rfl
      | succ j ih => simp [ones, ih]
    rw [this]
    exact Nat.le_refl _
  | k + 1, s, h, j, hj => by
    obtain ⟨j, rfl⟩ : ∃ m, j = m + 1 := ⟨j - 1, by omega⟩
    have := ones_le k (s / 2) (by rw [Nat.pow_succ] at h; omega) j (by omega)
    unfold ones
    omega
theorem full_bit (n i : Nat) (h : i < n) : (2 ^ n - 1) / 2 ^ i % 2 = 1 := by
  have := Nat.testBit_two_pow_sub_one n i
  simp only [Nat.testBit, h, decide_true, Nat.shiftRight_eq_div_pow, Nat.one_and_eq_mod_two, bne_iff_ne] at this
  omega
theorem free_all (l : List (Int × Int)) (most : Int) (hm : 0 ≤ most) (hok : ∀ x ∈ l, okSpan x) : canB (freeS (2 ^ l.length - 1) l) (upP most) = true := by
  rw [canB_iff _ _ (freeS_ok _ _ hok)]
  refine ⟨fun _ => 0, fun i hi => ?_, fun n h1 h2 => ?_⟩
  · rw [freeS_len] at hi
    unfold InS
    rw [freeS_get _ _ _ hi, if_pos (full_bit _ _ hi)]
    simp
  · exact decide_eq_true (show bendI 0 0 0 ≤ most by unfold bendI; split <;> omega)
theorem wrong_is {l : List (Int × Int)} {most : Int} {r : Nat} (hl : l.length ≤ 8) (hm : 0 ≤ most) (hok : ∀ x ∈ l, okSpan x) (h : WrongIs l most r) : IsWrong l most r := by
  have key : ∀ s z, s < 2 ^ l.length → (∀ t, t < 2 ^ l.length → okSet l most z t = false) → canB (freeS s l) (upP most) = true → ones 8 s ≠ z := by
    intro s z hs hn hc e
    have := hn s hs
    unfold okSet at this
    rw [hc, e] at this
    simp at this
  rcases h with ⟨size, h1, h2, h3, h4, h5⟩ | ⟨h1, h2⟩
  · unfold okSet at h4
    simp only [Bool.and_eq_true, decide_eq_true_eq] at h4
    refine ⟨h2, h4.2, fun s hs hc => ?_⟩
    have a : ¬ ones 8 s < size := fun hlt => key s _ hs (fun t ht => h5 _ hlt t ht) hc rfl
    refine ⟨by omega, fun e => ?_⟩
    refine Nat.le_of_not_lt fun hlt => ?_
    have := h3 s hlt
    unfold okSet at this
    rw [hc, e, h4.1] at this
    simp at this
  · exfalso
    have hlt : 2 ^ l.length - 1 < 2 ^ l.length := by have := Nat.two_pow_pos l.length; omega
    exact key _ _ hlt (fun t ht => h1 (ones 8 (2 ^ l.length - 1)) (by have := ones_le l.length _ hlt 8 hl; omega) t ht) (free_all l most hm hok) rfl
theorem wrong_F2 : IsWrong pF 2 6 := by
  refine ⟨by decide, by rw [canB_eq]; decide +kernel, ?_⟩
  have h : ∀ s ∈ [0, 1, 2, 4, 8, 16, 3, 5], canB (freeS s pF) (upP 2) = false := by
    intro s hs
    rw [canB_eq]
    revert s
    decide +kernel
  intro s hs hc
  have hs : s < 32 := hs
  have c6 : ones 8 6 = 2 := rfl
  have all : ∀ s, s < 32 → s ∈ [0, 1, 2, 4, 8, 16, 3, 5] ∨ (2 ≤ ones 8 s ∧ (ones 8 s = 2 → 6 ≤ s)) := by decide +kernel
  rcases all s hs with h1 | h1
  · rw [h s h1] at hc; cases hc
  · rw [c6]; exact h1
theorem wrong_F3 : IsWrong pF 3 0 := by
  refine ⟨by decide, by rw [canB_eq]; decide +kernel, fun s hs hc => ⟨by rw [show ones 8 0 = 0 from rfl]; omega, fun _ => by omega⟩⟩
end Go.Proofs.Ytafmgmaelnpehaa
end

section
set_option linter.unusedVariables false
set_option linter.unusedSimpArgs false
namespace Go.Proofs.Ytafmgmaelnpehaa
open Go.RowKit Go.TL Go.Shelf Go.Fu
attribute [local go_sem] Oper.semAt_some
open PFurrowAsks Go.Proofs.YtafmgmaelnpehaaW.PrintWords Go.Proofs.YtafmgmaelnpehaaW.PrintMore
attribute [local go_sem] max2_int min2_int max_two min_two max_three min_three max_four min_four
def max3 (a b c : Nat) : Nat := max (max a b) c
def wideB (l : List S28) (wide : Int) : Bool := l.any fun s => decide (wide < s.f1 - s.f0)
def heavyB (l0 l1 l2 : List S28) (st wide : Int) : Bool := if max3 l0.length l1.length l2.length > 40 ∨ valid l0 l1 l2 = false then decide (max3 l0.length l1.length l2.length > 40) else wideB l0 wide || decide (st < (max3 l0.length l1.length l2.length : Nat))
def HvI (F : Fur) (st wide : Int) (m : Nat) (w : World) (j : Nat) (t : Array Value) (W : World) : Prop :=
  ∃ k : Nat, k ≤ F.l0.length ∧ j = F.l0.length - k ∧ F.At W ∧ Below w.heap.size w W ∧ wideB (F.l0.take k) wide = false ∧
    Slots [none, some (.int .i64 st), some (.int .i64 wide), none, none, none, none, some (.int .i64 m), none, none, none, none, none, none, none, none, none, none, none, none, none, none, none, none, none, none, none, none, none, none, some (.slice F.A0 F.l0.length F.c0), some (.int .i64 F.l0.length), some (.int .i64 k), none, none, none, none, none, none, none, none, none, none, none, none, none, none] t
theorem valid_bd {l0 l1 l2 : List S28} (h : valid l0 l1 l2 = true) (k : Nat) (hk : k < l0.length) : (-12 ≤ (l0[k]'hk).f0 ∧ (l0[k]'hk).f0 ≤ (l0[k]'hk).f1 ∧ (l0[k]'hk).f1 ≤ 12) ∧ (l0[k]'hk).f1 - (l0[k]'hk).f0 ≤ 6 := by
  unfold valid at h
  simp only [Bool.and_eq_true] at h
  have := (stsOk_all l0 l1 l2 _ _).1 h.2 k (by omega) (by omega)
  unfold stOk at this
  simp only [Bool.and_eq_true, decide_eq_true_eq] at this
  have e : rd_T28 l0 k = l0[k] := by simp [rd_T28, hk]
  rw [e] at this
  exact ⟨this.1.1.1, this.1.1.2⟩
theorem heavy_any (F : Fur) (st wide : Int) (w : World) (h : F.At w) :
    Calls Try.prog 13 #[F.val, .int .i64 st, .int .i64 wide] w fun e w' => e = .returned (.bool (heavyB F.l0 F.l1 F.l2 st wide)) ∧ Below w.heap.size w w' := by
  refine calls_of_exec Try.func13 rfl ?_
  simp only [Try.ntmps13, List.size_toArray, List.length_cons, List.length_nil, Nat.reduceAdd, Nat.reduceSub, Array.replicate_succ, Array.replicate_zero, List.push_toArray, List.append_toArray, List.nil_append, List.cons_append]
  simp only [Fur.val, Fur.s0, Fur.s1, Fur.s2]
  refine exec_seq (exec_region_o fun ds => ?_)
  gi_wp2
  refine eq_mk ((Keep.refl w).alloc _) ?_
  show Exec _ _ _ _ _ _
  have b1 := Box3.new w 24 F.s0 F.s1 F.s2
  have hB := (Below.refl w.heap.size w).alloc (Nat.le_refl _) (.cells #[F.s0, F.s1, F.s2] 24)
  simp only [Fur.s0, Fur.s1, Fur.s2] at b1 hB
  generalize w.alloc (.cells #[.slice F.A0 F.l0.length F.c0, .slice F.A1 F.l1.length F.c1, .slice F.A2 F.l2.length F.c2] 24) = V at *
  have c0 := b1.cell0
  have c1 := b1.cell1
  have c2 := b1.cell2
  have hF := h.below hB
  obtain ⟨m, hm⟩ : ∃ m, max3 F.l0.length F.l1.length F.l2.length = m := ⟨_, rfl⟩
  have hm' := hm
  unfold max3 at hm'
  clear h
  have hmx := Lib.hid hm'
  clear hm'
  refine exec_cut (fun t' W => W = V ∧ Slots [none, some (.int .i64 st), some (.int .i64 wide), some (.pointer (some ⟨w.heap.size, 0, none⟩)), none, none, none, some (.int .i64 m), none, none, none, none, none, none, none, none, none, none, none, none, none, none, none, none, none, none, none, none, none, none, none, none, none, none, none, none, none, none, none, none, none, none, none, none, none, none, none] t') (exec_region_o fun ds => ?_) ?_
  · gi_wp2
    all_goals
      have h2 := hmx.out
      refine eq_mk (Keep.refl _) ⟨rfl, by simp [Slots, Fits]; (try split at *) <;> omega⟩
  have hl0 : F.l0.length ≤ m := by have := hmx.out; omega
  clear hmx
  rintro t W ⟨rfl, hSl⟩
  obtain ⟨x, hx⟩ := Slots.open_ hSl; simp only [fill, Nat.reduceAdd] at hx; subst hx; clear hSl
  have hb : heavyB F.l0 F.l1 F.l2 st wide = heavyB F.l0 F.l1 F.l2 st wide := rfl
  conv at hb => rhs; unfold heavyB
  rw [hm] at hb
  have res : ∀ (W' : World) (v : Bool) (y : Nat → Value), (results Try.f13 (fill [none, none, none, none, none, none, some (.bool v), none, none, none, none, none, none, none, none, none, none, none, none, none, none, none, none, none, none, none, none, none, none, none, none, none, none, none, none, none, none, none, none, none, none, none, none, none, none, none, none] 0 y).toArray).run Try.prog W' = .ok (.bool v) W' := fun W' v y => by simp [results, Try.f13, go_sem, fill]
  refine exec_seq ?_
  by_cases hm40 : m > 40
  · rw [if_pos (.inl hm40), decide_eq_true hm40] at hb
    have q1 : decide ((m : Int) > 40) = true := decide_eq_true (by omega)
    have q2 : (40 : Int) < m := by omega
    rw [hb]
    clear hb hm
    refine exec_seq (exec_region_o fun ds => ?_)
    gi_wp2_with fail
    refine ⟨trivial, ?_⟩
    gi_wp2
    refine eq_mk (Keep.refl _) ?_
    show Exec _ _ _ _ _ _
    refine exec_cond (b := true) rfl (fun _ => ?_) (fun h => by cases h)
    refine exec_seq (exec_region_o fun ds => ?_)
    gi_wp2
    refine eq_mk (Keep.refl _) ?_
    show Exec _ _ _ _ _ _
    exact exec_ret ⟨.inr rfl, fun W' hG => ⟨_, by simp [results, Try.f13, go_sem]; rfl, by first | rfl | simp, hB.trans (hG.below (Nat.le_refl _) hB.size)⟩⟩
  have q1 : decide ((m : Int) > 40) = false := decide_eq_false (by omega)
  have q2 : (m : Int) ≤ 40 := by omega
  refine exec_seq (exec_region_o fun ds => ?_)
  gi_wp2_with fail
  refine ⟨trivial, rfl, (callsIn_wide.2 (furrowworksref04_Furrow.calls 20 F.A0 F.c0 F.l0 F.A1 F.c1 F.l1 F.A2 F.c2 F.l2 _ W hF.r0 hF.h0 hF.r1 hF.h1 hF.r2 hF.h2 (refFurrow_is F.l0 F.l1 F.l2))).mono ?_⟩
  rintro e W1 ⟨rfl, hw1⟩
  have hB1 := hB.trans (hw1.mono hB.size)
  have hK := Keep.of_below hw1
  by_cases hv : valid F.l0 F.l1 F.l2 = false
  · rw [if_pos (.inr hv), decide_eq_false hm40] at hb
    have HB := Lib.hid hb
    rw [hv]
    clear hb hm hv
    gi_wp2
    refine eq_mk hK ?_
    show Exec _ _ _ _ _ _
    refine exec_cond (b := true) (by simp [ev, go_sem, Act.eval]) (fun _ => ?_) (fun h => by cases h)
    refine exec_seq (exec_region_o fun ds => ?_)
    gi_wp2
    refine eq_mk (Keep.refl _) ?_
    show Exec _ _ _ _ _ _
    exact exec_ret ⟨.inr rfl, fun W' hG => ⟨_, by simp [results, Try.f13, go_sem]; rfl, by rw [HB.out]; (try simp [hm40]), hB1.trans (hG.below (Nat.le_refl _) hB1.size)⟩⟩
  have hv' : valid F.l0 F.l1 F.l2 = true := by simpa using hv
  rw [if_neg (by simp [hm40, hv])] at hb
  rw [hv']
  gi_wp2
  refine eq_mk hK ?_
  show Exec _ _ _ _ _ _
  refine exec_cond (b := false) (by simp [ev, go_sem, Act.eval]) (fun h => by cases h) (fun _ => exec_skip ?_)
  show Exec _ _ _ _ _ _
  replace c0 := (hw1.cell b1.lt).trans b1.cell0
  have hF1 := hF.below hw1
  clear hw1 hK hB hF c1 c2 b1
  refine exec_seq (exec_seq (exec_region_o fun ds => ?_))
  gi_wp2
  refine eq_mk (Keep.refl _) ?_
  show Exec _ _ _ _ _ _
  have hb2 : heavyB F.l0 F.l1 F.l2 st wide = (wideB F.l0 wide || decide (st < (m : Int))) := hb
  have HB := Lib.hid hb2
  clear c0 hb hb2 hv hm
  have hbd : ∀ (k : Nat) (hk : k < F.l0.length), (-1000000000 ≤ (F.l0[k]'hk).f1 ∧ (F.l0[k]'hk).f1 ≤ 1000000000 ∧ -1000000000 ≤ (F.l0[k]'hk).f0 ∧ (F.l0[k]'hk).f0 ≤ 1000000000) := by
    intro k hk
    obtain ⟨h1, h2⟩ := valid_bd hv' k hk
    omega
  have hl40 : F.l0.length ≤ 40 := by
    omega
  refine exec_block ?_
  refine exec_loop (HvI F st wide m w) F.l0.length ⟨0, by omega, by omega, hF1, hB1, rfl, by simp [Slots, Fits]⟩ ?_
  clear hF1 hB1
  clear W1 W
  rintro j t W ⟨k, hk, rfl, hF, hB, hwd, hSl⟩
  obtain ⟨x, hx⟩ := Slots.open_ hSl; simp only [fill, Nat.reduceAdd] at hx; subst hx; clear hSl
  refine exec_seq (exec_region_o fun ds => ?_)
  gi_wp2
  refine eq_mk (Keep.refl _) ?_
  show Exec _ _ _ _ _ _
  refine exec_seq (exec_cond (b := decide (k < F.l0.length)) rfl (fun hp => exec_skip ?_) (fun hp => exec_exit ?_))
  · have hkl : k < F.l0.length := by have := of_decide_eq_true hp; omega
    show Exec _ _ _ _ _ _
    obtain ⟨ad, hA, hc0, hc1⟩ := at_T28 hF.r0 k (by omega) (by omega)
    have hrd : rd_T28 F.l0 k = F.l0[k] := by simp [rd_T28, hkl]
    rw [hrd] at hc0 hc1
    simp only [Int.toNat_natCast] at hc0 hc1
    have hwd2 : wideB (F.l0.take (k + 1)) wide = (wideB (F.l0.take k) wide || decide (wide < F.l0[k].f1 - F.l0[k].f0)) := by unfold wideB; exact any_take _ _ _ hkl
    rw [hwd, Bool.false_or] at hwd2
    have hwB := hF.r0
    have hst := fun b => hB.alloc hB.size b
    have hd1 : ∀ x, F.l0[k]'hkl = x → True := fun _ _ => trivial
    have hin : (-1000000000 ≤ (F.l0[k]'hkl).f1 ∧ (F.l0[k]'hkl).f1 ≤ 1000000000 ∧ -1000000000 ≤ (F.l0[k]'hkl).f0 ∧ (F.l0[k]'hkl).f0 ≤ 1000000000) := hbd k hkl
    obtain ⟨i1, i2, i3, i4⟩ := hin
    generalize F.l0[k]'hkl = s0 at *
    rw [hA]
    have HW := Lib.hid hwd2
    clear hwd2
    refine exec_cut (fun t' W' => F.At W' ∧ Below w.heap.size w W' ∧ wideB (F.l0.take (k + 1)) wide = false ∧ Slots [none, some (.int .i64 st), some (.int .i64 wide), none, none, none, none, some (.int .i64 m), none, none, none, none, none, none, none, none, none, none, none, none, none, none, none, none, none, none, none, none, none, none, some (.slice F.A0 F.l0.length F.c0), some (.int .i64 F.l0.length), some (.int .i64 k), none, none, none, none, none, none, none, none, none, none, none, none, none, none] t') (exec_block (exec_seq (exec_region_o fun ds => ?_))) ?after
    case after =>
      clear hF hB hwB hst hd1 hc0 hc1
      clear W
      rintro t W ⟨hF, hB, hwd, hSl⟩
      obtain ⟨x, hx⟩ := Slots.open_ hSl; simp only [fill, Nat.reduceAdd] at hx; subst hx; clear hSl
      refine exec_region_o fun ds => ?_
      gi_wp2
      exact eq_mk (Keep.refl _) ⟨F.l0.length - (k + 1), by omega, k + 1, by omega, rfl, hF, hB, hwd, by simp [Slots, Fits]⟩
    gi_wp2
    refine eq_mk ((Keep.refl _).alloc _) ?_
    show Exec _ _ _ _ _ _
    have gr := Grow.alloc W.heap.size W (.cells #[.int .i64 s0.f0, .int .i64 s0.f1] 28)
    have p1 := hF.grow gr
    have p2 := hst (.cells #[.int .i64 s0.f0, .int .i64 s0.f1] 28)
    have p3 := Box2.new W 28 s0.f0 s0.f1
    generalize W.alloc (.cells #[.int .i64 s0.f0, .int .i64 s0.f1] 28) = W1 at *
    clear gr hF hB hwB hst hc0 hc1 hd1
    generalize W.heap.size = b9 at *
    clear W
    have e0 := p3.cell0
    have e1 := p3.cell1
    refine exec_seq (exec_region_o fun ds => ?_)
    gi_wp2
    refine eq_mk (Keep.refl _) ?_
    show Exec _ _ _ _ _ _
    refine exec_cond (b := decide (wide < s0.f1 - s0.f0)) rfl (fun hp => ?_) (fun hp => exec_skip ⟨p1, p2, by rw [HW.out]; exact hp, by simp [Slots, Fits]⟩)
    refine exec_seq (exec_region_o fun ds => ?_)
    gi_wp2
    refine eq_mk (Keep.refl _) ?_
    show Exec _ _ _ _ _ _
    refine exec_ret ⟨.inr rfl, fun W' hG => ⟨_, by simp [results, Try.f13, go_sem]; rfl, ?_, p2.trans (hG.below (Nat.le_refl _) p2.size)⟩⟩
    have : wideB F.l0 wide = true := by
      have h1 := HW.out
      rw [hp] at h1
      unfold wideB at h1 ⊢
      rw [List.any_eq_true] at h1 ⊢
      obtain ⟨x, hx, hq⟩ := h1
      exact ⟨x, List.mem_of_mem_take hx, hq⟩
    rw [this]
    rfl
  · have hkl : k = F.l0.length := by have := of_decide_eq_false hp; omega
    subst hkl
    rw [List.take_length] at hwd
    show Exec _ _ _ _ _ _
    refine exec_seq (exec_region_o fun ds => ?_)
    gi_wp2
    refine eq_mk (Keep.refl _) ?_
    show Exec _ _ _ _ _ _
    exact exec_ret ⟨.inr rfl, fun W' hG => ⟨_, by simp [results, Try.f13, go_sem]; rfl, by rw [hwd]; simp, hB.trans (hG.below (Nat.le_refl _) hB.size)⟩⟩
end Go.Proofs.Ytafmgmaelnpehaa
end

section
namespace Go.Proofs.Ytafmgmaelnpehaa.PFurrowAsks
open Go.RowKit Go.Proofs.YtafmgmaelnpehaaW.PrintWords Go.Proofs.YtafmgmaelnpehaaW.PrintLast Go.Proofs.YtafmgmaelnpehaaW.PrintMore
attribute [local go_sem] max2_int min2_int max_two min_two max_three min_three max_four min_four   -- for this text's walks alone
set_option linter.unusedVariables false
set_option linter.unusedSimpArgs false

/-! ### furrowworksref04_Ints: function 23 -/
def furrowworksref04_Ints.l0 : Nat → List Int → List Int → Int → Option (Bool)
  | 0, _, _, _ => none
  | k + 1, x0, x1, x5 => if x5 < (x0.length : Int) then (if 0 ≤ x5 then (if x5 < (x1.length : Int) then (if (rd x0 x5) = (rd x1 x5) then (furrowworksref04_Ints.l0 k x0 x1 (wrap64 (x5 + 1))) else (some false)) else (none)) else (none)) else (some true)
def furrowworksref04_Ints.f (k : Nat) (l0 : List Int) (l1 : List Int) : Option (Bool) := if (l0.length : Int) = (l1.length : Int) then (furrowworksref04_Ints.l0 k l0 l1 0) else (some false)
theorem furrowworksref04_Ints.mono_l : ∀ k, (∀ y0 y1 y2, LeO (furrowworksref04_Ints.l0 k y0 y1 y2) (furrowworksref04_Ints.l0 (k + 1) y0 y1 y2))
  | 0 => fun _ _ _ r h => by simp [furrowworksref04_Ints.l0] at h
  | k + 1 => by
    have ih0 := furrowworksref04_Ints.mono_l k
    · intro y0 y1 y2
      unfold furrowworksref04_Ints.l0
      repeat' first
      | (with_reducible exact ih0 _ _ _)
      | (with_reducible exact LeO.refl _)
      | (with_reducible exact LeO.none _)
      | (with_reducible refine LeO.ite ?_ ?_)
      | (with_reducible refine LeO.bind ?_ (fun _ => ?_))
      | exact ih0 _ _ _
      | exact LeO.none _
      | refine LeO.ite ?_ ?_
      | refine LeO.bind ?_ (fun _ => ?_)
theorem furrowworksref04_Ints.mono : ∀ a0 a1 k, LeO (furrowworksref04_Ints.f k a0 a1) (furrowworksref04_Ints.f (k + 1) a0 a1) := by
  intro a0 a1 k
  have ih0 := furrowworksref04_Ints.mono_l k
  unfold furrowworksref04_Ints.f
  repeat' first
      | (with_reducible exact ih0 _ _ _)
      | (with_reducible exact LeO.refl _)
      | (with_reducible exact LeO.none _)
      | (with_reducible refine LeO.ite ?_ ?_)
      | (with_reducible refine LeO.bind ?_ (fun _ => ?_))
      | exact ih0 _ _ _
      | exact LeO.none _
      | refine LeO.ite ?_ ?_
      | refine LeO.bind ?_ (fun _ => ?_)
set_option maxHeartbeats 8000000 in
set_option maxRecDepth 100000 in
theorem furrowworksref04_Ints.calls (k : Nat) (A0 : Option Addr) (c0 : Nat) (l0 : List Int) (A1 : Option Addr) (c1 : Nat) (l1 : List Int) (r : Bool) (w : World) (hr0 : Kd.C (Kd.int .i64) w A0 l0.length l0) (hc0 : l0.length ≤ c0) (hr1 : Kd.C (Kd.int .i64) w A1 l1.length l1) (hc1 : l1.length ≤ c1) (h : furrowworksref04_Ints.f k l0 l1 = some r) :
    Calls Try.prog 23 #[.slice A0 l0.length c0, .slice A1 l1.length c1] w fun e w' => e = .returned (.bool r) ∧ Drawn0 w w' := by
  have HR0 := Aside0.mk hr0
  have HC0 := Aside0.mk hc0
  clear hr0 hc0
  have HR1 := Aside0.mk hr1
  have HC1 := Aside0.mk hc1
  clear hr1 hc1
  have H : (if (l0.length : Int) = (l1.length : Int) then (furrowworksref04_Ints.l0 k l0 l1 0) else (some false)) = some r := h
  clear h
  by_cases c3 : (l0.length : Int) = (l1.length : Int)
  · rw [if_pos c3] at H
    have c3b0 : ((l0.length : Int) == (l1.length : Int)) = true := beq_iff_eq.mpr c3
    have c3b1 : ((l0.length : Int) != (l1.length : Int)) = false := bne_eq_false_iff_eq.mpr c3
    have c3b2 : (l0.length == l1.length) = true := by first | simpa using c3 | (simp at c3 ⊢; omega)
    clear c3
    have H' := Aside0.mk H
    clear H
    go_enter Try.func23, Try.ntmps23
    go_wp2
    repeat (go_quiet (fail); try go_wp2)
    go_loopg [5] k (fun kq v5 w' => ∃ (x5_1 : Int), v5 = .int .i64 x5_1 ∧ Aside0 (furrowworksref04_Ints.l0 kq l0 l1 x5_1 = some r) ∧ Aside0 (kq ≤ k) ∧ Drawn0 w w')
    case atStart => exact ⟨(0), (by first | rfl | (simp; done) | (simp [*]; done)), H', ⟨Nat.le_refl _⟩, by repeat (first | exact Drawn0.refl _ | apply Drawn0.step)⟩
    case round =>
      clear H'
      try clear c1
      try clear c2
      try clear p2
      try clear c3
      try clear c3b0
      try clear c3b1
      try clear c3b2
      obtain ⟨x5_1, rfl, HA, HK1, ⟨m1, rfl⟩⟩ := hrel
      cases gk with
      | zero => exact absurd HA.out (by simp [furrowworksref04_Ints.l0])
      | succ k1 =>
        have H := HA.out
        clear HA
        simp only [furrowworksref04_Ints.l0] at H
        by_cases c4 : x5_1 < (l0.length : Int)
        · rw [if_pos c4] at H
          have c4b0 : decide (x5_1 < (l0.length : Int)) = true := decide_eq_true c4
          clear c4
          by_cases c5 : 0 ≤ x5_1
          · rw [if_pos c5] at H
            have c5b0 : decide (0 ≤ x5_1) = true := decide_eq_true c5
            clear c5
            by_cases c6 : x5_1 < (l1.length : Int)
            · rw [if_pos c6] at H
              have c6b0 : decide (x5_1 < (l1.length : Int)) = true := decide_eq_true c6
              clear c6
              by_cases c7 : (rd l0 x5_1) = (rd l1 x5_1)
              · rw [if_pos c7] at H
                have c7b0 : ((rd l0 x5_1) == (rd l1 x5_1)) = true := beq_iff_eq.mpr c7
                have c7b1 : ((rd l0 x5_1) != (rd l1 x5_1)) = false := bne_eq_false_iff_eq.mpr c7
                clear c7
                have H' := Aside0.mk H
                clear H
                have p124 : 0 ≤ (x5_1 : Int) := of_decide_eq_true (by first | (with_reducible assumption) | assumption)
                have q124 : x5_1 < (l0.length : Int) := of_decide_eq_true (by first | (with_reducible assumption) | assumption)
                obtain ⟨ad124, e124, hx124_0⟩ := Kd.at_int HR0.out x5_1 p124 q124
                cases e124
                replace p124 := eq_true p124
                replace q124 := eq_true q124
                have p125 : 0 ≤ (x5_1 : Int) := of_decide_eq_true (by first | (with_reducible assumption) | assumption)
                have q125 : x5_1 < (l1.length : Int) := of_decide_eq_true (by first | (with_reducible assumption) | assumption)
                obtain ⟨ad125, e125, hx125_0⟩ := Kd.at_int HR1.out x5_1 p125 q125
                cases e125
                replace p125 := eq_true p125
                replace q125 := eq_true q125
                go_wp2
                repeat (go_quiet (fail); try go_wp2)
                go_roundg k1
                case measure => have := HK1.out; omega
                case rel => exact ⟨(wrap64 (x5_1 + 1)), (by first | rfl | (simp; done) | (simp [*]; done)), H', ⟨by have := HK1.out; omega⟩, by repeat (first | exact Drawn0.refl _ | apply Drawn0.step)⟩
              · rw [if_neg c7] at H
                have c7b0 : ((rd l0 x5_1) == (rd l1 x5_1)) = false := beq_eq_false_iff_ne.mpr c7
                have c7b1 : ((rd l0 x5_1) != (rd l1 x5_1)) = true := bne_iff_ne.mpr c7
                obtain rfl := Option.some.inj H
                have p124 : 0 ≤ (x5_1 : Int) := of_decide_eq_true (by first | (with_reducible assumption) | assumption)
                have q124 : x5_1 < (l0.length : Int) := of_decide_eq_true (by first | (with_reducible assumption) | assumption)
                obtain ⟨ad124, e124, hx124_0⟩ := Kd.at_int HR0.out x5_1 p124 q124
                cases e124
                replace p124 := eq_true p124
                replace q124 := eq_true q124
                have p125 : 0 ≤ (x5_1 : Int) := of_decide_eq_true (by first | (with_reducible assumption) | assumption)
                have q125 : x5_1 < (l1.length : Int) := of_decide_eq_true (by first | (with_reducible assumption) | assumption)
                obtain ⟨ad125, e125, hx125_0⟩ := Kd.at_int HR1.out x5_1 p125 q125
                cases e125
                replace p125 := eq_true p125
                replace q125 := eq_true q125
                go_wp2
                repeat (go_quiet (fail); try go_wp2)
                go_ret
                exact ⟨by first | rfl | (simp; done) | (simp [*]; done), by repeat (first | exact Drawn0.refl _ | apply Drawn0.step)⟩
            · rw [if_neg c6] at H
              exact absurd H (by simp)
          · rw [if_neg c5] at H
            exact absurd H (by simp)
        · rw [if_neg c4] at H
          have c4b0 : decide (x5_1 < (l0.length : Int)) = false := decide_eq_false c4
          clear c4
          obtain rfl := Option.some.inj H
          go_wp2
          repeat (go_quiet (fail); try go_wp2)
          go_ret
          exact ⟨by first | rfl | (simp; done) | (simp [*]; done), by repeat (first | exact Drawn0.refl _ | apply Drawn0.step)⟩
  · rw [if_neg c3] at H
    have c3b0 : ((l0.length : Int) == (l1.length : Int)) = false := beq_eq_false_iff_ne.mpr c3
    have c3b1 : ((l0.length : Int) != (l1.length : Int)) = true := bne_iff_ne.mpr c3
    have c3b2 : (l0.length == l1.length) = false := by first | simpa using c3 | (simp at c3 ⊢; omega)
    obtain rfl := Option.some.inj H
    go_enter Try.func23, Try.ntmps23
    go_wp2
    repeat (go_quiet (fail); try go_wp2)
    go_ret
    exact ⟨by first | rfl | (simp; done) | (simp [*]; done), by repeat (first | exact Drawn0.refl _ | apply Drawn0.step)⟩

end Go.Proofs.Ytafmgmaelnpehaa.PFurrowAsks
end

section
set_option linter.unusedVariables false
set_option linter.unusedSimpArgs false
namespace Go.Proofs.Ytafmgmaelnpehaa
open Go.RowKit Go.TL Go.Shelf Go.Fu
open PFurrowAsks Go.Proofs.YtafmgmaelnpehaaW.PrintWords
def Fur.va (F : Fur) : Bool := valid F.l0 F.l1 F.l2
theorem Fur.isv (F : Fur) : F.Is F.va := rfl
theorem valid_lens {l0 l1 l2 : List S28} (h : valid l0 l1 l2 = true) : l0.length ≤ 8 ∧ l1.length = l0.length ∧ l2.length = l0.length ∧ ∀ j, j < l0.length → stOk (rd_T28 l0 j) (rd_T28 l1 j) (rd_T28 l2 j) = true := by
  unfold valid at h
  simp only [Bool.and_eq_true, decide_eq_true_eq] at h
  exact ⟨h.1.1.1, h.1.1.2, h.1.2, fun j hj => (stsOk_all _ _ _ _ _).1 h.2 j (by omega) (by omega)⟩
/-- A span of a valid furrow's offsets. -/
def ok12 (s : Int × Int) : Prop := -12 ≤ s.1 ∧ s.1 ≤ s.2 ∧ s.2 ≤ 12 ∧ s.2 - s.1 ≤ 6
theorem Fur.ok12 {F : Fur} (h : F.va = true) : ∀ x ∈ F.pl, ok12 x := by
  intro x hx
  obtain ⟨y, hy, rfl⟩ := List.mem_map.1 hx
  obtain ⟨k, hk, rfl⟩ := List.getElem_of_mem hy
  obtain ⟨h1, h2⟩ := valid_bd h k hk
  exact ⟨h1.1, h1.2.1, h1.2.2, h2⟩
theorem ok12.ok {s : Int × Int} (h : Go.Proofs.Ytafmgmaelnpehaa.ok12 s) : okSpan s := by
  obtain ⟨h1, h2, h3, h4⟩ := h
  exact ⟨by omega, h2, by omega⟩
theorem Fur.okS {F : Fur} (h : F.va = true) : ∀ x ∈ F.pl, okSpan x := fun x hx => (Fur.ok12 h x hx).ok
theorem Fur.le8 {F : Fur} (h : F.va = true) : F.l0.length ≤ 8 := (valid_lens h).1
theorem Fur.soilOk {F : Fur} (h : F.va = true) : SoilOk F := by
  obtain ⟨h1, h2, h3, h4⟩ := valid_lens h
  refine ⟨by omega, by omega, fun k hk => ?_⟩
  have := h4 k (by omega)
  unfold stOk at this
  simp only [Bool.and_eq_true, decide_eq_true_eq] at this
  obtain ⟨⟨_, a1, a2, a3⟩, b1, b2, b3⟩ := this
  have e1 : F.wd k = ((rd_T28 F.l1 k).f0, (rd_T28 F.l1 k).f1) := by simp [Fur.wd, rd_T28, toP, z28, z28']
  have e2 : F.d k = ((rd_T28 F.l2 k).f0, (rd_T28 F.l2 k).f1) := by simp [Fur.d, rd_T28, toP, z28, z28']
  unfold Fur.soil
  rw [e1, e2]
  simp only
  generalize (rd_T28 F.l1 k).f0 = p at *
  generalize (rd_T28 F.l1 k).f1 = q at *
  generalize (rd_T28 F.l2 k).f0 = r at *
  generalize (rd_T28 F.l2 k).f1 = s at *
  have g : ∀ a b : Int, 0 ≤ a → a ≤ 40 → 0 ≤ b → b ≤ 60 → 0 ≤ a * b ∧ a * b ≤ 2400 := fun a b h1 h2 h3 h4 =>
    ⟨Int.mul_nonneg h1 h3, by have := Int.mul_le_mul h2 h4 h3 (by omega : (0 : Int) ≤ 40); omega⟩
  have := g r p b1 (by omega) (by omega) (by omega)
  have := g s q (by omega) b3 (by omega) a3
  omega
theorem Bend_c (F : Fur) (w : World) (h : F.At w) :
    Calls Try.prog 15 #[F.val] w fun e w' => e = .returned (.tuple #[.agg #[.int .i64 (bendV F.va F.pl).1.1, .int .i64 (bendV F.va F.pl).1.2], .int .i64 (bendV F.va F.pl).2]) ∧ Below w.heap.size w w' :=
  Bend_any F F.va w h F.isv fun hv => ⟨Fur.le8 hv, Fur.okS hv⟩
theorem At_c (F : Fur) (s : Int) (w : World) (h : F.At w) (hl : F.l0.length ≤ 40) :
    Calls Try.prog 17 #[F.val, .int .i64 s] w fun e w' => e = .returned (.tuple #[.agg #[.int .i64 (atV F.va F.pl s).1.1, .int .i64 (atV F.va F.pl s).1.2], .int .i64 (atV F.va F.pl s).2]) ∧ Below w.heap.size w w' :=
  At_any F F.va s w h F.isv hl fun hv => ⟨Fur.le8 hv, Fur.okS hv⟩
abbrev RowI (w : World) (A : Option Addr) (l : List Int) : Prop := Kd.C (Kd.int .i64) w A l.length l
theorem RowI.below {w w' : World} {A : Option Addr} {l : List Int} (h : RowI w A l) (hb : Below w.heap.size w w') : RowI w' A l := Kd.C_below h hb
theorem own_rowI {w : World} {base : Nat} {v : Value} {l : List Int} (h : w.ownsRow base 3 1 v l.length (l.map (Value.int .i64))) : ∃ A c, v = .slice A l.length c ∧ l.length ≤ c ∧ RowI w A l := by
  obtain ⟨A, c, e, hl, hr⟩ := own_reads_of_le (enc := Value.int .i64) (d := (0 : Int)) (show w.ownsRow base 3 1 v l.length (encs (Value.int .i64) l) from h)
  exact ⟨A, c, e, hl, Kd.C_of_reads (h1 := fun _ => rfl) hr⟩
theorem Straightest_c (F : Fur) (w : World) (h : F.At w) :
    Calls Try.prog 19 #[F.val] w fun e w' => (∃ A c, e = .returned (.tuple #[.slice A (strV F.va F.pl).1.length c, .int .i64 (strV F.va F.pl).2]) ∧ (strV F.va F.pl).1.length ≤ c ∧ RowI w' A (strV F.va F.pl).1) ∧ Below w.heap.size w w' :=
  (Straightest_any F F.va w h F.isv fun hv => ⟨Fur.le8 hv, Fur.okS hv⟩).mono fun e w' ⟨⟨A, c, he, ho⟩, hb⟩ => by
    obtain ⟨A', c', e1, hl, hr⟩ := own_rowI ho
    cases e1
    exact ⟨⟨A, c, he, hl, hr⟩, hb⟩
theorem Worst_c (F : Fur) (w : World) (h : F.At w) :
    Calls Try.prog 21 #[F.val] w fun e w' => e = .returned (.tuple #[.int .i64 (worstV F.va F.pl).1, .int .i64 (worstV F.va F.pl).2.1, .int .i64 (worstV F.va F.pl).2.2]) ∧ Below w.heap.size w w' :=
  Worst_any F F.va w h F.isv fun hv => ⟨Fur.le8 hv, Fur.okS hv⟩
open Classical in
noncomputable def wrongN (l : List (Int × Int)) (most : Int) : Nat := if h : ∃ r, IsWrong l most r then Classical.choose h else 0
theorem wrongN_eq {l : List (Int × Int)} {most : Int} {r : Nat} (h : IsWrong l most r) : wrongN l most = r := by
  unfold wrongN
  rw [dif_pos ⟨r, h⟩]
  exact (Classical.choose_spec (⟨r, h⟩ : ∃ r, IsWrong l most r)).eq h
noncomputable def wrongV (b : Bool) (most : Int) (l : List (Int × Int)) : Int × Int := if b then if 0 ≤ most then ((wrongN l most : Int), 0) else (0, 2) else (0, 1)
theorem Wrong_c (F : Fur) (most : Int) (w : World) (h : F.At w) :
    Calls Try.prog 24 #[F.val, .int .i64 most] w fun e w' => (e = .returned (.tuple #[.int .i64 (wrongV F.va most F.pl).1, .int .i64 (wrongV F.va most F.pl).2]) ∧ (F.va = true → 0 ≤ most → IsWrong F.pl most (wrongN F.pl most))) ∧ Below w.heap.size w w' :=
  (Wrong_any F F.va most w h F.isv fun hv => ⟨Fur.le8 hv, Fur.okS hv⟩).mono fun e w' ⟨⟨r, he, hr⟩, hb⟩ => by
    refine ⟨?_, hb⟩
    unfold WrongV at hr
    unfold wrongV
    split at hr
    · rename_i hv
      rw [if_pos hv]
      split at hr
      · rename_i hm
        rw [if_pos hm]
        obtain ⟨n, rfl, hn⟩ := hr
        have h1 := wrong_is (by rw [F.pl_len]; exact Fur.le8 hv) hm (Fur.okS hv) hn
        rw [wrongN_eq h1]
        exact ⟨he, fun _ _ => h1⟩
      · rename_i hm
        rw [if_neg hm]
        subst hr
        exact ⟨he, fun _ h0 => absurd h0 hm⟩
    · rename_i hv
      rw [if_neg hv]
      subst hr
      exact ⟨he, fun h0 => absurd h0 hv⟩
def shV (b : Bool) (least : Int) (F : Fur) : Int × Int × Int := if b then if 0 ≤ least then (shM (fun k => decide ((F.d k).2 < least)) F.l2.length, shM (fun k => decide ((F.d k).1 < least)) F.l2.length, 0) else (0, 0, 2) else (0, 0, 1)
theorem Shallow_c (F : Fur) (least : Int) (w : World) (h : F.At w) :
    Calls Try.prog 26 #[F.val, .int .i64 least] w fun e w' => e = .returned (.tuple #[.int .i64 (shV F.va least F).1, .int .i64 (shV F.va least F).2.1, .int .i64 (shV F.va least F).2.2]) ∧ Below w.heap.size w w' :=
  (Shallow_any F F.va least w h F.isv fun hv => ⟨Fur.le8 hv, (Fur.soilOk hv).1⟩).mono fun e w' ⟨⟨r, he, hr⟩, hb⟩ => by
    refine ⟨?_, hb⟩
    have : r = shV F.va least F := by
      unfold ShV at hr
      unfold shV
      by_cases h1 : F.va = true
      · rw [if_pos h1] at hr ⊢
        by_cases h2 : 0 ≤ least
        · rw [if_pos h2] at hr ⊢; exact hr
        · rw [if_neg h2] at hr ⊢; exact hr
      · rw [if_neg h1] at hr ⊢; exact hr
    rw [← this]; exact he
theorem Soil_c (F : Fur) (w : World) (h : F.At w) :
    Calls Try.prog 28 #[F.val] w fun e w' => e = .returned (.tuple #[.agg #[.int .i64 (soilV F.va F).1.1, .int .i64 (soilV F.va F).1.2], .int .i64 (soilV F.va F).2]) ∧ Below w.heap.size w w' :=
  Soil_any F F.va w h F.isv fun hv => ⟨Fur.le8 hv, Fur.soilOk hv⟩
theorem span_c (a b : Int) (w : World) : Calls Try.prog 31 #[.int .i64 a, .int .i64 b] w fun e w' => e = .returned (.agg #[.int .i64 a, .int .i64 b]) ∧ Below w.heap.size w w' := furrowworkslaw04_span.calls a b a b w rfl
/-- A furrow that a call hands back, as three rows of its own. -/
theorem fur_of_rows {ok0 ok1 ok2 : Nat → Prop} {base : Nat} {v0 v1 v2 : Value} {r0 r1 r2 : List S28} {w : World} (h0 : Kd.R k28 28 w base ok0 v0 r0) (h1 : Kd.R k28 28 w base ok1 v1 r1) (h2 : Kd.R k28 28 w base ok2 v2 r2) :
    ∃ F : Fur, F.At w ∧ .agg #[v0, v1, v2] = F.val ∧ F.l0 = r0 ∧ F.l1 = r1 ∧ F.l2 = r2 := by
  obtain ⟨A0, c0, rfl, hl0, hr0⟩ := Kd.R_reads h0
  obtain ⟨A1, c1, rfl, hl1, hr1⟩ := Kd.R_reads h1
  obtain ⟨A2, c2, rfl, hl2, hr2⟩ := Kd.R_reads h2
  exact ⟨⟨A0, c0, r0, A1, c1, r1, A2, c2, r2⟩, ⟨hr0, hl0, hr1, hl1, hr2, hl2⟩, rfl, rfl, rfl, rfl⟩
theorem sample_c (w : World) : Calls Try.prog 30 #[] w fun e w' => (∃ F : Fur, F.At w' ∧ e = .returned F.val ∧ F.l0 = smp0 ∧ F.l1 = smp1 ∧ F.l2 = smp2) ∧ Below w.heap.size w w' :=
  (furrowworkslaw04_sample.calls 10 smp0 smp1 smp2 w sample_is).mono fun e w' ⟨v0, v1, v2, he, h0, h1, h2, hb⟩ => by
    obtain ⟨F, hF, hv, e0, e1, e2⟩ := fur_of_rows h0 h1 h2
    exact ⟨⟨F, hF, he.trans (congrArg _ hv), e0, e1, e2⟩, hb⟩
theorem smp_va {F : Fur} (h0 : F.l0 = smp0) (h1 : F.l1 = smp1) (h2 : F.l2 = smp2) : F.va = true := by unfold Fur.va; rw [h0, h1, h2]; exact smp_valid
theorem smp_pl {F : Fur} (h0 : F.l0 = smp0) : F.pl = pF := by unfold Fur.pl; rw [h0]; rfl
theorem smp_sh (F : Fur) (h1 : F.l1 = smp1) (h2 : F.l2 = smp2) : shV true 15 F = (8, 10, 0) ∧ shV true 0 F = (0, 0, 0) ∧ soilV true F = ((2160, 2400), 0) := by
  obtain ⟨A0, c0, l0, A1, c1, l1, A2, c2, l2⟩ := F
  simp only at h1 h2
  subst h1 h2
  refine ⟨?_, ?_, ?_⟩
  · kernel_rfl
  · kernel_rfl
  · kernel_rfl
end Go.Proofs.Ytafmgmaelnpehaa
end

section
set_option linter.unusedVariables false
set_option linter.unusedSimpArgs false
namespace Go.Proofs.Ytafmgmaelnpehaa
open Go.RowKit Go.TL Go.Shelf Go.Fu
attribute [local go_sem] Oper.semAt_some
noncomputable def rg14_8 : List It := itemsOf (regOps (sub (Try.f14.body.getD .skip) [1, 1, 1, 1, 1, 1, 1, 1, 0])) [(0, true), (1, false), (2, false), (3, false), (4, false), (5, false), (6, false), (7, false), (8, true), (9, false), (10, false), (11, false), (12, false), (13, false), (14, false), (15, false), (16, false), (17, true), (18, false), (19, false), (20, false), (21, false), (22, false), (23, false), (24, false), (25, false), (26, false), (27, false), (28, false), (29, false), (30, false), (31, false), (32, false), (33, false), (34, false), (35, false), (36, false), (37, false), (38, false), (39, false), (40, false), (41, false), (42, false), (43, false), (44, false), (45, false), (46, false), (47, false), (48, false), (49, false), (50, false), (51, false), (52, false), (53, false), (54, false), (55, false), (56, false), (57, false), (58, true), (59, false), (60, false), (61, false), (62, false), (63, false), (64, false), (65, false), (66, false)]

open PFurrowAsks Go.Proofs.YtafmgmaelnpehaaW.PrintWords
theorem box2_below {W W' : World} {B : Nat} {t : TypeId} {a b : Int} (h : Below W.heap.size W W') (hb : Box2 W B t a b) : Box2 W' B t a b := (h.block _ hb.lt).trans hb
theorem row_new (W : World) (l : List Int) (hl : l.length ≤ 1000) : RowI (W.alloc (.cells (l.map (Value.int .i64)).toArray 3)) (some ⟨W.heap.size, 0, none⟩) l := by
  refine Kd.C_of_reads (d := (0 : Int)) (h1 := fun _ => rfl) ⟨rfl, by omega, fun hp => ⟨_, rfl, fun j hj => ?_⟩⟩
  have h0 : (W.alloc (.cells (l.map (Value.int .i64)).toArray 3)).heap[W.heap.size]? = some (.cells (l.map (Value.int .i64)).toArray 3) := World.alloc_heap_new W _
  have h1 : ((⟨W.heap.size, 0, none⟩ : Addr).add j) = ⟨W.heap.size, j, none⟩ := by
    unfold Addr.add
    split
    · rename_i h; rw [h]
    · simp
  rw [h1]
  unfold World.cell?
  simp only [h0]
  simp [List.getD_eq_getElem?_getD, hj]
theorem ints_F : furrowworksref04_Ints.f 10 [1, 2, 0, 1, 5] [1, 2, 0, 1, 5] = some true := by kernel_rfl
set_option maxRecDepth 100000 in
set_option maxHeartbeats 1000000 in
theorem alive_any (w : World) : Calls Try.prog 14 #[] w fun e w' => e = .returned (.bool true) ∧ Below w.heap.size w w' := by
  refine calls_of_exec Try.func14 rfl ?_
  simp only [Try.ntmps14, List.size_toArray, List.length_cons, List.length_nil, Nat.reduceAdd, Nat.reduceSub, Array.replicate_succ, Array.replicate_zero, List.push_toArray, List.append_toArray, List.nil_append, List.cons_append]
  refine exec_seq (exec_region_o fun ds => ?_)
  gi_wp2
  refine eq_mk (Keep.refl _) ?_
  show Exec _ _ _ _ _ _
  have hB0 := Below.refl w.heap.size w
  refine exec_seq (exec_region_o fun ds => ?_)
  gi_wp2_with fail
  refine ⟨trivial, rfl, (callsIn_wide.2 (sample_c w)).mono ?_⟩
  rintro e X ⟨⟨F, hF, rfl, e0, e1, e2⟩, hx⟩
  gi_wp2_with fail
  have hv := smp_va e0 e1 e2
  have hp := smp_pl e0
  have hl : F.l0.length ≤ 40 := by rw [e0]; decide
  have hc := Bend_c F X hF
  rw [hv, hp, bend_F] at hc
  refine ⟨trivial, rfl, (callsIn_wide.2 hc).mono ?_⟩
  rintro e Y ⟨rfl, hy⟩
  have hxy := hx.trans (hy.mono hx.size)
  have hB1 := hB0.trans (hxy.mono hB0.size)
  clear hx hy hv hp hl hc hF e0 e1 e2
  have hK := Keep.of_below hxy
  clear hxy
  simp only
  generalize F.val = fv at *
  clear F X
  gi_wp2
  refine eq_mk (hK.alloc _) ?_
  show Exec _ _ _ _ _ _
  have gr := Grow.alloc Y.heap.size Y (.cells #[.int .i64 3, .int .i64 6] 28)
  replace hB1 := hB1.alloc hB1.size (.cells #[.int .i64 3, .int .i64 6] 28)
  have q1 := Box2.new Y 28 3 6
  generalize Y.alloc (.cells #[.int .i64 3, .int .i64 6] 28) = W1 at *
  clear gr hK hB0
  generalize Y.heap.size = b1 at *
  clear Y 
  refine exec_seq (exec_region_o fun ds => ?_)
  gi_wp2_with fail
  refine ⟨trivial, rfl, (callsIn_wide.2 (sample_c W1)).mono ?_⟩
  rintro e X ⟨⟨F, hF, rfl, e0, e1, e2⟩, hx⟩
  gi_wp2_with fail
  have hv := smp_va e0 e1 e2
  have hp := smp_pl e0
  have hl : F.l0.length ≤ 40 := by rw [e0]; decide
  have hc := At_c F 2 X hF hl
  rw [hv, hp, show atV true pF 2 = ((3, 4), 0) from by unfold atV; rw [if_pos rfl, if_pos (by decide)]; exact congrArg (·, (0 : Int)) at_F2] at hc
  refine ⟨trivial, rfl, (callsIn_wide.2 hc).mono ?_⟩
  rintro e Y ⟨rfl, hy⟩
  have hxy := hx.trans (hy.mono hx.size)
  have hB2 := hB1.trans (hxy.mono hB1.size)
  replace q1 := box2_below hxy q1
  clear hx hy hv hp hl hc hF e0 e1 e2
  have hK := Keep.of_below hxy
  clear hxy
  simp only
  generalize F.val = fv at *
  clear F X
  gi_wp2
  refine eq_mk (hK.alloc _) ?_
  show Exec _ _ _ _ _ _
  have gr := Grow.alloc Y.heap.size Y (.cells #[.int .i64 3, .int .i64 4] 28)
  replace hB2 := hB2.alloc hB2.size (.cells #[.int .i64 3, .int .i64 4] 28)
  replace q1 := gr.box2 q1
  have q3 := Box2.new Y 28 3 4
  generalize Y.alloc (.cells #[.int .i64 3, .int .i64 4] 28) = W2 at *
  clear gr hK hB1
  generalize Y.heap.size = b3 at *
  clear Y 
  clear W1
  refine exec_seq (exec_region_o fun ds => ?_)
  gi_wp2_with fail
  refine ⟨trivial, rfl, (callsIn_wide.2 (sample_c W2)).mono ?_⟩
  rintro e X ⟨⟨F, hF, rfl, e0, e1, e2⟩, hx⟩
  gi_wp2_with fail
  have hv := smp_va e0 e1 e2
  have hp := smp_pl e0
  have hl : F.l0.length ≤ 40 := by rw [e0]; decide
  have hc := Straightest_c F X hF
  rw [hv, hp, str_F] at hc
  refine ⟨trivial, rfl, (callsIn_wide.2 hc).mono ?_⟩
  rintro e Y ⟨⟨A5, c5, rfl, hc5, r5⟩, hy⟩
  have hxy := hx.trans (hy.mono hx.size)
  have hB3 := hB2.trans (hxy.mono hB2.size)
  replace q1 := box2_below hxy q1
  replace q3 := box2_below hxy q3
  clear hx hy hv hp hl hc hF e0 e1 e2
  have hK := Keep.of_below hxy
  clear hxy
  simp only
  generalize F.val = fv at *
  clear F X
  gi_wp2
  refine eq_mk hK ?_
  show Exec _ _ _ _ _ _
  clear hK hB2
  obtain ⟨W3, rfl⟩ : ∃ Z, Z = Y := ⟨_, rfl⟩
  clear W2
  refine exec_seq (exec_region_o fun ds => ?_)
  gi_wp2_with fail
  refine ⟨trivial, rfl, (callsIn_wide.2 (sample_c W3)).mono ?_⟩
  rintro e X ⟨⟨F, hF, rfl, e0, e1, e2⟩, hx⟩
  gi_wp2_with fail
  have hv := smp_va e0 e1 e2
  have hp := smp_pl e0
  have hl : F.l0.length ≤ 40 := by rw [e0]; decide
  have hc := Worst_c F X hF
  rw [hv, hp, worst_F] at hc
  refine ⟨trivial, rfl, (callsIn_wide.2 hc).mono ?_⟩
  rintro e Y ⟨rfl, hy⟩
  have hxy := hx.trans (hy.mono hx.size)
  have hB4 := hB3.trans (hxy.mono hB3.size)
  replace q1 := box2_below hxy q1
  replace q3 := box2_below hxy q3
  replace r5 := r5.below hxy
  clear hx hy hv hp hl hc hF e0 e1 e2
  have hK := Keep.of_below hxy
  clear hxy
  simp only
  generalize F.val = fv at *
  clear F X
  gi_wp2
  refine eq_mk hK ?_
  show Exec _ _ _ _ _ _
  clear hK hB3
  obtain ⟨W4, rfl⟩ : ∃ Z, Z = Y := ⟨_, rfl⟩
  clear W3
  refine exec_seq (exec_region_o fun ds => ?_)
  gi_wp2_with fail
  refine ⟨trivial, rfl, (callsIn_wide.2 (sample_c W4)).mono ?_⟩
  rintro e X ⟨⟨F, hF, rfl, e0, e1, e2⟩, hx⟩
  gi_wp2_with fail
  have hv := smp_va e0 e1 e2
  have hp := smp_pl e0
  have hl : F.l0.length ≤ 40 := by rw [e0]; decide
  have hc := Wrong_c F 2 X hF
  rw [hv, hp] at hc
  refine ⟨trivial, rfl, (callsIn_wide.2 hc).mono ?_⟩
  rintro e Y ⟨⟨rfl, _⟩, hy⟩
  have hwr : wrongV true 2 pF = (6, 0) := by unfold wrongV; rw [if_pos rfl, if_pos (by decide), wrongN_eq wrong_F2]; rfl
  rw [hwr]
  have hxy := hx.trans (hy.mono hx.size)
  have hB5 := hB4.trans (hxy.mono hB4.size)
  replace q1 := box2_below hxy q1
  replace q3 := box2_below hxy q3
  replace r5 := r5.below hxy
  clear hx hy hv hp hl hc hF e0 e1 e2
  have hK := Keep.of_below hxy
  clear hxy
  simp only
  generalize F.val = fv at *
  clear F X
  gi_wp2
  refine eq_mk hK ?_
  show Exec _ _ _ _ _ _
  clear hK hB4
  obtain ⟨W5, rfl⟩ : ∃ Z, Z = Y := ⟨_, rfl⟩
  clear W4
  refine exec_seq (exec_region_o fun ds => ?_)
  gi_wp2_with fail
  refine ⟨trivial, rfl, (callsIn_wide.2 (sample_c W5)).mono ?_⟩
  rintro e X ⟨⟨F, hF, rfl, e0, e1, e2⟩, hx⟩
  gi_wp2_with fail
  have hv := smp_va e0 e1 e2
  have hp := smp_pl e0
  have hl : F.l0.length ≤ 40 := by rw [e0]; decide
  have hc := Shallow_c F 15 X hF
  rw [hv, (smp_sh F e1 e2).1] at hc
  refine ⟨trivial, rfl, (callsIn_wide.2 hc).mono ?_⟩
  rintro e Y ⟨rfl, hy⟩
  have hxy := hx.trans (hy.mono hx.size)
  have hB6 := hB5.trans (hxy.mono hB5.size)
  replace q1 := box2_below hxy q1
  replace q3 := box2_below hxy q3
  replace r5 := r5.below hxy
  clear hx hy hv hp hl hc hF e0 e1 e2
  have hK := Keep.of_below hxy
  clear hxy
  simp only
  generalize F.val = fv at *
  clear F X
  gi_wp2
  refine eq_mk hK ?_
  show Exec _ _ _ _ _ _
  clear hK hB5
  obtain ⟨W6, rfl⟩ : ∃ Z, Z = Y := ⟨_, rfl⟩
  clear W5
  refine exec_seq (exec_region_o fun ds => ?_)
  gi_wp2_with fail
  refine ⟨trivial, rfl, (callsIn_wide.2 (sample_c W6)).mono ?_⟩
  rintro e X ⟨⟨F, hF, rfl, e0, e1, e2⟩, hx⟩
  gi_wp2_with fail
  have hv := smp_va e0 e1 e2
  have hp := smp_pl e0
  have hl : F.l0.length ≤ 40 := by rw [e0]; decide
  have hc := Soil_c F X hF
  rw [hv, (smp_sh F e1 e2).2.2] at hc
  refine ⟨trivial, rfl, (callsIn_wide.2 hc).mono ?_⟩
  rintro e Y ⟨rfl, hy⟩
  have hxy := hx.trans (hy.mono hx.size)
  have hB7 := hB6.trans (hxy.mono hB6.size)
  replace q1 := box2_below hxy q1
  replace q3 := box2_below hxy q3
  replace r5 := r5.below hxy
  clear hx hy hv hp hl hc hF e0 e1 e2
  have hK := Keep.of_below hxy
  clear hxy
  simp only
  generalize F.val = fv at *
  clear F X
  gi_wp2
  refine eq_mk (hK.alloc _) ?_
  show Exec _ _ _ _ _ _
  have gr := Grow.alloc Y.heap.size Y (.cells #[.int .i64 2160, .int .i64 2400] 28)
  replace hB7 := hB7.alloc hB7.size (.cells #[.int .i64 2160, .int .i64 2400] 28)
  replace q1 := gr.box2 q1
  replace q3 := gr.box2 q3
  replace r5 := r5.below ((Below.refl _ Y).alloc (Nat.le_refl _) (.cells #[.int .i64 2160, .int .i64 2400] 28))
  have q15 := Box2.new Y 28 2160 2400
  generalize Y.alloc (.cells #[.int .i64 2160, .int .i64 2400] 28) = W7 at *
  clear gr hK hB6
  generalize Y.heap.size = b15 at *
  clear Y 
  clear W6
  refine exec_seq (region_sched (c := sub (Try.f14.body.getD .skip) [1, 1, 1, 1, 1, 1, 1, 1, 0]) (id := 8) [(0, true), (1, false), (2, false), (3, false), (4, false), (5, false), (6, false), (7, false), (8, true), (9, false), (10, false), (11, false), (12, false), (13, false), (14, false), (15, false), (16, false), (17, true), (18, false), (19, false), (20, false), (21, false), (22, false), (23, false), (24, false), (25, false), (26, false), (27, false), (28, false), (29, false), (30, false), (31, false), (32, false), (33, false), (34, false), (35, false), (36, false), (37, false), (38, false), (39, false), (40, false), (41, false), (42, false), (43, false), (44, false), (45, false), (46, false), (47, false), (48, false), (49, false), (50, false), (51, false), (52, false), (53, false), (54, false), (55, false), (56, false), (57, false), (58, true), (59, false), (60, false), (61, false), (62, false), (63, false), (64, false), (65, false), (66, false)] rg14_8 rfl (by kernel_rfl) (by kernel_rfl) (by kernel_rfl) (by kernel_rfl) (by kernel_rfl) [0, 0, 3, 6, 8, 24, 40, 72, 128, 128, 896, 1152, 2560, 4096, 12288, 20480, 36864, 65536, 65536, 458752, 589824, 1572864, 2097152, 6291456, 10485760, 18874368, 33554432, 100663296, 167772160, 301989888, 536870912, 1610612736, 2684354560, 4831838208, 8589934592, 25769803776, 42949672960, 77309411328, 137438953472, 412316860416, 687194767360, 1236950581248, 2199023255552, 6597069766656, 10995116277760, 19791209299968, 35184372088832, 105553116266496, 175921860444160, 316659348799488, 562949953421312, 1688849860263936, 2814749767106560, 5066549580791808, 9007199254740992, 27021597764222976, 45035996273704960, 81064793292668928, 144115188075855872, 144115188075855872, 1008806316530991104, 1297036692682702848, 2882303761517117440, 4611686018427387904, 13835058055282163712, 23058430092136939520, 73786976294838206463] (by kernel_rfl) (by kernel_rfl) (fun W' => Below W7.heap.size W7 W') (fun _ _ _ => False) (fun _ _ _ h => h.elim) (fun _ _ _ _ _ _ h => h.elim) fun ds Q' hQn hQp => ?_)
  have hS : Below W7.heap.size W7 W7.drew := (Below.refl _ W7).drew
  have f1 : ∀ W', Below W7.heap.size W7 W' → W'.cell? ⟨b1, 0, none⟩ = some (.int .i64 3) ∧ W'.cell? ⟨b1, 1, none⟩ = some (.int .i64 6) := fun W' h => ⟨(h.cell q1.lt).trans q1.cell0, (h.cell q1.lt).trans q1.cell1⟩
  have f3 : ∀ W', Below W7.heap.size W7 W' → W'.cell? ⟨b3, 0, none⟩ = some (.int .i64 3) ∧ W'.cell? ⟨b3, 1, none⟩ = some (.int .i64 4) := fun W' h => ⟨(h.cell q3.lt).trans q3.cell0, (h.cell q3.lt).trans q3.cell1⟩
  have f15 : ∀ W', Below W7.heap.size W7 W' → W'.cell? ⟨b15, 0, none⟩ = some (.int .i64 2160) ∧ W'.cell? ⟨b15, 1, none⟩ = some (.int .i64 2400) := fun W' h => ⟨(h.cell q15.lt).trans q15.cell0, (h.cell q15.lt).trans q15.cell1⟩
  refine sq_take 0 ⟨(Op.load 28 (Operand.tmp 1)), some 54, 28, true, none⟩ (.agg #[.int .i64 3, .int .i64 6]) (by kernel_rfl) rfl (by first | exact rfl | trivial) (fun wq hq => ?_) hS ?_; (focus (simp [go_sem, mkO, (f1 wq hq).1, (f1 wq hq).2]; done)); simp only [Act.put, Array.getInternal_eq_getElem, List.getElem_toArray, List.getElem_cons_succ, List.getElem_cons_zero, List.setIfInBounds_toArray, List.set_cons_succ, List.set_cons_zero]
  refine sq_call 1 ⟨(Op.call { callee := (Callee.value (Operand.func 31)), args := #[(Operand.const (Value.int IntKind.i64 3)), (Operand.const (Value.int IntKind.i64 6))], argTypes := #[3, 3] }), some 55, 28, false, none⟩ (f := 31) (args := #[.int .i64 3, .int .i64 6]) (by kernel_rfl) rfl (by first | exact rfl | trivial) (by simp [go_sem, mkO]) ?_
  refine (span_c 3 6 _).mono ?_
  rintro e Z1 ⟨rfl, hz⟩
  replace hS := hS.trans (hz.mono hS.size)
  refine .inl ⟨_, rfl, hS, ?_⟩
  simp only [Act.put, Array.getInternal_eq_getElem, List.getElem_toArray, List.getElem_cons_succ, List.getElem_cons_zero, List.setIfInBounds_toArray, List.set_cons_succ, List.set_cons_zero]
  clear hz
  refine sq_make 2 ⟨(Op.binOp BinOp.eql 28 (Operand.tmp 54) (Operand.tmp 55) 28), some 56, 4, false, none⟩ (.bool true) _ (by kernel_rfl) rfl (by first | exact rfl | trivial) ?_ hS ?_; (focus (simp [go_sem, mkO]; done)); simp only [Act.put, Array.getInternal_eq_getElem, List.getElem_toArray, List.getElem_cons_succ, List.getElem_cons_zero, List.setIfInBounds_toArray, List.set_cons_succ, List.set_cons_zero]
  refine sq_make 3 ⟨(Op.move (Operand.tmp 56)), some 57, 4, false, none⟩ (.bool true) _ (by kernel_rfl) rfl (by first | exact rfl | trivial) ?_ hS ?_; (focus (exact rfl)); simp only [Act.put, Array.getInternal_eq_getElem, List.getElem_toArray, List.getElem_cons_succ, List.getElem_cons_zero, List.setIfInBounds_toArray, List.set_cons_succ, List.set_cons_zero]
  refine sq_make 4 ⟨(Op.move (Operand.tmp 2)), some 58, 29, false, some (57, true)⟩ (.int .i64 0) _ (by kernel_rfl) rfl (by first | exact rfl | trivial) ?_ hS ?_; (focus (exact rfl)); simp only [Act.put, Array.getInternal_eq_getElem, List.getElem_toArray, List.getElem_cons_succ, List.getElem_cons_zero, List.setIfInBounds_toArray, List.set_cons_succ, List.set_cons_zero]
  refine sq_make 5 ⟨(Op.binOp BinOp.eql 29 (Operand.tmp 58) (Operand.const (Value.int IntKind.i64 0)) 29), some 59, 4, false, some (57, true)⟩ (.bool true) _ (by kernel_rfl) rfl (by first | exact rfl | trivial) ?_ hS ?_; (focus (simp [go_sem, mkO]; done)); simp only [Act.put, Array.getInternal_eq_getElem, List.getElem_toArray, List.getElem_cons_succ, List.getElem_cons_zero, List.setIfInBounds_toArray, List.set_cons_succ, List.set_cons_zero]
  refine sq_make 6 ⟨(Op.pick (Operand.tmp 57) (Operand.tmp 59) (Operand.const (Value.bool false))), some 60, 4, false, none⟩ (.bool true) _ (by kernel_rfl) rfl (by first | exact rfl | trivial) ?_ hS ?_; (focus (simp [go_sem, mkO]; done)); simp only [Act.put, Array.getInternal_eq_getElem, List.getElem_toArray, List.getElem_cons_succ, List.getElem_cons_zero, List.setIfInBounds_toArray, List.set_cons_succ, List.set_cons_zero]
  refine sq_make 7 ⟨(Op.move (Operand.tmp 60)), some 61, 4, false, none⟩ (.bool true) _ (by kernel_rfl) rfl (by first | exact rfl | trivial) ?_ hS ?_; (focus (exact rfl)); simp only [Act.put, Array.getInternal_eq_getElem, List.getElem_toArray, List.getElem_cons_succ, List.getElem_cons_zero, List.setIfInBounds_toArray, List.set_cons_succ, List.set_cons_zero]
  refine sq_take 8 ⟨(Op.load 28 (Operand.tmp 3)), some 62, 28, true, some (61, true)⟩ (.agg #[.int .i64 3, .int .i64 4]) (by kernel_rfl) rfl (by first | exact rfl | trivial) (fun wq hq => ?_) hS ?_; (focus (simp [go_sem, mkO, (f3 wq hq).1, (f3 wq hq).2]; done)); simp only [Act.put, Array.getInternal_eq_getElem, List.getElem_toArray, List.getElem_cons_succ, List.getElem_cons_zero, List.setIfInBounds_toArray, List.set_cons_succ, List.set_cons_zero]
  refine sq_call 9 ⟨(Op.call { callee := (Callee.value (Operand.func 31)), args := #[(Operand.const (Value.int IntKind.i64 3)), (Operand.const (Value.int IntKind.i64 4))], argTypes := #[3, 3] }), some 63, 28, false, some (61, true)⟩ (f := 31) (args := #[.int .i64 3, .int .i64 4]) (by kernel_rfl) rfl (by first | exact rfl | trivial) (by simp [go_sem, mkO]) ?_
  refine (span_c 3 4 _).mono ?_
  rintro e Z2 ⟨rfl, hz⟩
  replace hS := hS.trans (hz.mono hS.size)
  refine .inl ⟨_, rfl, hS, ?_⟩
  simp only [Act.put, Array.getInternal_eq_getElem, List.getElem_toArray, List.getElem_cons_succ, List.getElem_cons_zero, List.setIfInBounds_toArray, List.set_cons_succ, List.set_cons_zero]
  clear hz
  refine sq_make 10 ⟨(Op.binOp BinOp.eql 28 (Operand.tmp 62) (Operand.tmp 63) 28), some 64, 4, false, some (61, true)⟩ (.bool true) _ (by kernel_rfl) rfl (by first | exact rfl | trivial) ?_ hS ?_; (focus (simp [go_sem, mkO]; done)); simp only [Act.put, Array.getInternal_eq_getElem, List.getElem_toArray, List.getElem_cons_succ, List.getElem_cons_zero, List.setIfInBounds_toArray, List.set_cons_succ, List.set_cons_zero]
  refine sq_make 11 ⟨(Op.pick (Operand.tmp 61) (Operand.tmp 64) (Operand.const (Value.bool false))), some 65, 4, false, none⟩ (.bool true) _ (by kernel_rfl) rfl (by first | exact rfl | trivial) ?_ hS ?_; (focus (simp [go_sem, mkO]; done)); simp only [Act.put, Array.getInternal_eq_getElem, List.getElem_toArray, List.getElem_cons_succ, List.getElem_cons_zero, List.setIfInBounds_toArray, List.set_cons_succ, List.set_cons_zero]
  refine sq_make 12 ⟨(Op.move (Operand.tmp 65)), some 66, 4, false, none⟩ (.bool true) _ (by kernel_rfl) rfl (by first | exact rfl | trivial) ?_ hS ?_; (focus (exact rfl)); simp only [Act.put, Array.getInternal_eq_getElem, List.getElem_toArray, List.getElem_cons_succ, List.getElem_cons_zero, List.setIfInBounds_toArray, List.set_cons_succ, List.set_cons_zero]
  refine sq_make 13 ⟨(Op.move (Operand.tmp 4)), some 67, 29, false, some (66, true)⟩ (.int .i64 0) _ (by kernel_rfl) rfl (by first | exact rfl | trivial) ?_ hS ?_; (focus (exact rfl)); simp only [Act.put, Array.getInternal_eq_getElem, List.getElem_toArray, List.getElem_cons_succ, List.getElem_cons_zero, List.setIfInBounds_toArray, List.set_cons_succ, List.set_cons_zero]
  refine sq_make 14 ⟨(Op.binOp BinOp.eql 29 (Operand.tmp 67) (Operand.const (Value.int IntKind.i64 0)) 29), some 68, 4, false, some (66, true)⟩ (.bool true) _ (by kernel_rfl) rfl (by first | exact rfl | trivial) ?_ hS ?_; (focus (simp [go_sem, mkO]; done)); simp only [Act.put, Array.getInternal_eq_getElem, List.getElem_toArray, List.getElem_cons_succ, List.getElem_cons_zero, List.setIfInBounds_toArray, List.set_cons_succ, List.set_cons_zero]
  refine sq_make 15 ⟨(Op.pick (Operand.tmp 66) (Operand.tmp 68) (Operand.const (Value.bool false))), some 69, 4, false, none⟩ (.bool true) _ (by kernel_rfl) rfl (by first | exact rfl | trivial) ?_ hS ?_; (focus (simp [go_sem, mkO]; done)); simp only [Act.put, Array.getInternal_eq_getElem, List.getElem_toArray, List.getElem_cons_succ, List.getElem_cons_zero, List.setIfInBounds_toArray, List.set_cons_succ, List.set_cons_zero]
  refine sq_make 16 ⟨(Op.move (Operand.tmp 69)), some 70, 4, false, none⟩ (.bool true) _ (by kernel_rfl) rfl (by first | exact rfl | trivial) ?_ hS ?_; (focus (exact rfl)); simp only [Act.put, Array.getInternal_eq_getElem, List.getElem_toArray, List.getElem_cons_succ, List.getElem_cons_zero, List.setIfInBounds_toArray, List.set_cons_succ, List.set_cons_zero]
  refine sq_take 17 ⟨(Op.move (Operand.tmp 5)), some 71, 33, true, some (70, true)⟩ (.slice A5 5 c5) (by kernel_rfl) rfl (by first | exact rfl | trivial) (fun wq hq => ?_) hS ?_; (focus (exact rfl)); simp only [Act.put, Array.getInternal_eq_getElem, List.getElem_toArray, List.getElem_cons_succ, List.getElem_cons_zero, List.setIfInBounds_toArray, List.set_cons_succ, List.set_cons_zero]
  have hu33 := Try.underlying33
  refine sq_make 18 ⟨(Op.buildSlice 33 5 #[(0, (Operand.const (Value.int IntKind.i64 1))), (1, (Operand.const (Value.int IntKind.i64 2))), (2, (Operand.const (Value.int IntKind.i64 0))), (3, (Operand.const (Value.int IntKind.i64 1))), (4, (Operand.const (Value.int IntKind.i64 5)))]), some 72, 33, false, some (70, true)⟩ (.slice (some ⟨Z2.heap.size, 0, none⟩) 5 5) (Z2.alloc (.cells #[.int .i64 1, .int .i64 2, .int .i64 0, .int .i64 1, .int .i64 5] 3)) (by kernel_rfl) rfl (by first | exact rfl | trivial) (by simp [go_sem, mkO, hu33]) ?_ ?_
  · exact hS.alloc hS.size _
  simp only [Act.put, Array.getInternal_eq_getElem, List.getElem_toArray, List.getElem_cons_succ, List.getElem_cons_zero, List.setIfInBounds_toArray, List.set_cons_succ, List.set_cons_zero]
  have r6 : RowI (Z2.alloc (.cells #[.int .i64 1, .int .i64 2, .int .i64 0, .int .i64 1, .int .i64 5] 3)) (some ⟨Z2.heap.size, 0, none⟩) [1, 2, 0, 1, 5] := row_new Z2 [1, 2, 0, 1, 5] (by decide)
  replace hS := hS.alloc hS.size (.cells #[.int .i64 1, .int .i64 2, .int .i64 0, .int .i64 1, .int .i64 5] 3)
  generalize Z2.alloc (.cells #[.int .i64 1, .int .i64 2, .int .i64 0, .int .i64 1, .int .i64 5] 3) = Z9 at *
  clear hu33
  refine sq_call 19 ⟨(Op.call { callee := (Callee.value (Operand.func 23)), args := #[(Operand.tmp 71), (Operand.tmp 72)], argTypes := #[33, 33] }), some 73, 4, false, some (70, true)⟩ (f := 23) (args := #[.slice A5 5 c5, .slice (some ⟨Z2.heap.size, 0, none⟩) 5 5]) (by kernel_rfl) rfl (by first | exact rfl | trivial) (by simp [go_sem, mkO]) ?_
  refine (furrowworksref04_Ints.calls 10 A5 c5 [1, 2, 0, 1, 5] _ 5 [1, 2, 0, 1, 5] true _ (r5.below hS) hc5 r6 (by decide) ints_F).mono ?_
  rintro e Z3 ⟨rfl, hz0⟩
  have hz := hz0.below
  replace hS := hS.trans (hz.mono hS.size)
  refine .inl ⟨_, rfl, hS, ?_⟩
  simp only [Act.put, Array.getInternal_eq_getElem, List.getElem_toArray, List.getElem_cons_succ, List.getElem_cons_zero, List.setIfInBounds_toArray, List.set_cons_succ, List.set_cons_zero]
  clear hz hz0
  refine sq_make 20 ⟨(Op.pick (Operand.tmp 70) (Operand.tmp 73) (Operand.const (Value.bool false))), some 74, 4, false, none⟩ (.bool true) _ (by kernel_rfl) rfl (by first | exact rfl | trivial) ?_ hS ?_; (focus (simp [go_sem, mkO]; done)); simp only [Act.put, Array.getInternal_eq_getElem, List.getElem_toArray, List.getElem_cons_succ, List.getElem_cons_zero, List.setIfInBounds_toArray, List.set_cons_succ, List.set_cons_zero]
  refine sq_make 21 ⟨(Op.move (Operand.tmp 74)), some 75, 4, false, none⟩ (.bool true) _ (by kernel_rfl) rfl (by first | exact rfl | trivial) ?_ hS ?_; (focus (exact rfl)); simp only [Act.put, Array.getInternal_eq_getElem, List.getElem_toArray, List.getElem_cons_succ, List.getElem_cons_zero, List.setIfInBounds_toArray, List.set_cons_succ, List.set_cons_zero]
  refine sq_make 22 ⟨(Op.move (Operand.tmp 6)), some 76, 29, false, some (75, true)⟩ (.int .i64 0) _ (by kernel_rfl) rfl (by first | exact rfl | trivial) ?_ hS ?_; (focus (exact rfl)); simp only [Act.put, Array.getInternal_eq_getElem, List.getElem_toArray, List.getElem_cons_succ, List.getElem_cons_zero, List.setIfInBounds_toArray, List.set_cons_succ, List.set_cons_zero]
  refine sq_make 23 ⟨(Op.binOp BinOp.eql 29 (Operand.tmp 76) (Operand.const (Value.int IntKind.i64 0)) 29), some 77, 4, false, some (75, true)⟩ (.bool true) _ (by kernel_rfl) rfl (by first | exact rfl | trivial) ?_ hS ?_; (focus (simp [go_sem, mkO]; done)); simp only [Act.put, Array.getInternal_eq_getElem, List.getElem_toArray, List.getElem_cons_succ, List.getElem_cons_zero, List.setIfInBounds_toArray, List.set_cons_succ, List.set_cons_zero]
  refine sq_make 24 ⟨(Op.pick (Operand.tmp 75) (Operand.tmp 77) (Operand.const (Value.bool false))), some 78, 4, false, none⟩ (.bool true) _ (by kernel_rfl) rfl (by first | exact rfl | trivial) ?_ hS ?_; (focus (simp [go_sem, mkO]; done)); simp only [Act.put, Array.getInternal_eq_getElem, List.getElem_toArray, List.getElem_cons_succ, List.getElem_cons_zero, List.setIfInBounds_toArray, List.set_cons_succ, List.set_cons_zero]
  refine sq_make 25 ⟨(Op.move (Operand.tmp 78)), some 79, 4, false, none⟩ (.bool true) _ (by kernel_rfl) rfl (by first | exact rfl | trivial) ?_ hS ?_; (focus (exact rfl)); simp only [Act.put, Array.getInternal_eq_getElem, List.getElem_toArray, List.getElem_cons_succ, List.getElem_cons_zero, List.setIfInBounds_toArray, List.set_cons_succ, List.set_cons_zero]
  refine sq_make 26 ⟨(Op.move (Operand.tmp 7)), some 80, 3, false, some (79, true)⟩ (.int .i64 0) _ (by kernel_rfl) rfl (by first | exact rfl | trivial) ?_ hS ?_; (focus (exact rfl)); simp only [Act.put, Array.getInternal_eq_getElem, List.getElem_toArray, List.getElem_cons_succ, List.getElem_cons_zero, List.setIfInBounds_toArray, List.set_cons_succ, List.set_cons_zero]
  refine sq_make 27 ⟨(Op.binOp BinOp.eql 3 (Operand.tmp 80) (Operand.const (Value.int IntKind.i64 0)) 3), some 81, 4, false, some (79, true)⟩ (.bool true) _ (by kernel_rfl) rfl (by first | exact rfl | trivial) ?_ hS ?_; (focus (simp [go_sem, mkO]; done)); simp only [Act.put, Array.getInternal_eq_getElem, List.getElem_toArray, List.getElem_cons_succ, List.getElem_cons_zero, List.setIfInBounds_toArray, List.set_cons_succ, List.set_cons_zero]
  refine sq_make 28 ⟨(Op.pick (Operand.tmp 79) (Operand.tmp 81) (Operand.const (Value.bool false))), some 82, 4, false, none⟩ (.bool true) _ (by kernel_rfl) rfl (by first | exact rfl | trivial) ?_ hS ?_; (focus (simp [go_sem, mkO]; done)); simp only [Act.put, Array.getInternal_eq_getElem, List.getElem_toArray, List.getElem_cons_succ, List.getElem_cons_zero, List.setIfInBounds_toArray, List.set_cons_succ, List.set_cons_zero]
  refine sq_make 29 ⟨(Op.move (Operand.tmp 82)), some 83, 4, false, none⟩ (.bool true) _ (by kernel_rfl) rfl (by first | exact rfl | trivial) ?_ hS ?_; (focus (exact rfl)); simp only [Act.put, Array.getInternal_eq_getElem, List.getElem_toArray, List.getElem_cons_succ, List.getElem_cons_zero, List.setIfInBounds_toArray, List.set_cons_succ, List.set_cons_zero]
  refine sq_make 30 ⟨(Op.move (Operand.tmp 8)), some 84, 3, false, some (83, true)⟩ (.int .i64 14) _ (by kernel_rfl) rfl (by first | exact rfl | trivial) ?_ hS ?_; (focus (exact rfl)); simp only [Act.put, Array.getInternal_eq_getElem, List.getElem_toArray, List.getElem_cons_succ, List.getElem_cons_zero, List.setIfInBounds_toArray, List.set_cons_succ, List.set_cons_zero]
  refine sq_make 31 ⟨(Op.binOp BinOp.eql 3 (Operand.tmp 84) (Operand.const (Value.int IntKind.i64 14)) 3), some 85, 4, false, some (83, true)⟩ (.bool true) _ (by kernel_rfl) rfl (by first | exact rfl | trivial) ?_ hS ?_; (focus (simp [go_sem, mkO]; done)); simp only [Act.put, Array.getInternal_eq_getElem, List.getElem_toArray, List.getElem_cons_succ, List.getElem_cons_zero, List.setIfInBounds_toArray, List.set_cons_succ, List.set_cons_zero]
  refine sq_make 32 ⟨(Op.pick (Operand.tmp 83) (Operand.tmp 85) (Operand.const (Value.bool false))), some 86, 4, false, none⟩ (.bool true) _ (by kernel_rfl) rfl (by first | exact rfl | trivial) ?_ hS ?_; (focus (simp [go_sem, mkO]; done)); simp only [Act.put, Array.getInternal_eq_getElem, List.getElem_toArray, List.getElem_cons_succ, List.getElem_cons_zero, List.setIfInBounds_toArray, List.set_cons_succ, List.set_cons_zero]
  refine sq_make 33 ⟨(Op.move (Operand.tmp 86)), some 87, 4, false, none⟩ (.bool true) _ (by kernel_rfl) rfl (by first | exact rfl | trivial) ?_ hS ?_; (focus (exact rfl)); simp only [Act.put, Array.getInternal_eq_getElem, List.getElem_toArray, List.getElem_cons_succ, List.getElem_cons_zero, List.setIfInBounds_toArray, List.set_cons_succ, List.set_cons_zero]
  refine sq_make 34 ⟨(Op.move (Operand.tmp 9)), some 88, 29, false, some (87, true)⟩ (.int .i64 0) _ (by kernel_rfl) rfl (by first | exact rfl | trivial) ?_ hS ?_; (focus (exact rfl)); simp only [Act.put, Array.getInternal_eq_getElem, List.getElem_toArray, List.getElem_cons_succ, List.getElem_cons_zero, List.setIfInBounds_toArray, List.set_cons_succ, List.set_cons_zero]
  refine sq_make 35 ⟨(Op.binOp BinOp.eql 29 (Operand.tmp 88) (Operand.const (Value.int IntKind.i64 0)) 29), some 89, 4, false, some (87, true)⟩ (.bool true) _ (by kernel_rfl) rfl (by first | exact rfl | trivial) ?_ hS ?_; (focus (simp [go_sem, mkO]; done)); simp only [Act.put, Array.getInternal_eq_getElem, List.getElem_toArray, List.getElem_cons_succ, List.getElem_cons_zero, List.setIfInBounds_toArray, List.set_cons_succ, List.set_cons_zero]
  refine sq_make 36 ⟨(Op.pick (Operand.tmp 87) (Operand.tmp 89) (Operand.const (Value.bool false))), some 90, 4, false, none⟩ (.bool true) _ (by kernel_rfl) rfl (by first | exact rfl | trivial) ?_ hS ?_; (focus (simp [go_sem, mkO]; done)); simp only [Act.put, Array.getInternal_eq_getElem, List.getElem_toArray, List.getElem_cons_succ, List.getElem_cons_zero, List.setIfInBounds_toArray, List.set_cons_succ, List.set_cons_zero]
  refine sq_make 37 ⟨(Op.move (Operand.tmp 90)), some 91, 4, false, none⟩ (.bool true) _ (by kernel_rfl) rfl (by first | exact rfl | trivial) ?_ hS ?_; (focus (exact rfl)); simp only [Act.put, Array.getInternal_eq_getElem, List.getElem_toArray, List.getElem_cons_succ, List.getElem_cons_zero, List.setIfInBounds_toArray, List.set_cons_succ, List.set_cons_zero]
  refine sq_make 38 ⟨(Op.move (Operand.tmp 10)), some 92, 3, false, some (91, true)⟩ (.int .i64 6) _ (by kernel_rfl) rfl (by first | exact rfl | trivial) ?_ hS ?_; (focus (exact rfl)); simp only [Act.put, Array.getInternal_eq_getElem, List.getElem_toArray, List.getElem_cons_succ, List.getElem_cons_zero, List.setIfInBounds_toArray, List.set_cons_succ, List.set_cons_zero]
  refine sq_make 39 ⟨(Op.binOp BinOp.eql 3 (Operand.tmp 92) (Operand.const (Value.int IntKind.i64 6)) 3), some 93, 4, false, some (91, true)⟩ (.bool true) _ (by kernel_rfl) rfl (by first | exact rfl | trivial) ?_ hS ?_; (focus (simp [go_sem, mkO]; done)); simp only [Act.put, Array.getInternal_eq_getElem, List.getElem_toArray, List.getElem_cons_succ, List.getElem_cons_zero, List.setIfInBounds_toArray, List.set_cons_succ, List.set_cons_zero]
  refine sq_make 40 ⟨(Op.pick (Operand.tmp 91) (Operand.tmp 93) (Operand.const (Value.bool false))), some 94, 4, false, none⟩ (.bool true) _ (by kernel_rfl) rfl (by first | exact rfl | trivial) ?_ hS ?_; (focus (simp [go_sem, mkO]; done)); simp only [Act.put, Array.getInternal_eq_getElem, List.getElem_toArray, List.getElem_cons_succ, List.getElem_cons_zero, List.setIfInBounds_toArray, List.set_cons_succ, List.set_cons_zero]
  refine sq_make 41 ⟨(Op.move (Operand.tmp 94)), some 95, 4, false, none⟩ (.bool true) _ (by kernel_rfl) rfl (by first | exact rfl | trivial) ?_ hS ?_; (focus (exact rfl)); simp only [Act.put, Array.getInternal_eq_getElem, List.getElem_toArray, List.getElem_cons_succ, List.getElem_cons_zero, List.setIfInBounds_toArray, List.set_cons_succ, List.set_cons_zero]
  refine sq_make 42 ⟨(Op.move (Operand.tmp 11)), some 96, 29, false, some (95, true)⟩ (.int .i64 0) _ (by kernel_rfl) rfl (by first | exact rfl | trivial) ?_ hS ?_; (focus (exact rfl)); simp only [Act.put, Array.getInternal_eq_getElem, List.getElem_toArray, List.getElem_cons_succ, List.getElem_cons_zero, List.setIfInBounds_toArray, List.set_cons_succ, List.set_cons_zero]
  refine sq_make 43 ⟨(Op.binOp BinOp.eql 29 (Operand.tmp 96) (Operand.const (Value.int IntKind.i64 0)) 29), some 97, 4, false, some (95, true)⟩ (.bool true) _ (by kernel_rfl) rfl (by first | exact rfl | trivial) ?_ hS ?_; (focus (simp [go_sem, mkO]; done)); simp only [Act.put, Array.getInternal_eq_getElem, List.getElem_toArray, List.getElem_cons_succ, List.getElem_cons_zero, List.setIfInBounds_toArray, List.set_cons_succ, List.set_cons_zero]
  refine sq_make 44 ⟨(Op.pick (Operand.tmp 95) (Operand.tmp 97) (Operand.const (Value.bool false))), some 98, 4, false, none⟩ (.bool true) _ (by kernel_rfl) rfl (by first | exact rfl | trivial) ?_ hS ?_; (focus (simp [go_sem, mkO]; done)); simp only [Act.put, Array.getInternal_eq_getElem, List.getElem_toArray, List.getElem_cons_succ, List.getElem_cons_zero, List.setIfInBounds_toArray, List.set_cons_succ, List.set_cons_zero]
  refine sq_make 45 ⟨(Op.move (Operand.tmp 98)), some 99, 4, false, none⟩ (.bool true) _ (by kernel_rfl) rfl (by first | exact rfl | trivial) ?_ hS ?_; (focus (exact rfl)); simp only [Act.put, Array.getInternal_eq_getElem, List.getElem_toArray, List.getElem_cons_succ, List.getElem_cons_zero, List.setIfInBounds_toArray, List.set_cons_succ, List.set_cons_zero]
  refine sq_make 46 ⟨(Op.move (Operand.tmp 12)), some 100, 3, false, some (99, true)⟩ (.int .i64 8) _ (by kernel_rfl) rfl (by first | exact rfl | trivial) ?_ hS ?_; (focus (exact rfl)); simp only [Act.put, Array.getInternal_eq_getElem, List.getElem_toArray, List.getElem_cons_succ, List.getElem_cons_zero, List.setIfInBounds_toArray, List.set_cons_succ, List.set_cons_zero]
  refine sq_make 47 ⟨(Op.binOp BinOp.eql 3 (Operand.tmp 100) (Operand.const (Value.int IntKind.i64 8)) 3), some 101, 4, false, some (99, true)⟩ (.bool true) _ (by kernel_rfl) rfl (by first | exact rfl | trivial) ?_ hS ?_; (focus (simp [go_sem, mkO]; done)); simp only [Act.put, Array.getInternal_eq_getElem, List.getElem_toArray, List.getElem_cons_succ, List.getElem_cons_zero, List.setIfInBounds_toArray, List.set_cons_succ, List.set_cons_zero]
  refine sq_make 48 ⟨(Op.pick (Operand.tmp 99) (Operand.tmp 101) (Operand.const (Value.bool false))), some 102, 4, false, none⟩ (.bool true) _ (by kernel_rfl) rfl (by first | exact rfl | trivial) ?_ hS ?_; (focus (simp [go_sem, mkO]; done)); simp only [Act.put, Array.getInternal_eq_getElem, List.getElem_toArray, List.getElem_cons_succ, List.getElem_cons_zero, List.setIfInBounds_toArray, List.set_cons_succ, List.set_cons_zero]
  refine sq_make 49 ⟨(Op.move (Operand.tmp 102)), some 103, 4, false, none⟩ (.bool true) _ (by kernel_rfl) rfl (by first | exact rfl | trivial) ?_ hS ?_; (focus (exact rfl)); simp only [Act.put, Array.getInternal_eq_getElem, List.getElem_toArray, List.getElem_cons_succ, List.getElem_cons_zero, List.setIfInBounds_toArray, List.set_cons_succ, List.set_cons_zero]
  refine sq_make 50 ⟨(Op.move (Operand.tmp 13)), some 104, 3, false, some (103, true)⟩ (.int .i64 10) _ (by kernel_rfl) rfl (by first | exact rfl | trivial) ?_ hS ?_; (focus (exact rfl)); simp only [Act.put, Array.getInternal_eq_getElem, List.getElem_toArray, List.getElem_cons_succ, List.getElem_cons_zero, List.setIfInBounds_toArray, List.set_cons_succ, List.set_cons_zero]
  refine sq_make 51 ⟨(Op.binOp BinOp.eql 3 (Operand.tmp 104) (Operand.const (Value.int IntKind.i64 10)) 3), some 105, 4, false, some (103, true)⟩ (.bool true) _ (by kernel_rfl) rfl (by first | exact rfl | trivial) ?_ hS ?_; (focus (simp [go_sem, mkO]; done)); simp only [Act.put, Array.getInternal_eq_getElem, List.getElem_toArray, List.getElem_cons_succ, List.getElem_cons_zero, List.setIfInBounds_toArray, List.set_cons_succ, List.set_cons_zero]
  refine sq_make 52 ⟨(Op.pick (Operand.tmp 103) (Operand.tmp 105) (Operand.const (Value.bool false))), some 106, 4, false, none⟩ (.bool true) _ (by kernel_rfl) rfl (by first | exact rfl | trivial) ?_ hS ?_; (focus (simp [go_sem, mkO]; done)); simp only [Act.put, Array.getInternal_eq_getElem, List.getElem_toArray, List.getElem_cons_succ, List.getElem_cons_zero, List.setIfInBounds_toArray, List.set_cons_succ, List.set_cons_zero]
  refine sq_make 53 ⟨(Op.move (Operand.tmp 106)), some 107, 4, false, none⟩ (.bool true) _ (by kernel_rfl) rfl (by first | exact rfl | trivial) ?_ hS ?_; (focus (exact rfl)); simp only [Act.put, Array.getInternal_eq_getElem, List.getElem_toArray, List.getElem_cons_succ, List.getElem_cons_zero, List.setIfInBounds_toArray, List.set_cons_succ, List.set_cons_zero]
  refine sq_make 54 ⟨(Op.move (Operand.tmp 14)), some 108, 29, false, some (107, true)⟩ (.int .i64 0) _ (by kernel_rfl) rfl (by first | exact rfl | trivial) ?_ hS ?_; (focus (exact rfl)); simp only [Act.put, Array.getInternal_eq_getElem, List.getElem_toArray, List.getElem_cons_succ, List.getElem_cons_zero, List.setIfInBounds_toArray, List.set_cons_succ, List.set_cons_zero]
  refine sq_make 55 ⟨(Op.binOp BinOp.eql 29 (Operand.tmp 108) (Operand.const (Value.int IntKind.i64 0)) 29), some 109, 4, false, some (107, true)⟩ (.bool true) _ (by kernel_rfl) rfl (by first | exact rfl | trivial) ?_ hS ?_; (focus (simp [go_sem, mkO]; done)); simp only [Act.put, Array.getInternal_eq_getElem, List.getElem_toArray, List.getElem_cons_succ, List.getElem_cons_zero, List.setIfInBounds_toArray, List.set_cons_succ, List.set_cons_zero]
  refine sq_make 56 ⟨(Op.pick (Operand.tmp 107) (Operand.tmp 109) (Operand.const (Value.bool false))), some 110, 4, false, none⟩ (.bool true) _ (by kernel_rfl) rfl (by first | exact rfl | trivial) ?_ hS ?_; (focus (simp [go_sem, mkO]; done)); simp only [Act.put, Array.getInternal_eq_getElem, List.getElem_toArray, List.getElem_cons_succ, List.getElem_cons_zero, List.setIfInBounds_toArray, List.set_cons_succ, List.set_cons_zero]
  refine sq_make 57 ⟨(Op.move (Operand.tmp 110)), some 111, 4, false, none⟩ (.bool true) _ (by kernel_rfl) rfl (by first | exact rfl | trivial) ?_ hS ?_; (focus (exact rfl)); simp only [Act.put, Array.getInternal_eq_getElem, List.getElem_toArray, List.getElem_cons_succ, List.getElem_cons_zero, List.setIfInBounds_toArray, List.set_cons_succ, List.set_cons_zero]
  refine sq_take 58 ⟨(Op.load 28 (Operand.tmp 15)), some 112, 28, true, some (111, true)⟩ (.agg #[.int .i64 2160, .int .i64 2400]) (by kernel_rfl) rfl (by first | exact rfl | trivial) (fun wq hq => ?_) hS ?_; (focus (simp [go_sem, mkO, (f15 wq hq).1, (f15 wq hq).2]; done)); simp only [Act.put, Array.getInternal_eq_getElem, List.getElem_toArray, List.getElem_cons_succ, List.getElem_cons_zero, List.setIfInBounds_toArray, List.set_cons_succ, List.set_cons_zero]
  refine sq_call 59 ⟨(Op.call { callee := (Callee.value (Operand.func 31)), args := #[(Operand.const (Value.int IntKind.i64 2160)), (Operand.const (Value.int IntKind.i64 2400))], argTypes := #[3, 3] }), some 113, 28, false, some (111, true)⟩ (f := 31) (args := #[.int .i64 2160, .int .i64 2400]) (by kernel_rfl) rfl (by first | exact rfl | trivial) (by simp [go_sem, mkO]) ?_
  refine (span_c 2160 2400 _).mono ?_
  rintro e Z4 ⟨rfl, hz⟩
  replace hS := hS.trans (hz.mono hS.size)
  refine .inl ⟨_, rfl, hS, ?_⟩
  simp only [Act.put, Array.getInternal_eq_getElem, List.getElem_toArray, List.getElem_cons_succ, List.getElem_cons_zero, List.setIfInBounds_toArray, List.set_cons_succ, List.set_cons_zero]
  clear hz
  refine sq_make 60 ⟨(Op.binOp BinOp.eql 28 (Operand.tmp 112) (Operand.tmp 113) 28), some 114, 4, false, some (111, true)⟩ (.bool true) _ (by kernel_rfl) rfl (by first | exact rfl | trivial) ?_ hS ?_; (focus (simp [go_sem, mkO]; done)); simp only [Act.put, Array.getInternal_eq_getElem, List.getElem_toArray, List.getElem_cons_succ, List.getElem_cons_zero, List.setIfInBounds_toArray, List.set_cons_succ, List.set_cons_zero]
  refine sq_make 61 ⟨(Op.pick (Operand.tmp 111) (Operand.tmp 114) (Operand.const (Value.bool false))), some 115, 4, false, none⟩ (.bool true) _ (by kernel_rfl) rfl (by first | exact rfl | trivial) ?_ hS ?_; (focus (simp [go_sem, mkO]; done)); simp only [Act.put, Array.getInternal_eq_getElem, List.getElem_toArray, List.getElem_cons_succ, List.getElem_cons_zero, List.setIfInBounds_toArray, List.set_cons_succ, List.set_cons_zero]
  refine sq_make 62 ⟨(Op.move (Operand.tmp 115)), some 116, 4, false, none⟩ (.bool true) _ (by kernel_rfl) rfl (by first | exact rfl | trivial) ?_ hS ?_; (focus (exact rfl)); simp only [Act.put, Array.getInternal_eq_getElem, List.getElem_toArray, List.getElem_cons_succ, List.getElem_cons_zero, List.setIfInBounds_toArray, List.set_cons_succ, List.set_cons_zero]
  refine sq_make 63 ⟨(Op.move (Operand.tmp 16)), some 117, 29, false, some (116, true)⟩ (.int .i64 0) _ (by kernel_rfl) rfl (by first | exact rfl | trivial) ?_ hS ?_; (focus (exact rfl)); simp only [Act.put, Array.getInternal_eq_getElem, List.getElem_toArray, List.getElem_cons_succ, List.getElem_cons_zero, List.setIfInBounds_toArray, List.set_cons_succ, List.set_cons_zero]
  refine sq_make 64 ⟨(Op.binOp BinOp.eql 29 (Operand.tmp 117) (Operand.const (Value.int IntKind.i64 0)) 29), some 118, 4, false, some (116, true)⟩ (.bool true) _ (by kernel_rfl) rfl (by first | exact rfl | trivial) ?_ hS ?_; (focus (simp [go_sem, mkO]; done)); simp only [Act.put, Array.getInternal_eq_getElem, List.getElem_toArray, List.getElem_cons_succ, List.getElem_cons_zero, List.setIfInBounds_toArray, List.set_cons_succ, List.set_cons_zero]
  refine sq_make 65 ⟨(Op.pick (Operand.tmp 116) (Operand.tmp 118) (Operand.const (Value.bool false))), some 119, 4, false, none⟩ (.bool true) _ (by kernel_rfl) rfl (by first | exact rfl | trivial) ?_ hS ?_; (focus (simp [go_sem, mkO]; done)); simp only [Act.put, Array.getInternal_eq_getElem, List.getElem_toArray, List.getElem_cons_succ, List.getElem_cons_zero, List.setIfInBounds_toArray, List.set_cons_succ, List.set_cons_zero]
  refine sq_make 66 ⟨(Op.assign (Operand.tmp 119)), some 0, 4, false, none⟩ (.bool true) _ (by kernel_rfl) rfl (by first | exact rfl | trivial) ?_ hS ?_; (focus (exact rfl)); simp only [Act.put, Array.getInternal_eq_getElem, List.getElem_toArray, List.getElem_cons_succ, List.getElem_cons_zero, List.setIfInBounds_toArray, List.set_cons_succ, List.set_cons_zero]
  refine sq_done 67 (by decide) (hQn _ _ (Keep.of_below hS) ?_)
  show Exec _ _ _ _ _ _
  refine exec_ret ⟨.inr rfl, fun W' hG => ⟨.bool true, by simp [results, Try.f14, go_sem], rfl, (hB7.trans (hS.mono hB7.size)).trans (hG.below (Nat.le_refl _) (hB7.trans (hS.mono hB7.size)).size)⟩⟩
end Go.Proofs.Ytafmgmaelnpehaa
end
