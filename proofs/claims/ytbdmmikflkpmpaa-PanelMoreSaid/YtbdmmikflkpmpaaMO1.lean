/- PanelMore returns true for all panels and numbers, in whatever order Go evaluates what it leaves open; no condition. -/
import Derived.Test.YtbdmmikflkpmpaaProg
import Derived.Test.YtbdmmikflkpmpaaNA1
import Derived.Test.YtbdmmikflkpmpaaNA3
import Derived.Deep.Upon
import Derived.ArgAppend
import Derived.Maps.AppendAt
import Derived.Test.YtbdmmikflkpmpaaNA2
import Derived.WalkKit
import Derived.WalkSpells
import Derived.WalkLawsBesides
import Derived.Outline
import Derived.OwnWalkIn
import Derived.TacticsInMore
import Derived.LoopNIn
import Derived.LoopIn
import Derived.Shelf.RegionOpen
import Derived.Deep.QuietTactic
import Derived.BigQuiet
import Derived.Lib.Hide
import Derived.Test.YtbdmmikflkpmpaaWV1
import Derived.Test.YtbdmmikflkpmpaaNA4
import Derived.Test.YtbdmmikflkpmpaaRows
import Derived.ProofKit
import Derived.OpenShut
import Derived.ShutString
import Derived.ChangeOld
import Derived.Below
import Derived.SizedLaws
section
set_option linter.unusedVariables false
set_option linter.unusedSimpArgs false
namespace Go.Proofs.Ytbdmmikflkpmpaa
open Go.RowKit Go.TL Go.Shelf Go.Pn
/-- Blocks that are kept in view, and what each holds. -/
structure Tr (W V X : World) (l : List (Nat × Obj)) : Prop where
  below : Below W.heap.size W X
  keep : Keep V X
  ge : ∀ p ∈ l, W.heap.size ≤ p.1
  at_ : ∀ p ∈ l, X.heap[p.1]? = some p.2
  nd : (l.map (·.1)).Nodup
section
variable {W V X Y : World} {l : List (Nat × Obj)}
theorem Tr.start (hb : Below W.heap.size W V) : Tr W V V [] := ⟨hb, Keep.refl _, fun _ h => (by cases h), fun _ h => (by cases h), List.nodup_nil⟩
theorem Tr.again (h : Tr W V X l) : Tr W X X l := ⟨h.below, Keep.refl _, h.ge, h.at_, h.nd⟩
theorem Tr.get (h : Tr W V X l) (i : Nat) {k : Nat} {o : Obj} (hi : l[i]? = some (k, o)) : X.heap[k]? = some o := h.at_ _ (List.mem_of_getElem? hi)
theorem Tr.lt (h : Tr W V X l) : ∀ p ∈ l, p.1 < X.heap.size := fun p hp => heap_lt (h.at_ p hp)
theorem Tr.push (h : Tr W V X l) {k : Nat} {o : Obj} (hk : X.heap[k]? = some o) (hge : W.heap.size ≤ k) (hn : ∀ p ∈ l, p.1 ≠ k) : Tr W V X ((k, o) :: l) := by
  refine ⟨h.below, h.keep, fun p hp => ?_, fun p hp => ?_, ?_⟩
  · rcases List.mem_cons.1 hp with rfl | hp
    · exact hge
    · exact h.ge p hp
  · rcases List.mem_cons.1 hp with rfl | hp
    · exact hk
    · exact h.at_ p hp
  · rw [List.map_cons, List.nodup_cons]
    refine ⟨fun hm => ?_, h.nd⟩
    obtain ⟨p, hp, e⟩ := List.mem_map.1 hm
    exact hn p hp e
theorem Tr.step (h : Tr W V X l) (hb : Below X.heap.size X Y) : Tr W V Y l :=
  ⟨h.below.trans (hb.mono h.below.size), h.keep.trans (Keep.of_below hb), h.ge, fun p hp => (hb.block _ (h.lt p hp)).trans (h.at_ p hp), h.nd⟩
theorem Tr.drew (h : Tr W V X l) : Tr W V X.drew l := h.step (Below.refl _ X).drew
theorem Tr.alloc (h : Tr W V X l) (o : Obj) : Tr W V (X.alloc o) ((X.heap.size, o) :: l) :=
  (h.step ((Below.refl X.heap.size X).alloc (Nat.le_refl _) o)).push (World.alloc_heap_new X o) h.below.size fun p hp => by have := h.lt p hp; omega
theorem Tr.drop (h : Tr W V X l) {m : List (Nat × Obj)} (hs : m.Sublist l) : Tr W V X m :=
  ⟨h.below, h.keep, fun p hp => h.ge p (hs.subset hp), fun p hp => h.at_ p (hs.subset hp), h.nd.sublist (hs.map _)⟩
theorem nodup_get : ∀ {l : List (Nat × Obj)} {i j k : Nat} {o o' : Obj}, (l.map (·.1)).Nodup → l[i]? = some (k, o) → l[j]? = some (k, o') → i = j
  | [], i, j, _, _, _, _, h, _ => by simp at h
  | p :: l, 0, 0, _, _, _, _, _, _ => rfl
  | p :: l, 0, j + 1, k, o, o', hn, h1, h2 => by
    rw [List.map_cons, List.nodup_cons] at hn
    have e : p = (k, o) := by simpa using h1
    subst e
    exact absurd (List.mem_map.2 ⟨(k, o'), List.mem_of_getElem? (by simpa using h2), rfl⟩) hn.1
  | p :: l, i + 1, 0, k, o, o', hn, h1, h2 => by
    rw [List.map_cons, List.nodup_cons] at hn
    have e : p = (k, o') := by simpa using h2
    subst e
    exact absurd (List.mem_map.2 ⟨(k, o), List.mem_of_getElem? (by simpa using h1), rfl⟩) hn.1
  | p :: l, i + 1, j + 1, k, o, o', hn, h1, h2 => by
    rw [List.map_cons, List.nodup_cons] at hn
    rw [nodup_get (l := l) (i := i) (j := j) hn.2 (by simpa using h1) (by simpa using h2)]
theorem nodup_set : ∀ {m : List Nat} {i k' : Nat}, m.Nodup → k' ∉ m → (m.set i k').Nodup
  | [], _, _, hd, _ => hd
  | a :: m, 0, k', hd, hno => by
    rw [List.nodup_cons] at hd
    rw [List.set_cons_zero, List.nodup_cons]
    exact ⟨fun c => hno (List.mem_cons_of_mem _ c), hd.2⟩
  | a :: m, i + 1, k', hd, hno => by
    rw [List.nodup_cons] at hd
    rw [List.set_cons_succ, List.nodup_cons]
    refine ⟨fun c => ?_, nodup_set hd.2 (fun c => hno (List.mem_cons_of_mem _ c))⟩
    rcases List.mem_or_eq_of_mem_set c with c | c
    · exact hd.1 c
    · exact hno (c ▸ List.mem_cons_self ..)
theorem Tr.put (h : Tr W V X l) (hb : Below W.heap.size W Y) (hk : Keep V Y) {i k k' : Nat} {o o' : Obj} (hi : l[i]? = some (k, o)) (hge : W.heap.size ≤ k') (hn : k' = k ∨ ∀ p ∈ l, p.1 ≠ k') (hsame : ∀ p ∈ l, p.1 ≠ k → Y.heap[p.1]? = some p.2) (hnew : Y.heap[k']? = some o') : Tr W V Y (l.set i (k', o')) := by
  have hil := (List.getElem?_eq_some_iff.1 hi).1
  have hmem : ∀ p ∈ l.set i (k', o'), p = (k', o') ∨ p ∈ l ∧ p.1 ≠ k := fun p hp => by
    obtain ⟨j, hj, e⟩ := List.getElem_of_mem hp
    have e' : (l.set i (k', o'))[j]? = some p := by rw [List.getElem?_eq_getElem hj, e]
    rw [List.getElem?_set] at e'
    split at e'
    · first | rw [if_pos hil] at e' | skip
      exact .inl (Option.some.inj e').symm
    · rename_i hne
      refine .inr ⟨List.mem_of_getElem? e', fun c => hne ?_⟩
      obtain ⟨a, b⟩ := p
      simp only at c
      subst c
      exact nodup_get h.nd hi e'
  refine ⟨hb, hk, fun p hp => ?_, fun p hp => ?_, ?_⟩
  · rcases hmem p hp with rfl | ⟨hp, _⟩
    · exact hge
    · exact h.ge p hp
  · rcases hmem p hp with rfl | ⟨hp, hne⟩
    · exact hnew
    · exact hsame p hp hne
  · rw [List.map_set]
    rcases hn with rfl | hn
    · have : (l.map (·.1)).set i k' = l.map (·.1) := by
        refine List.ext_getElem? fun j => ?_
        rw [List.getElem?_set]
        split
        · rename_i e
          subst e
          rw [if_pos (by rw [List.length_map]; exact hil), List.getElem?_map, hi]
          rfl
        · rfl
      show ((l.map (·.1)).set i k').Nodup
      rw [this]
      exact h.nd
    · show ((l.map (·.1)).set i k').Nodup
      have hno : k' ∉ l.map (·.1) := fun hm => by
        obtain ⟨p, hp, e⟩ := List.mem_map.1 hm
        exact hn p hp e
      have hd := h.nd
      exact nodup_set hd hno
theorem Tr.set (h : Tr W V X l) (i : Nat) {k : Nat} {cs : List Value} {t : TypeId} (hi : l[i]? = some (k, .cells cs.toArray t (0, 0))) (j : Nat) (v : Value) : Tr W V (X.setCell ⟨k, j, none⟩ v) (l.set i (k, .cells (cs.set j v).toArray t (0, 0))) := by
  have hk := h.at_ _ (List.mem_of_getElem? hi)
  have hge := h.ge _ (List.mem_of_getElem? hi)
  exact h.put (h.below.setCell hge v) (h.keep.setCell _ v) hi hge (.inl rfl) (fun p hp hne => (Below.heap_setCell X ⟨k, j, none⟩ v p.1 hne).trans (h.at_ p hp)) (box_set X k j cs t v hk)
theorem Tr.cell (h : Tr W V X l) (i : Nat) {k : Nat} {cs : List Value} {t : TypeId} (hi : l[i]? = some (k, .cells cs.toArray t (0, 0))) {j : Nat} {v : Value} (hv : cs[j]? = some v) : X.cell? ⟨k, j, none⟩ = some v := cells_get (h.get i hi) hv
theorem Tr.fz (h : Tr W V X l) (i : Nat) {k : Nat} {cs : List Value} {t : TypeId} (hi : l[i]? = some (k, .cells cs.toArray t (0, 0))) (o : Nat) : X.frozen? ⟨k, o, none⟩ = false := frozen_cells (h.get i hi)
end
/-- Cells that begin with some values. -/
def Pre (cur vs : List Value) : Prop := ∀ (i : Nat) (v : Value), vs[i]? = some v → cur[i]? = some v
theorem Pre.set {cur vs : List Value} (h : Pre cur vs) (r : Nat) (u : Value) : Pre (cur.set r u) (vs.set r u) := fun i v hv => by
  rw [List.getElem?_set] at hv ⊢
  split
  · rename_i e
    rw [if_pos e] at hv
    split at hv
    · rename_i hl
      have := h r _ (List.getElem?_eq_getElem hl)
      rw [if_pos (List.getElem?_eq_some_iff.1 this).1]
      exact hv
    · cases hv
  · rename_i e
    rw [if_neg e] at hv
    exact h i v hv
theorem rowV_pre {X : World} {g t : Nat} {cur vs : List Value} (h : X.heap[g]? = some (.cells cur.toArray t (0, 0))) (hp : Pre cur vs) : RowV X (some ⟨g, 0, none⟩) vs := fun i v hv => ⟨_, rfl, by
  rw [show (⟨g, 0, none⟩ : Addr).add i = ⟨g, i, none⟩ from by simp [Addr.add]; exact fun h => h.symm]
  exact cells_get h (hp i v hv)⟩
theorem Tr.grown {W V X Y : World} {l : List (Nat × Obj)} (h : Tr W V X l) (hg : X.grownBy Y none) : Tr W V Y l := h.step ((Below.refl _ X).grown hg (Nat.le_refl _) (fun q e => by cases e))
/-- append([]int{}, row...). -/
theorem Tr.app_ints {W V X : World} {l : List (Nat × Obj)} (h : Tr W V X l) (i : Nat) {z : Nat} (hi : l[i]? = some (z, .cells #[] 3 (0, 0))) {A : Option Addr} {L : List Int} {n c : Nat} (hr : RowV X A (L.map vi)) (hl : L.length ≤ 1000) (hn : n = L.length) (ty : TypeId) :
    ∃ g c' cur Y, (Builtin.append_ #[22, 22] ty #[.slice (some ⟨z, 0, none⟩) 0 0, .slice A n c]).run Try.prog X = .ok (.slice (some ⟨g, 0, none⟩) n c') Y ∧ Tr W V Y (l.set i (g, .cells cur.toArray 3 (0, 0))) ∧ Pre cur (L.map vi) ∧ Below X.heap.size X Y := by
  subst hn
  obtain ⟨i0, hi0, hz0, hz1, hz2⟩ := info3q
  cases L with
  | nil =>
    refine ⟨z, 0, [], X, ?_, ?_, fun i v hv => by simp at hv, Below.refl _ _⟩
    · have hs : Src Try.prog i0.size 22 (.slice A 0 c) 0 [] X := by
        cases A with
        | none => exact Src.ofNil X Try.underlying22 c
        | some a => exact Src.ofSlice X Try.underlying22 a 0 c [] (by simp) (fun j u hu => by simp at hu) (fun u hu => by cases hu)
      exact run_append_nothing X 22 22 ty 3 i0 Try.underlying22 hi0 (some ⟨z, 0, none⟩) 0 0 (Nat.le_refl _) _ hs
    · have : l.set i (z, .cells [].toArray 3 (0, 0)) = l := by
        refine List.ext_getElem? fun j => ?_
        rw [List.getElem?_set]
        split
        · rename_i e
          subst e
          rw [if_pos (List.getElem?_eq_some_iff.1 hi).1, hi]
        · rfl
      rw [this]
      exact h
  | cons y L =>
    obtain ⟨a, rfl, _⟩ := hr 0 _ rfl
    obtain ⟨v', Y, hrun, hown, hgr⟩ := run_append_arg_grows (P := Try.prog) X 22 ty 3 i0 (.int .i64 0) 1 8 Try.underlying22 hi0 hz0 hz1 hz2 rfl (by decide) ⟨z, 0, none⟩ 0 0 [] rfl (fun j u h => by simp at h) a (y :: L).length c ((y :: L).map vi) (by simp) (fun j u hj => by obtain ⟨_, e, hc⟩ := hr j u hj; cases e; exact hc) (by simp) (by unfold maxLen; omega) (by omega)
    rw [Nat.zero_add, List.nil_append] at hown
    rcases hown.2 with ⟨_, h0⟩ | ⟨g, cap, cur, rfl, hge, hg, hnc, _, hsz, htk⟩
    · simp at h0
    · have hB : Below X.heap.size X Y := (Below.refl _ X).grown hgr (Nat.le_refl _) (fun q e => by cases e)
      have hT := h.step hB
      refine ⟨g, cap, cur.toList, Y, hrun, ?_, fun i v hv => ?_, hB⟩
      · have hne : ∀ p ∈ l, p.1 ≠ g := fun p hp => by have := h.lt p hp; omega
        exact hT.put hT.below hT.keep hi (Nat.le_trans h.below.size hge) (.inr hne) (fun p hp _ => hT.at_ p hp) (by simpa using hg)
      · rw [← htk, Nat.mul_one] at hv
        rw [List.getElem?_take] at hv
        split at hv
        · exact hv
        · cases hv
end Go.Proofs.Ytbdmmikflkpmpaa
end

section
set_option linter.unusedVariables false
set_option linter.unusedSimpArgs false
namespace Go.Proofs.Ytbdmmikflkpmpaa
open Go.RowKit Go.TL Go.Shelf Go.Pn
theorem Tr.of {W V X : World} {l m : List (Nat × Obj)} (h : Tr W V X l) (hm : ∀ p ∈ m, p ∈ l) (hn : (m.map (·.1)).Nodup) : Tr W V X m :=
  ⟨h.below, h.keep, fun p hp => h.ge p (hm p hp), fun p hp => h.at_ p (hm p hp), hn⟩
def m8_0t : It := ⟨(Op.load 25 (Operand.tmp 2)), some 36, 25, true, none⟩
def m8_1t : It := ⟨(Op.load 25 (Operand.tmp 2)), some 37, 25, true, none⟩
def m8_2t : It := ⟨(Op.load 25 (Operand.tmp 2)), some 38, 25, true, none⟩
def m8_3 : It := ⟨(Op.alloc 25), some 5, 0, false, none⟩
def m8_4 : It := ⟨(Op.alloc 25), some 6, 0, false, none⟩
def m8_5 : It := ⟨(Op.alloc 25), some 7, 0, false, none⟩
def m8_6 : It := ⟨(Op.store 25 (Operand.tmp 5) (Operand.tmp 36)), none, 0, false, none⟩
def m8_7 : It := ⟨(Op.store 25 (Operand.tmp 6) (Operand.tmp 37)), none, 0, false, none⟩
def m8_8 : It := ⟨(Op.store 25 (Operand.tmp 7) (Operand.tmp 38)), none, 0, false, none⟩
set_option maxRecDepth 100000 in
set_option maxHeartbeats 4000000 in
theorem mo_r3 {w W : World} {a : XP} {b : Nat} {v1 : Value} (hT : Tr w W W [(b, .cells #[a.sL, a.sN, a.sK] 25 (0, 0))]) (t : Array Value) (hSl : Slots (none :: some (v1) :: some (.pointer (some ⟨b, 0, none⟩)) :: none :: some (.bool false) :: none :: none :: none :: o16 (o64 (o64 (o64 [])))) t) :
    Exec Try.prog none (sub (Try.f8.body.getD .skip) [1, 1, 0]) t W (andThen (fun t' W' => ∃ bx by_ bz, Tr w W' W' [(b, .cells #[a.sL, a.sN, a.sK] 25 (0, 0)), (bx, .cells #[a.sL, a.sN, a.sK] 25 (0, 0)), (by_, .cells #[a.sL, a.sN, a.sK] 25 (0, 0)), (bz, .cells #[a.sL, a.sN, a.sK] 25 (0, 0))] ∧ Slots (none :: some (v1) :: some (.pointer (some ⟨b, 0, none⟩)) :: none :: some (.bool false) :: some (.pointer (some ⟨bx, 0, none⟩)) :: some (.pointer (some ⟨by_, 0, none⟩)) :: some (.pointer (some ⟨bz, 0, none⟩)) :: o16 (o64 (o64 (o64 [])))) t') fun _ _ _ => False) := by
  have hu25 := Try.underlying25
  obtain ⟨x, hx⟩ := Slots.open_ hSl; simp only [fill, Nat.reduceAdd] at hx; subst hx; clear hSl
  have hTd := hT.again.drew
  refine region_tree (c := (sub (Try.f8.body.getD .skip) [1, 1, 0])) (id := 3) (.one 0 true (.one 1 true (.one 2 true (.three 3 4 5 (.two 4 5 (.one 5 false (.one 6 false (.one 7 false (.one 8 false (.nil))))) (.one 4 false (.one 6 false (.one 7 false (.one 8 false (.nil)))))) (.two 3 5 (.one 5 false (.one 6 false (.one 7 false (.one 8 false (.nil))))) (.one 3 false (.one 6 false (.one 7 false (.one 8 false (.nil)))))) (.two 3 4 (.one 4 false (.one 6 false (.one 7 false (.one 8 false (.nil))))) (.one 3 false (.one 6 false (.one 7 false (.one 8 false (.nil)))))))))) (Opq (regOps (sub (Try.f8.body.getD .skip) [1, 1, 0]))) rfl (by kernel_rfl) (by kernel_rfl) (by kernel_rfl) (by kernel_rfl) (by kernel_rfl) (by kernel_rfl) [0, 0, 0, 0, 0, 0, 57, 123, 255] (by kernel_rfl) (by kernel_rfl) (fun W' => W'.cell? ⟨b, 0, none⟩ = some (a.sL) ∧ W'.cell? ⟨b, 1, none⟩ = some (a.sN) ∧ W'.cell? ⟨b, 2, none⟩ = some (a.sK)) (fun _ _ _ => False) (fun _ _ _ h => h.elim) (fun _ _ _ _ _ _ _ _ h => h.elim) fun ds Q' hQn hQp => ?_
  have hT0 := hTd
  clear hTd
  generalize W.drew = X0 at *
  refine tr_take m8_0t (.agg #[a.sL, a.sN, a.sK]) (by kernel_rfl) rfl (by first | exact rfl | trivial) (fun wq hq => ?_) (⟨hT0.cell 0 rfl rfl, hT0.cell 0 rfl rfl, hT0.cell 0 rfl rfl⟩) ?_; (focus (simp [go_sem, mkO, m8_0t, hu25, hq.1, hq.2.1, hq.2.2]; done)); simp only [m8_0t, put_eq, List.set_cons_succ, List.set_cons_zero]
  refine tr_take m8_1t (.agg #[a.sL, a.sN, a.sK]) (by kernel_rfl) rfl (by first | exact rfl | trivial) (fun wq hq => ?_) (⟨hT0.cell 0 rfl rfl, hT0.cell 0 rfl rfl, hT0.cell 0 rfl rfl⟩) ?_; (focus (simp [go_sem, mkO, m8_1t, hu25, hq.1, hq.2.1, hq.2.2]; done)); simp only [m8_1t, put_eq, List.set_cons_succ, List.set_cons_zero]
  refine tr_take m8_2t (.agg #[a.sL, a.sN, a.sK]) (by kernel_rfl) rfl (by first | exact rfl | trivial) (fun wq hq => ?_) (⟨hT0.cell 0 rfl rfl, hT0.cell 0 rfl rfl, hT0.cell 0 rfl rfl⟩) ?_; (focus (simp [go_sem, mkO, m8_2t, hu25, hq.1, hq.2.1, hq.2.2]; done)); simp only [m8_2t, put_eq, List.set_cons_succ, List.set_cons_zero]
  refine ⟨?_, ?_, ?_⟩
  · have hT1 : Tr w W (X0.alloc (.cells #[.slice none 0 0, .slice none 0 0, .slice none 0 0] 25)) [(X0.heap.size, .cells #[.slice none 0 0, .slice none 0 0, .slice none 0 0] 25 (0, 0)), (b, .cells #[a.sL, a.sN, a.sK] 25 (0, 0))] := hT0.alloc (.cells #[.slice none 0 0, .slice none 0 0, .slice none 0 0] 25)
    refine tr_make m8_3 (.pointer (some ⟨X0.heap.size, 0, none⟩)) (X0.alloc (.cells #[.slice none 0 0, .slice none 0 0, .slice none 0 0] 25)) (by kernel_rfl) rfl (by first | exact rfl | trivial) (by simp [go_sem, mkO, m8_3, hu25]) (⟨hT1.cell 1 rfl rfl, hT1.cell 1 rfl rfl, hT1.cell 1 rfl rfl⟩) ?_; simp only [m8_3, put_eq, List.set_cons_succ, List.set_cons_zero]
    obtain ⟨bx, hgbx⟩ : ∃ b, X0.heap.size = b := ⟨_, rfl⟩
    simp only [hgbx] at hT1 ⊢
    generalize X0.alloc (.cells #[.slice none 0 0, .slice none 0 0, .slice none 0 0] 25) = X1 at *
    clear hgbx hT0
    clear X0
    refine ⟨?_, ?_⟩
    · have hT2 : Tr w W (X1.alloc (.cells #[.slice none 0 0, .slice none 0 0, .slice none 0 0] 25)) [(X1.heap.size, .cells #[.slice none 0 0, .slice none 0 0, .slice none 0 0] 25 (0, 0)), (bx, .cells #[.slice none 0 0, .slice none 0 0, .slice none 0 0] 25 (0, 0)), (b, .cells #[a.sL, a.sN, a.sK] 25 (0, 0))] := hT1.alloc (.cells #[.slice none 0 0, .slice none 0 0, .slice none 0 0] 25)
      refine tr_make m8_4 (.pointer (some ⟨X1.heap.size, 0, none⟩)) (X1.alloc (.cells #[.slice none 0 0, .slice none 0 0, .slice none 0 0] 25)) (by kernel_rfl) rfl (by first | exact rfl | trivial) (by simp [go_sem, mkO, m8_4, hu25]) (⟨hT2.cell 2 rfl rfl, hT2.cell 2 rfl rfl, hT2.cell 2 rfl rfl⟩) ?_; simp only [m8_4, put_eq, List.set_cons_succ, List.set_cons_zero]
      obtain ⟨by_, hgby_⟩ : ∃ b, X1.heap.size = b := ⟨_, rfl⟩
      simp only [hgby_] at hT2 ⊢
      generalize X1.alloc (.cells #[.slice none 0 0, .slice none 0 0, .slice none 0 0] 25) = X2 at *
      clear hgby_ hT1
      clear X1
      have hT3 : Tr w W (X2.alloc (.cells #[.slice none 0 0, .slice none 0 0, .slice none 0 0] 25)) [(X2.heap.size, .cells #[.slice none 0 0, .slice none 0 0, .slice none 0 0] 25 (0, 0)), (by_, .cells #[.slice none 0 0, .slice none 0 0, .slice none 0 0] 25 (0, 0)), (bx, .cells #[.slice none 0 0, .slice none 0 0, .slice none 0 0] 25 (0, 0)), (b, .cells #[a.sL, a.sN, a.sK] 25 (0, 0))] := hT2.alloc (.cells #[.slice none 0 0, .slice none 0 0, .slice none 0 0] 25)
      refine tr_make m8_5 (.pointer (some ⟨X2.heap.size, 0, none⟩)) (X2.alloc (.cells #[.slice none 0 0, .slice none 0 0, .slice none 0 0] 25)) (by kernel_rfl) rfl (by first | exact rfl | trivial) (by simp [go_sem, mkO, m8_5, hu25]) (⟨hT3.cell 3 rfl rfl, hT3.cell 3 rfl rfl, hT3.cell 3 rfl rfl⟩) ?_; simp only [m8_5, put_eq, List.set_cons_succ, List.set_cons_zero]
      obtain ⟨bz, hgbz⟩ : ∃ b, X2.heap.size = b := ⟨_, rfl⟩
      simp only [hgbz] at hT3 ⊢
      generalize X2.alloc (.cells #[.slice none 0 0, .slice none 0 0, .slice none 0 0] 25) = X3 at *
      clear hgbz hT2
      clear X2
      have hz := hT3.fz 2 rfl
      have hc0 : X3.cell? ⟨bx, 0, none⟩ = some (.slice none 0 0) := hT3.cell 2 rfl rfl
      have hc1 : X3.cell? ⟨bx, 1, none⟩ = some (.slice none 0 0) := hT3.cell 2 rfl rfl
      have hc2 : X3.cell? ⟨bx, 2, none⟩ = some (.slice none 0 0) := hT3.cell 2 rfl rfl
      have hT4 : Tr w W (((X3.setCell ⟨bx, 0, none⟩ (a.sL)).setCell ⟨bx, 1, none⟩ (a.sN)).setCell ⟨bx, 2, none⟩ (a.sK)) [(bz, .cells #[.slice none 0 0, .slice none 0 0, .slice none 0 0] 25 (0, 0)), (by_, .cells #[.slice none 0 0, .slice none 0 0, .slice none 0 0] 25 (0, 0)), (bx, .cells #[a.sL, a.sN, a.sK] 25 (0, 0)), (b, .cells #[a.sL, a.sN, a.sK] 25 (0, 0))] := (((hT3.set 2 rfl 0 (a.sL)).set 2 rfl 1 (a.sN)).set 2 rfl 2 (a.sK))
      refine tr_store m8_6 (((X3.setCell ⟨bx, 0, none⟩ (a.sL)).setCell ⟨bx, 1, none⟩ (a.sN)).setCell ⟨bx, 2, none⟩ (a.sK)) (by kernel_rfl) rfl (by first | exact rfl | trivial) (by simp [go_sem, mkO, m8_6, hz, hc0, hc1, hc2, hu25, XP.sL, XP.sN, XP.sK]) (⟨hT4.cell 3 rfl rfl, hT4.cell 3 rfl rfl, hT4.cell 3 rfl rfl⟩) ?_; simp only [m8_6, put_none]
      clear hz hc0 hc1 hc2
      generalize (((X3.setCell ⟨bx, 0, none⟩ (a.sL)).setCell ⟨bx, 1, none⟩ (a.sN)).setCell ⟨bx, 2, none⟩ (a.sK)) = X4 at *
      clear hT3
      have hz := hT4.fz 1 rfl
      have hc0 : X4.cell? ⟨by_, 0, none⟩ = some (.slice none 0 0) := hT4.cell 1 rfl rfl
      have hc1 : X4.cell? ⟨by_, 1, none⟩ = some (.slice none 0 0) := hT4.cell 1 rfl rfl
      have hc2 : X4.cell? ⟨by_, 2, none⟩ = some (.slice none 0 0) := hT4.cell 1 rfl rfl
      have hT5 : Tr w W (((X4.setCell ⟨by_, 0, none⟩ (a.sL)).setCell ⟨by_, 1, none⟩ (a.sN)).setCell ⟨by_, 2, none⟩ (a.sK)) [(bz, .cells #[.slice none 0 0, .slice none 0 0, .slice none 0 0] 25 (0, 0)), (by_, .cells #[a.sL, a.sN, a.sK] 25 (0, 0)), (bx, .cells #[a.sL, a.sN, a.sK] 25 (0, 0)), (b, .cells #[a.sL, a.sN, a.sK] 25 (0, 0))] := (((hT4.set 1 rfl 0 (a.sL)).set 1 rfl 1 (a.sN)).set 1 rfl 2 (a.sK))
      refine tr_store m8_7 (((X4.setCell ⟨by_, 0, none⟩ (a.sL)).setCell ⟨by_, 1, none⟩ (a.sN)).setCell ⟨by_, 2, none⟩ (a.sK)) (by kernel_rfl) rfl (by first | exact rfl | trivial) (by simp [go_sem, mkO, m8_7, hz, hc0, hc1, hc2, hu25, XP.sL, XP.sN, XP.sK]) (⟨hT5.cell 3 rfl rfl, hT5.cell 3 rfl rfl, hT5.cell 3 rfl rfl⟩) ?_; simp only [m8_7, put_none]
      clear hz hc0 hc1 hc2
      generalize (((X4.setCell ⟨by_, 0, none⟩ (a.sL)).setCell ⟨by_, 1, none⟩ (a.sN)).setCell ⟨by_, 2, none⟩ (a.sK)) = X5 at *
      clear hT4
      have hz := hT5.fz 0 rfl
      have hc0 : X5.cell? ⟨bz, 0, none⟩ = some (.slice none 0 0) := hT5.cell 0 rfl rfl
      have hc1 : X5.cell? ⟨bz, 1, none⟩ = some (.slice none 0 0) := hT5.cell 0 rfl rfl
      have hc2 : X5.cell? ⟨bz, 2, none⟩ = some (.slice none 0 0) := hT5.cell 0 rfl rfl
      have hT6 : Tr w W (((X5.setCell ⟨bz, 0, none⟩ (a.sL)).setCell ⟨bz, 1, none⟩ (a.sN)).setCell ⟨bz, 2, none⟩ (a.sK)) [(bz, .cells #[a.sL, a.sN, a.sK] 25 (0, 0)), (by_, .cells #[a.sL, a.sN, a.sK] 25 (0, 0)), (bx, .cells #[a.sL, a.sN, a.sK] 25 (0, 0)), (b, .cells #[a.sL, a.sN, a.sK] 25 (0, 0))] := (((hT5.set 0 rfl 0 (a.sL)).set 0 rfl 1 (a.sN)).set 0 rfl 2 (a.sK))
      refine tr_store m8_8 (((X5.setCell ⟨bz, 0, none⟩ (a.sL)).setCell ⟨bz, 1, none⟩ (a.sN)).setCell ⟨bz, 2, none⟩ (a.sK)) (by kernel_rfl) rfl (by first | exact rfl | trivial) (by simp [go_sem, mkO, m8_8, hz, hc0, hc1, hc2, hu25, XP.sL, XP.sN, XP.sK]) (⟨hT6.cell 3 rfl rfl, hT6.cell 3 rfl rfl, hT6.cell 3 rfl rfl⟩) ?_; simp only [m8_8, put_none]
      clear hz hc0 hc1 hc2
      generalize (((X5.setCell ⟨bz, 0, none⟩ (a.sL)).setCell ⟨bz, 1, none⟩ (a.sN)).setCell ⟨bz, 2, none⟩ (a.sK)) = X6 at *
      clear hT5
      exact hQn _ _ hT6.keep ⟨bx, by_, bz, (hT6.of (fun p hp => by simp only [List.mem_cons, List.not_mem_nil, or_false] at hp ⊢; rcases hp with rfl | rfl | rfl | rfl <;> simp) (by have := hT6.nd; simp only [List.map_cons, List.map_nil, List.nodup_cons, List.mem_cons, List.not_mem_nil, not_or, or_false, not_false_eq_true, List.nodup_nil, and_true] at this ⊢; omega)).again, (by simp only [Slots, Fits, and_self])⟩
    · have hT2 : Tr w W (X1.alloc (.cells #[.slice none 0 0, .slice none 0 0, .slice none 0 0] 25)) [(X1.heap.size, .cells #[.slice none 0 0, .slice none 0 0, .slice none 0 0] 25 (0, 0)), (bx, .cells #[.slice none 0 0, .slice none 0 0, .slice none 0 0] 25 (0, 0)), (b, .cells #[a.sL, a.sN, a.sK] 25 (0, 0))] := hT1.alloc (.cells #[.slice none 0 0, .slice none 0 0, .slice none 0 0] 25)
      refine tr_make m8_5 (.pointer (some ⟨X1.heap.size, 0, none⟩)) (X1.alloc (.cells #[.slice none 0 0, .slice none 0 0, .slice none 0 0] 25)) (by kernel_rfl) rfl (by first | exact rfl | trivial) (by simp [go_sem, mkO, m8_5, hu25]) (⟨hT2.cell 2 rfl rfl, hT2.cell 2 rfl rfl, hT2.cell 2 rfl rfl⟩) ?_; simp only [m8_5, put_eq, List.set_cons_succ, List.set_cons_zero]
      obtain ⟨bz, hgbz⟩ : ∃ b, X1.heap.size = b := ⟨_, rfl⟩
      simp only [hgbz] at hT2 ⊢
      generalize X1.alloc (.cells #[.slice none 0 0, .slice none 0 0, .slice none 0 0] 25) = X2 at *
      clear hgbz hT1
      clear X1
      have hT3 : Tr w W (X2.alloc (.cells #[.slice none 0 0, .slice none 0 0, .slice none 0 0] 25)) [(X2.heap.size, .cells #[.slice none 0 0, .slice none 0 0, .slice none 0 0] 25 (0, 0)), (bz, .cells #[.slice none 0 0, .slice none 0 0, .slice none 0 0] 25 (0, 0)), (bx, .cells #[.slice none 0 0, .slice none 0 0, .slice none 0 0] 25 (0, 0)), (b, .cells #[a.sL, a.sN, a.sK] 25 (0, 0))] := hT2.alloc (.cells #[.slice none 0 0, .slice none 0 0, .slice none 0 0] 25)
      refine tr_make m8_4 (.pointer (some ⟨X2.heap.size, 0, none⟩)) (X2.alloc (.cells #[.slice none 0 0, .slice none 0 0, .slice none 0 0] 25)) (by kernel_rfl) rfl (by first | exact rfl | trivial) (by simp [go_sem, mkO, m8_4, hu25]) (⟨hT3.cell 3 rfl rfl, hT3.cell 3 rfl rfl, hT3.cell 3 rfl rfl⟩) ?_; simp only [m8_4, put_eq, List.set_cons_succ, List.set_cons_zero]
      obtain ⟨by_, hgby_⟩ : ∃ b, X2.heap.size = b := ⟨_, rfl⟩
      simp only [hgby_] at hT3 ⊢
      generalize X2.alloc (.cells #[.slice none 0 0, .slice none 0 0, .slice none 0 0] 25) = X3 at *
      clear hgby_ hT2
      clear X2
      have hz := hT3.fz 2 rfl
      have hc0 : X3.cell? ⟨bx, 0, none⟩ = some (.slice none 0 0) := hT3.cell 2 rfl rfl
      have hc1 : X3.cell? ⟨bx, 1, none⟩ = some (.slice none 0 0) := hT3.cell 2 rfl rfl
      have hc2 : X3.cell? ⟨bx, 2, none⟩ = some (.slice none 0 0) := hT3.cell 2 rfl rfl
      have hT4 : Tr w W (((X3.setCell ⟨bx, 0, none⟩ (a.sL)).setCell ⟨bx, 1, none⟩ (a.sN)).setCell ⟨bx, 2, none⟩ (a.sK)) [(by_, .cells #[.slice none 0 0, .slice none 0 0, .slice none 0 0] 25 (0, 0)), (bz, .cells #[.slice none 0 0, .slice none 0 0, .slice none 0 0] 25 (0, 0)), (bx, .cells #[a.sL, a.sN, a.sK] 25 (0, 0)), (b, .cells #[a.sL, a.sN, a.sK] 25 (0, 0))] := (((hT3.set 2 rfl 0 (a.sL)).set 2 rfl 1 (a.sN)).set 2 rfl 2 (a.sK))
      refine tr_store m8_6 (((X3.setCell ⟨bx, 0, none⟩ (a.sL)).setCell ⟨bx, 1, none⟩ (a.sN)).setCell ⟨bx, 2, none⟩ (a.sK)) (by kernel_rfl) rfl (by first | exact rfl | trivial) (by simp [go_sem, mkO, m8_6, hz, hc0, hc1, hc2, hu25, XP.sL, XP.sN, XP.sK]) (⟨hT4.cell 3 rfl rfl, hT4.cell 3 rfl rfl, hT4.cell 3 rfl rfl⟩) ?_; simp only [m8_6, put_none]
      clear hz hc0 hc1 hc2
      generalize (((X3.setCell ⟨bx, 0, none⟩ (a.sL)).setCell ⟨bx, 1, none⟩ (a.sN)).setCell ⟨bx, 2, none⟩ (a.sK)) = X4 at *
      clear hT3
      have hz := hT4.fz 0 rfl
      have hc0 : X4.cell? ⟨by_, 0, none⟩ = some (.slice none 0 0) := hT4.cell 0 rfl rfl
      have hc1 : X4.cell? ⟨by_, 1, none⟩ = some (.slice none 0 0) := hT4.cell 0 rfl rfl
      have hc2 : X4.cell? ⟨by_, 2, none⟩ = some (.slice none 0 0) := hT4.cell 0 rfl rfl
      have hT5 : Tr w W (((X4.setCell ⟨by_, 0, none⟩ (a.sL)).setCell ⟨by_, 1, none⟩ (a.sN)).setCell ⟨by_, 2, none⟩ (a.sK)) [(by_, .cells #[a.sL, a.sN, a.sK] 25 (0, 0)), (bz, .cells #[.slice none 0 0, .slice none 0 0, .slice none 0 0] 25 (0, 0)), (bx, .cells #[a.sL, a.sN, a.sK] 25 (0, 0)), (b, .cells #[a.sL, a.sN, a.sK] 25 (0, 0))] := (((hT4.set 0 rfl 0 (a.sL)).set 0 rfl 1 (a.sN)).set 0 rfl 2 (a.sK))
      refine tr_store m8_7 (((X4.setCell ⟨by_, 0, none⟩ (a.sL)).setCell ⟨by_, 1, none⟩ (a.sN)).setCell ⟨by_, 2, none⟩ (a.sK)) (by kernel_rfl) rfl (by first | exact rfl | trivial) (by simp [go_sem, mkO, m8_7, hz, hc0, hc1, hc2, hu25, XP.sL, XP.sN, XP.sK]) (⟨hT5.cell 3 rfl rfl, hT5.cell 3 rfl rfl, hT5.cell 3 rfl rfl⟩) ?_; simp only [m8_7, put_none]
      clear hz hc0 hc1 hc2
      generalize (((X4.setCell ⟨by_, 0, none⟩ (a.sL)).setCell ⟨by_, 1, none⟩ (a.sN)).setCell ⟨by_, 2, none⟩ (a.sK)) = X5 at *
      clear hT4
      have hz := hT5.fz 1 rfl
      have hc0 : X5.cell? ⟨bz, 0, none⟩ = some (.slice none 0 0) := hT5.cell 1 rfl rfl
      have hc1 : X5.cell? ⟨bz, 1, none⟩ = some (.slice none 0 0) := hT5.cell 1 rfl rfl
      have hc2 : X5.cell? ⟨bz, 2, none⟩ = some (.slice none 0 0) := hT5.cell 1 rfl rfl
      have hT6 : Tr w W (((X5.setCell ⟨bz, 0, none⟩ (a.sL)).setCell ⟨bz, 1, none⟩ (a.sN)).setCell ⟨bz, 2, none⟩ (a.sK)) [(by_, .cells #[a.sL, a.sN, a.sK] 25 (0, 0)), (bz, .cells #[a.sL, a.sN, a.sK] 25 (0, 0)), (bx, .cells #[a.sL, a.sN, a.sK] 25 (0, 0)), (b, .cells #[a.sL, a.sN, a.sK] 25 (0, 0))] := (((hT5.set 1 rfl 0 (a.sL)).set 1 rfl 1 (a.sN)).set 1 rfl 2 (a.sK))
      refine tr_store m8_8 (((X5.setCell ⟨bz, 0, none⟩ (a.sL)).setCell ⟨bz, 1, none⟩ (a.sN)).setCell ⟨bz, 2, none⟩ (a.sK)) (by kernel_rfl) rfl (by first | exact rfl | trivial) (by simp [go_sem, mkO, m8_8, hz, hc0, hc1, hc2, hu25, XP.sL, XP.sN, XP.sK]) (⟨hT6.cell 3 rfl rfl, hT6.cell 3 rfl rfl, hT6.cell 3 rfl rfl⟩) ?_; simp only [m8_8, put_none]
      clear hz hc0 hc1 hc2
      generalize (((X5.setCell ⟨bz, 0, none⟩ (a.sL)).setCell ⟨bz, 1, none⟩ (a.sN)).setCell ⟨bz, 2, none⟩ (a.sK)) = X6 at *
      clear hT5
      exact hQn _ _ hT6.keep ⟨bx, by_, bz, (hT6.of (fun p hp => by simp only [List.mem_cons, List.not_mem_nil, or_false] at hp ⊢; rcases hp with rfl | rfl | rfl | rfl <;> simp) (by have := hT6.nd; simp only [List.map_cons, List.map_nil, List.nodup_cons, List.mem_cons, List.not_mem_nil, not_or, or_false, not_false_eq_true, List.nodup_nil, and_true] at this ⊢; omega)).again, (by simp only [Slots, Fits, and_self])⟩
  · have hT1 : Tr w W (X0.alloc (.cells #[.slice none 0 0, .slice none 0 0, .slice none 0 0] 25)) [(X0.heap.size, .cells #[.slice none 0 0, .slice none 0 0, .slice none 0 0] 25 (0, 0)), (b, .cells #[a.sL, a.sN, a.sK] 25 (0, 0))] := hT0.alloc (.cells #[.slice none 0 0, .slice none 0 0, .slice none 0 0] 25)
    refine tr_make m8_4 (.pointer (some ⟨X0.heap.size, 0, none⟩)) (X0.alloc (.cells #[.slice none 0 0, .slice none 0 0, .slice none 0 0] 25)) (by kernel_rfl) rfl (by first | exact rfl | trivial) (by simp [go_sem, mkO, m8_4, hu25]) (⟨hT1.cell 1 rfl rfl, hT1.cell 1 rfl rfl, hT1.cell 1 rfl rfl⟩) ?_; simp only [m8_4, put_eq, List.set_cons_succ, List.set_cons_zero]
    obtain ⟨by_, hgby_⟩ : ∃ b, X0.heap.size = b := ⟨_, rfl⟩
    simp only [hgby_] at hT1 ⊢
    generalize X0.alloc (.cells #[.slice none 0 0, .slice none 0 0, .slice none 0 0] 25) = X1 at *
    clear hgby_ hT0
    clear X0
    refine ⟨?_, ?_⟩
    · have hT2 : Tr w W (X1.alloc (.cells #[.slice none 0 0, .slice none 0 0, .slice none 0 0] 25)) [(X1.heap.size, .cells #[.slice none 0 0, .slice none 0 0, .slice none 0 0] 25 (0, 0)), (by_, .cells #[.slice none 0 0, .slice none 0 0, .slice none 0 0] 25 (0, 0)), (b, .cells #[a.sL, a.sN, a.sK] 25 (0, 0))] := hT1.alloc (.cells #[.slice none 0 0, .slice none 0 0, .slice none 0 0] 25)
      refine tr_make m8_3 (.pointer (some ⟨X1.heap.size, 0, none⟩)) (X1.alloc (.cells #[.slice none 0 0, .slice none 0 0, .slice none 0 0] 25)) (by kernel_rfl) rfl (by first | exact rfl | trivial) (by simp [go_sem, mkO, m8_3, hu25]) (⟨hT2.cell 2 rfl rfl, hT2.cell 2 rfl rfl, hT2.cell 2 rfl rfl⟩) ?_; simp only [m8_3, put_eq, List.set_cons_succ, List.set_cons_zero]
      obtain ⟨bx, hgbx⟩ : ∃ b, X1.heap.size = b := ⟨_, rfl⟩
      simp only [hgbx] at hT2 ⊢
      generalize X1.alloc (.cells #[.slice none 0 0, .slice none 0 0, .slice none 0 0] 25) = X2 at *
      clear hgbx hT1
      clear X1
      have hT3 : Tr w W (X2.alloc (.cells #[.slice none 0 0, .slice none 0 0, .slice none 0 0] 25)) [(X2.heap.size, .cells #[.slice none 0 0, .slice none 0 0, .slice none 0 0] 25 (0, 0)), (bx, .cells #[.slice none 0 0, .slice none 0 0, .slice none 0 0] 25 (0, 0)), (by_, .cells #[.slice none 0 0, .slice none 0 0, .slice none 0 0] 25 (0, 0)), (b, .cells #[a.sL, a.sN, a.sK] 25 (0, 0))] := hT2.alloc (.cells #[.slice none 0 0, .slice none 0 0, .slice none 0 0] 25)
      refine tr_make m8_5 (.pointer (some ⟨X2.heap.size, 0, none⟩)) (X2.alloc (.cells #[.slice none 0 0, .slice none 0 0, .slice none 0 0] 25)) (by kernel_rfl) rfl (by first | exact rfl | trivial) (by simp [go_sem, mkO, m8_5, hu25]) (⟨hT3.cell 3 rfl rfl, hT3.cell 3 rfl rfl, hT3.cell 3 rfl rfl⟩) ?_; simp only [m8_5, put_eq, List.set_cons_succ, List.set_cons_zero]
      obtain ⟨bz, hgbz⟩ : ∃ b, X2.heap.size = b := ⟨_, rfl⟩
      simp only [hgbz] at hT3 ⊢
      generalize X2.alloc (.cells #[.slice none 0 0, .slice none 0 0, .slice none 0 0] 25) = X3 at *
      clear hgbz hT2
      clear X2
      have hz := hT3.fz 1 rfl
      have hc0 : X3.cell? ⟨bx, 0, none⟩ = some (.slice none 0 0) := hT3.cell 1 rfl rfl
      have hc1 : X3.cell? ⟨bx, 1, none⟩ = some (.slice none 0 0) := hT3.cell 1 rfl rfl
      have hc2 : X3.cell? ⟨bx, 2, none⟩ = some (.slice none 0 0) := hT3.cell 1 rfl rfl
      have hT4 : Tr w W (((X3.setCell ⟨bx, 0, none⟩ (a.sL)).setCell ⟨bx, 1, none⟩ (a.sN)).setCell ⟨bx, 2, none⟩ (a.sK)) [(bz, .cells #[.slice none 0 0, .slice none 0 0, .slice none 0 0] 25 (0, 0)), (bx, .cells #[a.sL, a.sN, a.sK] 25 (0, 0)), (by_, .cells #[.slice none 0 0, .slice none 0 0, .slice none 0 0] 25 (0, 0)), (b, .cells #[a.sL, a.sN, a.sK] 25 (0, 0))] := (((hT3.set 1 rfl 0 (a.sL)).set 1 rfl 1 (a.sN)).set 1 rfl 2 (a.sK))
      refine tr_store m8_6 (((X3.setCell ⟨bx, 0, none⟩ (a.sL)).setCell ⟨bx, 1, none⟩ (a.sN)).setCell ⟨bx, 2, none⟩ (a.sK)) (by kernel_rfl) rfl (by first | exact rfl | trivial) (by simp [go_sem, mkO, m8_6, hz, hc0, hc1, hc2, hu25, XP.sL, XP.sN, XP.sK]) (⟨hT4.cell 3 rfl rfl, hT4.cell 3 rfl rfl, hT4.cell 3 rfl rfl⟩) ?_; simp only [m8_6, put_none]
      clear hz hc0 hc1 hc2
      generalize (((X3.setCell ⟨bx, 0, none⟩ (a.sL)).setCell ⟨bx, 1, none⟩ (a.sN)).setCell ⟨bx, 2, none⟩ (a.sK)) = X4 at *
      clear hT3
      have hz := hT4.fz 2 rfl
      have hc0 : X4.cell? ⟨by_, 0, none⟩ = some (.slice none 0 0) := hT4.cell 2 rfl rfl
      have hc1 : X4.cell? ⟨by_, 1, none⟩ = some (.slice none 0 0) := hT4.cell 2 rfl rfl
      have hc2 : X4.cell? ⟨by_, 2, none⟩ = some (.slice none 0 0) := hT4.cell 2 rfl rfl
      have hT5 : Tr w W (((X4.setCell ⟨by_, 0, none⟩ (a.sL)).setCell ⟨by_, 1, none⟩ (a.sN)).setCell ⟨by_, 2, none⟩ (a.sK)) [(bz, .cells #[.slice none 0 0, .slice none 0 0, .slice none 0 0] 25 (0, 0)), (bx, .cells #[a.sL, a.sN, a.sK] 25 (0, 0)), (by_, .cells #[a.sL, a.sN, a.sK] 25 (0, 0)), (b, .cells #[a.sL, a.sN, a.sK] 25 (0, 0))] := (((hT4.set 2 rfl 0 (a.sL)).set 2 rfl 1 (a.sN)).set 2 rfl 2 (a.sK))
      refine tr_store m8_7 (((X4.setCell ⟨by_, 0, none⟩ (a.sL)).setCell ⟨by_, 1, none⟩ (a.sN)).setCell ⟨by_, 2, none⟩ (a.sK)) (by kernel_rfl) rfl (by first | exact rfl | trivial) (by simp [go_sem, mkO, m8_7, hz, hc0, hc1, hc2, hu25, XP.sL, XP.sN, XP.sK]) (⟨hT5.cell 3 rfl rfl, hT5.cell 3 rfl rfl, hT5.cell 3 rfl rfl⟩) ?_; simp only [m8_7, put_none]
      clear hz hc0 hc1 hc2
      generalize (((X4.setCell ⟨by_, 0, none⟩ (a.sL)).setCell ⟨by_, 1, none⟩ (a.sN)).setCell ⟨by_, 2, none⟩ (a.sK)) = X5 at *
      clear hT4
      have hz := hT5.fz 0 rfl
      have hc0 : X5.cell? ⟨bz, 0, none⟩ = some (.slice none 0 0) := hT5.cell 0 rfl rfl
      have hc1 : X5.cell? ⟨bz, 1, none⟩ = some (.slice none 0 0) := hT5.cell 0 rfl rfl
      have hc2 : X5.cell? ⟨bz, 2, none⟩ = some (.slice none 0 0) := hT5.cell 0 rfl rfl
      have hT6 : Tr w W (((X5.setCell ⟨bz, 0, none⟩ (a.sL)).setCell ⟨bz, 1, none⟩ (a.sN)).setCell ⟨bz, 2, none⟩ (a.sK)) [(bz, .cells #[a.sL, a.sN, a.sK] 25 (0, 0)), (bx, .cells #[a.sL, a.sN, a.sK] 25 (0, 0)), (by_, .cells #[a.sL, a.sN, a.sK] 25 (0, 0)), (b, .cells #[a.sL, a.sN, a.sK] 25 (0, 0))] := (((hT5.set 0 rfl 0 (a.sL)).set 0 rfl 1 (a.sN)).set 0 rfl 2 (a.sK))
      refine tr_store m8_8 (((X5.setCell ⟨bz, 0, none⟩ (a.sL)).setCell ⟨bz, 1, none⟩ (a.sN)).setCell ⟨bz, 2, none⟩ (a.sK)) (by kernel_rfl) rfl (by first | exact rfl | trivial) (by simp [go_sem, mkO, m8_8, hz, hc0, hc1, hc2, hu25, XP.sL, XP.sN, XP.sK]) (⟨hT6.cell 3 rfl rfl, hT6.cell 3 rfl rfl, hT6.cell 3 rfl rfl⟩) ?_; simp only [m8_8, put_none]
      clear hz hc0 hc1 hc2
      generalize (((X5.setCell ⟨bz, 0, none⟩ (a.sL)).setCell ⟨bz, 1, none⟩ (a.sN)).setCell ⟨bz, 2, none⟩ (a.sK)) = X6 at *
      clear hT5
      exact hQn _ _ hT6.keep ⟨bx, by_, bz, (hT6.of (fun p hp => by simp only [List.mem_cons, List.not_mem_nil, or_false] at hp ⊢; rcases hp with rfl | rfl | rfl | rfl <;> simp) (by have := hT6.nd; simp only [List.map_cons, List.map_nil, List.nodup_cons, List.mem_cons, List.not_mem_nil, not_or, or_false, not_false_eq_true, List.nodup_nil, and_true] at this ⊢; omega)).again, (by simp only [Slots, Fits, and_self])⟩
    · have hT2 : Tr w W (X1.alloc (.cells #[.slice none 0 0, .slice none 0 0, .slice none 0 0] 25)) [(X1.heap.size, .cells #[.slice none 0 0, .slice none 0 0, .slice none 0 0] 25 (0, 0)), (by_, .cells #[.slice none 0 0, .slice none 0 0, .slice none 0 0] 25 (0, 0)), (b, .cells #[a.sL, a.sN, a.sK] 25 (0, 0))] := hT1.alloc (.cells #[.slice none 0 0, .slice none 0 0, .slice none 0 0] 25)
      refine tr_make m8_5 (.pointer (some ⟨X1.heap.size, 0, none⟩)) (X1.alloc (.cells #[.slice none 0 0, .slice none 0 0, .slice none 0 0] 25)) (by kernel_rfl) rfl (by first | exact rfl | trivial) (by simp [go_sem, mkO, m8_5, hu25]) (⟨hT2.cell 2 rfl rfl, hT2.cell 2 rfl rfl, hT2.cell 2 rfl rfl⟩) ?_; simp only [m8_5, put_eq, List.set_cons_succ, List.set_cons_zero]
      obtain ⟨bz, hgbz⟩ : ∃ b, X1.heap.size = b := ⟨_, rfl⟩
      simp only [hgbz] at hT2 ⊢
      generalize X1.alloc (.cells #[.slice none 0 0, .slice none 0 0, .slice none 0 0] 25) = X2 at *
      clear hgbz hT1
      clear X1
      have hT3 : Tr w W (X2.alloc (.cells #[.slice none 0 0, .slice none 0 0, .slice none 0 0] 25)) [(X2.heap.size, .cells #[.slice none 0 0, .slice none 0 0, .slice none 0 0] 25 (0, 0)), (bz, .cells #[.slice none 0 0, .slice none 0 0, .slice none 0 0] 25 (0, 0)), (by_, .cells #[.slice none 0 0, .slice none 0 0, .slice none 0 0] 25 (0, 0)), (b, .cells #[a.sL, a.sN, a.sK] 25 (0, 0))] := hT2.alloc (.cells #[.slice none 0 0, .slice none 0 0, .slice none 0 0] 25)
      refine tr_make m8_3 (.pointer (some ⟨X2.heap.size, 0, none⟩)) (X2.alloc (.cells #[.slice none 0 0, .slice none 0 0, .slice none 0 0] 25)) (by kernel_rfl) rfl (by first | exact rfl | trivial) (by simp [go_sem, mkO, m8_3, hu25]) (⟨hT3.cell 3 rfl rfl, hT3.cell 3 rfl rfl, hT3.cell 3 rfl rfl⟩) ?_; simp only [m8_3, put_eq, List.set_cons_succ, List.set_cons_zero]
      obtain ⟨bx, hgbx⟩ : ∃ b, X2.heap.size = b := ⟨_, rfl⟩
      simp only [hgbx] at hT3 ⊢
      generalize X2.alloc (.cells #[.slice none 0 0, .slice none 0 0, .slice none 0 0] 25) = X3 at *
      clear hgbx hT2
      clear X2
      have hz := hT3.fz 0 rfl
      have hc0 : X3.cell? ⟨bx, 0, none⟩ = some (.slice none 0 0) := hT3.cell 0 rfl rfl
      have hc1 : X3.cell? ⟨bx, 1, none⟩ = some (.slice none 0 0) := hT3.cell 0 rfl rfl
      have hc2 : X3.cell? ⟨bx, 2, none⟩ = some (.slice none 0 0) := hT3.cell 0 rfl rfl
      have hT4 : Tr w W (((X3.setCell ⟨bx, 0, none⟩ (a.sL)).setCell ⟨bx, 1, none⟩ (a.sN)).setCell ⟨bx, 2, none⟩ (a.sK)) [(bx, .cells #[a.sL, a.sN, a.sK] 25 (0, 0)), (bz, .cells #[.slice none 0 0, .slice none 0 0, .slice none 0 0] 25 (0, 0)), (by_, .cells #[.slice none 0 0, .slice none 0 0, .slice none 0 0] 25 (0, 0)), (b, .cells #[a.sL, a.sN, a.sK] 25 (0, 0))] := (((hT3.set 0 rfl 0 (a.sL)).set 0 rfl 1 (a.sN)).set 0 rfl 2 (a.sK))
      refine tr_store m8_6 (((X3.setCell ⟨bx, 0, none⟩ (a.sL)).setCell ⟨bx, 1, none⟩ (a.sN)).setCell ⟨bx, 2, none⟩ (a.sK)) (by kernel_rfl) rfl (by first | exact rfl | trivial) (by simp [go_sem, mkO, m8_6, hz, hc0, hc1, hc2, hu25, XP.sL, XP.sN, XP.sK]) (⟨hT4.cell 3 rfl rfl, hT4.cell 3 rfl rfl, hT4.cell 3 rfl rfl⟩) ?_; simp only [m8_6, put_none]
      clear hz hc0 hc1 hc2
      generalize (((X3.setCell ⟨bx, 0, none⟩ (a.sL)).setCell ⟨bx, 1, none⟩ (a.sN)).setCell ⟨bx, 2, none⟩ (a.sK)) = X4 at *
      clear hT3
      have hz := hT4.fz 2 rfl
      have hc0 : X4.cell? ⟨by_, 0, none⟩ = some (.slice none 0 0) := hT4.cell 2 rfl rfl
      have hc1 : X4.cell? ⟨by_, 1, none⟩ = some (.slice none 0 0) := hT4.cell 2 rfl rfl
      have hc2 : X4.cell? ⟨by_, 2, none⟩ = some (.slice none 0 0) := hT4.cell 2 rfl rfl
      have hT5 : Tr w W (((X4.setCell ⟨by_, 0, none⟩ (a.sL)).setCell ⟨by_, 1, none⟩ (a.sN)).setCell ⟨by_, 2, none⟩ (a.sK)) [(bx, .cells #[a.sL, a.sN, a.sK] 25 (0, 0)), (bz, .cells #[.slice none 0 0, .slice none 0 0, .slice none 0 0] 25 (0, 0)), (by_, .cells #[a.sL, a.sN, a.sK] 25 (0, 0)), (b, .cells #[a.sL, a.sN, a.sK] 25 (0, 0))] := (((hT4.set 2 rfl 0 (a.sL)).set 2 rfl 1 (a.sN)).set 2 rfl 2 (a.sK))
      refine tr_store m8_7 (((X4.setCell ⟨by_, 0, none⟩ (a.sL)).setCell ⟨by_, 1, none⟩ (a.sN)).setCell ⟨by_, 2, none⟩ (a.sK)) (by kernel_rfl) rfl (by first | exact rfl | trivial) (by simp [go_sem, mkO, m8_7, hz, hc0, hc1, hc2, hu25, XP.sL, XP.sN, XP.sK]) (⟨hT5.cell 3 rfl rfl, hT5.cell 3 rfl rfl, hT5.cell 3 rfl rfl⟩) ?_; simp only [m8_7, put_none]
      clear hz hc0 hc1 hc2
      generalize (((X4.setCell ⟨by_, 0, none⟩ (a.sL)).setCell ⟨by_, 1, none⟩ (a.sN)).setCell ⟨by_, 2, none⟩ (a.sK)) = X5 at *
      clear hT4
      have hz := hT5.fz 1 rfl
      have hc0 : X5.cell? ⟨bz, 0, none⟩ = some (.slice none 0 0) := hT5.cell 1 rfl rfl
      have hc1 : X5.cell? ⟨bz, 1, none⟩ = some (.slice none 0 0) := hT5.cell 1 rfl rfl
      have hc2 : X5.cell? ⟨bz, 2, none⟩ = some (.slice none 0 0) := hT5.cell 1 rfl rfl
      have hT6 : Tr w W (((X5.setCell ⟨bz, 0, none⟩ (a.sL)).setCell ⟨bz, 1, none⟩ (a.sN)).setCell ⟨bz, 2, none⟩ (a.sK)) [(bx, .cells #[a.sL, a.sN, a.sK] 25 (0, 0)), (bz, .cells #[a.sL, a.sN, a.sK] 25 (0, 0)), (by_, .cells #[a.sL, a.sN, a.sK] 25 (0, 0)), (b, .cells #[a.sL, a.sN, a.sK] 25 (0, 0))] := (((hT5.set 1 rfl 0 (a.sL)).set 1 rfl 1 (a.sN)).set 1 rfl 2 (a.sK))
      refine tr_store m8_8 (((X5.setCell ⟨bz, 0, none⟩ (a.sL)).setCell ⟨bz, 1, none⟩ (a.sN)).setCell ⟨bz, 2, none⟩ (a.sK)) (by kernel_rfl) rfl (by first | exact rfl | trivial) (by simp [go_sem, mkO, m8_8, hz, hc0, hc1, hc2, hu25, XP.sL, XP.sN, XP.sK]) (⟨hT6.cell 3 rfl rfl, hT6.cell 3 rfl rfl, hT6.cell 3 rfl rfl⟩) ?_; simp only [m8_8, put_none]
      clear hz hc0 hc1 hc2
      generalize (((X5.setCell ⟨bz, 0, none⟩ (a.sL)).setCell ⟨bz, 1, none⟩ (a.sN)).setCell ⟨bz, 2, none⟩ (a.sK)) = X6 at *
      clear hT5
      exact hQn _ _ hT6.keep ⟨bx, by_, bz, (hT6.of (fun p hp => by simp only [List.mem_cons, List.not_mem_nil, or_false] at hp ⊢; rcases hp with rfl | rfl | rfl | rfl <;> simp) (by have := hT6.nd; simp only [List.map_cons, List.map_nil, List.nodup_cons, List.mem_cons, List.not_mem_nil, not_or, or_false, not_false_eq_true, List.nodup_nil, and_true] at this ⊢; omega)).again, (by simp only [Slots, Fits, and_self])⟩
  · have hT1 : Tr w W (X0.alloc (.cells #[.slice none 0 0, .slice none 0 0, .slice none 0 0] 25)) [(X0.heap.size, .cells #[.slice none 0 0, .slice none 0 0, .slice none 0 0] 25 (0, 0)), (b, .cells #[a.sL, a.sN, a.sK] 25 (0, 0))] := hT0.alloc (.cells #[.slice none 0 0, .slice none 0 0, .slice none 0 0] 25)
    refine tr_make m8_5 (.pointer (some ⟨X0.heap.size, 0, none⟩)) (X0.alloc (.cells #[.slice none 0 0, .slice none 0 0, .slice none 0 0] 25)) (by kernel_rfl) rfl (by first | exact rfl | trivial) (by simp [go_sem, mkO, m8_5, hu25]) (⟨hT1.cell 1 rfl rfl, hT1.cell 1 rfl rfl, hT1.cell 1 rfl rfl⟩) ?_; simp only [m8_5, put_eq, List.set_cons_succ, List.set_cons_zero]
    obtain ⟨bz, hgbz⟩ : ∃ b, X0.heap.size = b := ⟨_, rfl⟩
    simp only [hgbz] at hT1 ⊢
    generalize X0.alloc (.cells #[.slice none 0 0, .slice none 0 0, .slice none 0 0] 25) = X1 at *
    clear hgbz hT0
    clear X0
    refine ⟨?_, ?_⟩
    · have hT2 : Tr w W (X1.alloc (.cells #[.slice none 0 0, .slice none 0 0, .slice none 0 0] 25)) [(X1.heap.size, .cells #[.slice none 0 0, .slice none 0 0, .slice none 0 0] 25 (0, 0)), (bz, .cells #[.slice none 0 0, .slice none 0 0, .slice none 0 0] 25 (0, 0)), (b, .cells #[a.sL, a.sN, a.sK] 25 (0, 0))] := hT1.alloc (.cells #[.slice none 0 0, .slice none 0 0, .slice none 0 0] 25)
      refine tr_make m8_3 (.pointer (some ⟨X1.heap.size, 0, none⟩)) (X1.alloc (.cells #[.slice none 0 0, .slice none 0 0, .slice none 0 0] 25)) (by kernel_rfl) rfl (by first | exact rfl | trivial) (by simp [go_sem, mkO, m8_3, hu25]) (⟨hT2.cell 2 rfl rfl, hT2.cell 2 rfl rfl, hT2.cell 2 rfl rfl⟩) ?_; simp only [m8_3, put_eq, List.set_cons_succ, List.set_cons_zero]
      obtain ⟨bx, hgbx⟩ : ∃ b, X1.heap.size = b := ⟨_, rfl⟩
      simp only [hgbx] at hT2 ⊢
      generalize X1.alloc (.cells #[.slice none 0 0, .slice none 0 0, .slice none 0 0] 25) = X2 at *
      clear hgbx hT1
      clear X1
      have hT3 : Tr w W (X2.alloc (.cells #[.slice none 0 0, .slice none 0 0, .slice none 0 0] 25)) [(X2.heap.size, .cells #[.slice none 0 0, .slice none 0 0, .slice none 0 0] 25 (0, 0)), (bx, .cells #[.slice none 0 0, .slice none 0 0, .slice none 0 0] 25 (0, 0)), (bz, .cells #[.slice none 0 0, .slice none 0 0, .slice none 0 0] 25 (0, 0)), (b, .cells #[a.sL, a.sN, a.sK] 25 (0, 0))] := hT2.alloc (.cells #[.slice none 0 0, .slice none 0 0, .slice none 0 0] 25)
      refine tr_make m8_4 (.pointer (some ⟨X2.heap.size, 0, none⟩)) (X2.alloc (.cells #[.slice none 0 0, .slice none 0 0, .slice none 0 0] 25)) (by kernel_rfl) rfl (by first | exact rfl | trivial) (by simp [go_sem, mkO, m8_4, hu25]) (⟨hT3.cell 3 rfl rfl, hT3.cell 3 rfl rfl, hT3.cell 3 rfl rfl⟩) ?_; simp only [m8_4, put_eq, List.set_cons_succ, List.set_cons_zero]
      obtain ⟨by_, hgby_⟩ : ∃ b, X2.heap.size = b := ⟨_, rfl⟩
      simp only [hgby_] at hT3 ⊢
      generalize X2.alloc (.cells #[.slice none 0 0, .slice none 0 0, .slice none 0 0] 25) = X3 at *
      clear hgby_ hT2
      clear X2
      have hz := hT3.fz 1 rfl
      have hc0 : X3.cell? ⟨bx, 0, none⟩ = some (.slice none 0 0) := hT3.cell 1 rfl rfl
      have hc1 : X3.cell? ⟨bx, 1, none⟩ = some (.slice none 0 0) := hT3.cell 1 rfl rfl
      have hc2 : X3.cell? ⟨bx, 2, none⟩ = some (.slice none 0 0) := hT3.cell 1 rfl rfl
      have hT4 : Tr w W (((X3.setCell ⟨bx, 0, none⟩ (a.sL)).setCell ⟨bx, 1, none⟩ (a.sN)).setCell ⟨bx, 2, none⟩ (a.sK)) [(by_, .cells #[.slice none 0 0, .slice none 0 0, .slice none 0 0] 25 (0, 0)), (bx, .cells #[a.sL, a.sN, a.sK] 25 (0, 0)), (bz, .cells #[.slice none 0 0, .slice none 0 0, .slice none 0 0] 25 (0, 0)), (b, .cells #[a.sL, a.sN, a.sK] 25 (0, 0))] := (((hT3.set 1 rfl 0 (a.sL)).set 1 rfl 1 (a.sN)).set 1 rfl 2 (a.sK))
      refine tr_store m8_6 (((X3.setCell ⟨bx, 0, none⟩ (a.sL)).setCell ⟨bx, 1, none⟩ (a.sN)).setCell ⟨bx, 2, none⟩ (a.sK)) (by kernel_rfl) rfl (by first | exact rfl | trivial) (by simp [go_sem, mkO, m8_6, hz, hc0, hc1, hc2, hu25, XP.sL, XP.sN, XP.sK]) (⟨hT4.cell 3 rfl rfl, hT4.cell 3 rfl rfl, hT4.cell 3 rfl rfl⟩) ?_; simp only [m8_6, put_none]
      clear hz hc0 hc1 hc2
      generalize (((X3.setCell ⟨bx, 0, none⟩ (a.sL)).setCell ⟨bx, 1, none⟩ (a.sN)).setCell ⟨bx, 2, none⟩ (a.sK)) = X4 at *
      clear hT3
      have hz := hT4.fz 0 rfl
      have hc0 : X4.cell? ⟨by_, 0, none⟩ = some (.slice none 0 0) := hT4.cell 0 rfl rfl
      have hc1 : X4.cell? ⟨by_, 1, none⟩ = some (.slice none 0 0) := hT4.cell 0 rfl rfl
      have hc2 : X4.cell? ⟨by_, 2, none⟩ = some (.slice none 0 0) := hT4.cell 0 rfl rfl
      have hT5 : Tr w W (((X4.setCell ⟨by_, 0, none⟩ (a.sL)).setCell ⟨by_, 1, none⟩ (a.sN)).setCell ⟨by_, 2, none⟩ (a.sK)) [(by_, .cells #[a.sL, a.sN, a.sK] 25 (0, 0)), (bx, .cells #[a.sL, a.sN, a.sK] 25 (0, 0)), (bz, .cells #[.slice none 0 0, .slice none 0 0, .slice none 0 0] 25 (0, 0)), (b, .cells #[a.sL, a.sN, a.sK] 25 (0, 0))] := (((hT4.set 0 rfl 0 (a.sL)).set 0 rfl 1 (a.sN)).set 0 rfl 2 (a.sK))
      refine tr_store m8_7 (((X4.setCell ⟨by_, 0, none⟩ (a.sL)).setCell ⟨by_, 1, none⟩ (a.sN)).setCell ⟨by_, 2, none⟩ (a.sK)) (by kernel_rfl) rfl (by first | exact rfl | trivial) (by simp [go_sem, mkO, m8_7, hz, hc0, hc1, hc2, hu25, XP.sL, XP.sN, XP.sK]) (⟨hT5.cell 3 rfl rfl, hT5.cell 3 rfl rfl, hT5.cell 3 rfl rfl⟩) ?_; simp only [m8_7, put_none]
      clear hz hc0 hc1 hc2
      generalize (((X4.setCell ⟨by_, 0, none⟩ (a.sL)).setCell ⟨by_, 1, none⟩ (a.sN)).setCell ⟨by_, 2, none⟩ (a.sK)) = X5 at *
      clear hT4
      have hz := hT5.fz 2 rfl
      have hc0 : X5.cell? ⟨bz, 0, none⟩ = some (.slice none 0 0) := hT5.cell 2 rfl rfl
      have hc1 : X5.cell? ⟨bz, 1, none⟩ = some (.slice none 0 0) := hT5.cell 2 rfl rfl
      have hc2 : X5.cell? ⟨bz, 2, none⟩ = some (.slice none 0 0) := hT5.cell 2 rfl rfl
      have hT6 : Tr w W (((X5.setCell ⟨bz, 0, none⟩ (a.sL)).setCell ⟨bz, 1, none⟩ (a.sN)).setCell ⟨bz, 2, none⟩ (a.sK)) [(by_, .cells #[a.sL, a.sN, a.sK] 25 (0, 0)), (bx, .cells #[a.sL, a.sN, a.sK] 25 (0, 0)), (bz, .cells #[a.sL, a.sN, a.sK] 25 (0, 0)), (b, .cells #[a.sL, a.sN, a.sK] 25 (0, 0))] := (((hT5.set 2 rfl 0 (a.sL)).set 2 rfl 1 (a.sN)).set 2 rfl 2 (a.sK))
      refine tr_store m8_8 (((X5.setCell ⟨bz, 0, none⟩ (a.sL)).setCell ⟨bz, 1, none⟩ (a.sN)).setCell ⟨bz, 2, none⟩ (a.sK)) (by kernel_rfl) rfl (by first | exact rfl | trivial) (by simp [go_sem, mkO, m8_8, hz, hc0, hc1, hc2, hu25, XP.sL, XP.sN, XP.sK]) (⟨hT6.cell 3 rfl rfl, hT6.cell 3 rfl rfl, hT6.cell 3 rfl rfl⟩) ?_; simp only [m8_8, put_none]
      clear hz hc0 hc1 hc2
      generalize (((X5.setCell ⟨bz, 0, none⟩ (a.sL)).setCell ⟨bz, 1, none⟩ (a.sN)).setCell ⟨bz, 2, none⟩ (a.sK)) = X6 at *
      clear hT5
      exact hQn _ _ hT6.keep ⟨bx, by_, bz, (hT6.of (fun p hp => by simp only [List.mem_cons, List.not_mem_nil, or_false] at hp ⊢; rcases hp with rfl | rfl | rfl | rfl <;> simp) (by have := hT6.nd; simp only [List.map_cons, List.map_nil, List.nodup_cons, List.mem_cons, List.not_mem_nil, not_or, or_false, not_false_eq_true, List.nodup_nil, and_true] at this ⊢; omega)).again, (by simp only [Slots, Fits, and_self])⟩
    · have hT2 : Tr w W (X1.alloc (.cells #[.slice none 0 0, .slice none 0 0, .slice none 0 0] 25)) [(X1.heap.size, .cells #[.slice none 0 0, .slice none 0 0, .slice none 0 0] 25 (0, 0)), (bz, .cells #[.slice none 0 0, .slice none 0 0, .slice none 0 0] 25 (0, 0)), (b, .cells #[a.sL, a.sN, a.sK] 25 (0, 0))] := hT1.alloc (.cells #[.slice none 0 0, .slice none 0 0, .slice none 0 0] 25)
      refine tr_make m8_4 (.pointer (some ⟨X1.heap.size, 0, none⟩)) (X1.alloc (.cells #[.slice none 0 0, .slice none 0 0, .slice none 0 0] 25)) (by kernel_rfl) rfl (by first | exact rfl | trivial) (by simp [go_sem, mkO, m8_4, hu25]) (⟨hT2.cell 2 rfl rfl, hT2.cell 2 rfl rfl, hT2.cell 2 rfl rfl⟩) ?_; simp only [m8_4, put_eq, List.set_cons_succ, List.set_cons_zero]
      obtain ⟨by_, hgby_⟩ : ∃ b, X1.heap.size = b := ⟨_, rfl⟩
      simp only [hgby_] at hT2 ⊢
      generalize X1.alloc (.cells #[.slice none 0 0, .slice none 0 0, .slice none 0 0] 25) = X2 at *
      clear hgby_ hT1
      clear X1
      have hT3 : Tr w W (X2.alloc (.cells #[.slice none 0 0, .slice none 0 0, .slice none 0 0] 25)) [(X2.heap.size, .cells #[.slice none 0 0, .slice none 0 0, .slice none 0 0] 25 (0, 0)), (by_, .cells #[.slice none 0 0, .slice none 0 0, .slice none 0 0] 25 (0, 0)), (bz, .cells #[.slice none 0 0, .slice none 0 0, .slice none 0 0] 25 (0, 0)), (b, .cells #[a.sL, a.sN, a.sK] 25 (0, 0))] := hT2.alloc (.cells #[.slice none 0 0, .slice none 0 0, .slice none 0 0] 25)
      refine tr_make m8_3 (.pointer (some ⟨X2.heap.size, 0, none⟩)) (X2.alloc (.cells #[.slice none 0 0, .slice none 0 0, .slice none 0 0] 25)) (by kernel_rfl) rfl (by first | exact rfl | trivial) (by simp [go_sem, mkO, m8_3, hu25]) (⟨hT3.cell 3 rfl rfl, hT3.cell 3 rfl rfl, hT3.cell 3 rfl rfl⟩) ?_; simp only [m8_3, put_eq, List.set_cons_succ, List.set_cons_zero]
      obtain ⟨bx, hgbx⟩ : ∃ b, X2.heap.size = b := ⟨_, rfl⟩
      simp only [hgbx] at hT3 ⊢
      generalize X2.alloc (.cells #[.slice none 0 0, .slice none 0 0, .slice none 0 0] 25) = X3 at *
      clear hgbx hT2
      clear X2
      have hz := hT3.fz 0 rfl
      have hc0 : X3.cell? ⟨bx, 0, none⟩ = some (.slice none 0 0) := hT3.cell 0 rfl rfl
      have hc1 : X3.cell? ⟨bx, 1, none⟩ = some (.slice none 0 0) := hT3.cell 0 rfl rfl
      have hc2 : X3.cell? ⟨bx, 2, none⟩ = some (.slice none 0 0) := hT3.cell 0 rfl rfl
      have hT4 : Tr w W (((X3.setCell ⟨bx, 0, none⟩ (a.sL)).setCell ⟨bx, 1, none⟩ (a.sN)).setCell ⟨bx, 2, none⟩ (a.sK)) [(bx, .cells #[a.sL, a.sN, a.sK] 25 (0, 0)), (by_, .cells #[.slice none 0 0, .slice none 0 0, .slice none 0 0] 25 (0, 0)), (bz, .cells #[.slice none 0 0, .slice none 0 0, .slice none 0 0] 25 (0, 0)), (b, .cells #[a.sL, a.sN, a.sK] 25 (0, 0))] := (((hT3.set 0 rfl 0 (a.sL)).set 0 rfl 1 (a.sN)).set 0 rfl 2 (a.sK))
      refine tr_store m8_6 (((X3.setCell ⟨bx, 0, none⟩ (a.sL)).setCell ⟨bx, 1, none⟩ (a.sN)).setCell ⟨bx, 2, none⟩ (a.sK)) (by kernel_rfl) rfl (by first | exact rfl | trivial) (by simp [go_sem, mkO, m8_6, hz, hc0, hc1, hc2, hu25, XP.sL, XP.sN, XP.sK]) (⟨hT4.cell 3 rfl rfl, hT4.cell 3 rfl rfl, hT4.cell 3 rfl rfl⟩) ?_; simp only [m8_6, put_none]
      clear hz hc0 hc1 hc2
      generalize (((X3.setCell ⟨bx, 0, none⟩ (a.sL)).setCell ⟨bx, 1, none⟩ (a.sN)).setCell ⟨bx, 2, none⟩ (a.sK)) = X4 at *
      clear hT3
      have hz := hT4.fz 1 rfl
      have hc0 : X4.cell? ⟨by_, 0, none⟩ = some (.slice none 0 0) := hT4.cell 1 rfl rfl
      have hc1 : X4.cell? ⟨by_, 1, none⟩ = some (.slice none 0 0) := hT4.cell 1 rfl rfl
      have hc2 : X4.cell? ⟨by_, 2, none⟩ = some (.slice none 0 0) := hT4.cell 1 rfl rfl
      have hT5 : Tr w W (((X4.setCell ⟨by_, 0, none⟩ (a.sL)).setCell ⟨by_, 1, none⟩ (a.sN)).setCell ⟨by_, 2, none⟩ (a.sK)) [(bx, .cells #[a.sL, a.sN, a.sK] 25 (0, 0)), (by_, .cells #[a.sL, a.sN, a.sK] 25 (0, 0)), (bz, .cells #[.slice none 0 0, .slice none 0 0, .slice none 0 0] 25 (0, 0)), (b, .cells #[a.sL, a.sN, a.sK] 25 (0, 0))] := (((hT4.set 1 rfl 0 (a.sL)).set 1 rfl 1 (a.sN)).set 1 rfl 2 (a.sK))
      refine tr_store m8_7 (((X4.setCell ⟨by_, 0, none⟩ (a.sL)).setCell ⟨by_, 1, none⟩ (a.sN)).setCell ⟨by_, 2, none⟩ (a.sK)) (by kernel_rfl) rfl (by first | exact rfl | trivial) (by simp [go_sem, mkO, m8_7, hz, hc0, hc1, hc2, hu25, XP.sL, XP.sN, XP.sK]) (⟨hT5.cell 3 rfl rfl, hT5.cell 3 rfl rfl, hT5.cell 3 rfl rfl⟩) ?_; simp only [m8_7, put_none]
      clear hz hc0 hc1 hc2
      generalize (((X4.setCell ⟨by_, 0, none⟩ (a.sL)).setCell ⟨by_, 1, none⟩ (a.sN)).setCell ⟨by_, 2, none⟩ (a.sK)) = X5 at *
      clear hT4
      have hz := hT5.fz 2 rfl
      have hc0 : X5.cell? ⟨bz, 0, none⟩ = some (.slice none 0 0) := hT5.cell 2 rfl rfl
      have hc1 : X5.cell? ⟨bz, 1, none⟩ = some (.slice none 0 0) := hT5.cell 2 rfl rfl
      have hc2 : X5.cell? ⟨bz, 2, none⟩ = some (.slice none 0 0) := hT5.cell 2 rfl rfl
      have hT6 : Tr w W (((X5.setCell ⟨bz, 0, none⟩ (a.sL)).setCell ⟨bz, 1, none⟩ (a.sN)).setCell ⟨bz, 2, none⟩ (a.sK)) [(bx, .cells #[a.sL, a.sN, a.sK] 25 (0, 0)), (by_, .cells #[a.sL, a.sN, a.sK] 25 (0, 0)), (bz, .cells #[a.sL, a.sN, a.sK] 25 (0, 0)), (b, .cells #[a.sL, a.sN, a.sK] 25 (0, 0))] := (((hT5.set 2 rfl 0 (a.sL)).set 2 rfl 1 (a.sN)).set 2 rfl 2 (a.sK))
      refine tr_store m8_8 (((X5.setCell ⟨bz, 0, none⟩ (a.sL)).setCell ⟨bz, 1, none⟩ (a.sN)).setCell ⟨bz, 2, none⟩ (a.sK)) (by kernel_rfl) rfl (by first | exact rfl | trivial) (by simp [go_sem, mkO, m8_8, hz, hc0, hc1, hc2, hu25, XP.sL, XP.sN, XP.sK]) (⟨hT6.cell 3 rfl rfl, hT6.cell 3 rfl rfl, hT6.cell 3 rfl rfl⟩) ?_; simp only [m8_8, put_none]
      clear hz hc0 hc1 hc2
      generalize (((X5.setCell ⟨bz, 0, none⟩ (a.sL)).setCell ⟨bz, 1, none⟩ (a.sN)).setCell ⟨bz, 2, none⟩ (a.sK)) = X6 at *
      clear hT5
      exact hQn _ _ hT6.keep ⟨bx, by_, bz, (hT6.of (fun p hp => by simp only [List.mem_cons, List.not_mem_nil, or_false] at hp ⊢; rcases hp with rfl | rfl | rfl | rfl <;> simp) (by have := hT6.nd; simp only [List.map_cons, List.map_nil, List.nodup_cons, List.mem_cons, List.not_mem_nil, not_or, or_false, not_false_eq_true, List.nodup_nil, and_true] at this ⊢; omega)).again, (by simp only [Slots, Fits, and_self])⟩
def m8b1t : It := ⟨(Op.fieldAddr 25 (Operand.tmp 2) 0), some 40, 0, true, none⟩
def m8b2t : It := ⟨(Op.load 22 (Operand.tmp 40)), some 41, 22, true, none⟩
def m8b5t : It := ⟨(Op.fieldAddr 25 (Operand.tmp 2) 1), some 44, 0, true, none⟩
def m8b6t : It := ⟨(Op.load 22 (Operand.tmp 44)), some 45, 22, true, none⟩
def m8b0 : It := ⟨(Op.buildSlice 22 0 #[]), some 39, 22, false, none⟩
def m8b3 : It := ⟨(Op.call { callee := (Callee.builtin Builtin.append), args := #[(Operand.tmp 39), (Operand.tmp 41)], argTypes := #[22, 22] }), some 42, 22, false, none⟩
def m8b8t : It := ⟨(Op.fieldAddr 25 (Operand.tmp 5) 0), some 47, 0, true, none⟩
def m8b4 : It := ⟨(Op.buildSlice 22 0 #[]), some 43, 22, false, none⟩
def m8b7 : It := ⟨(Op.call { callee := (Callee.builtin Builtin.append), args := #[(Operand.tmp 43), (Operand.tmp 45)], argTypes := #[22, 22] }), some 46, 22, false, none⟩
def m8b9 : It := ⟨(Op.store 22 (Operand.tmp 47) (Operand.tmp 42)), none, 0, false, none⟩
def m8b10 : It := ⟨(Op.fieldAddr 25 (Operand.tmp 6) 1), some 48, 0, false, none⟩
def m8b11 : It := ⟨(Op.store 22 (Operand.tmp 48) (Operand.tmp 46)), none, 0, false, none⟩
set_option maxRecDepth 100000 in
set_option maxHeartbeats 4000000 in
theorem mo_r4 {w W : World} {a : XP} {b bx by_ bz : Nat} {v1 : Value} (ha : a.At w) (hT : Tr w W W [(b, .cells #[a.sL, a.sN, a.sK] 25 (0, 0)), (bx, .cells #[a.sL, a.sN, a.sK] 25 (0, 0)), (by_, .cells #[a.sL, a.sN, a.sK] 25 (0, 0)), (bz, .cells #[a.sL, a.sN, a.sK] 25 (0, 0))]) (t : Array Value) (hSl : Slots (none :: some (v1) :: some (.pointer (some ⟨b, 0, none⟩)) :: none :: some (.bool false) :: some (.pointer (some ⟨bx, 0, none⟩)) :: some (.pointer (some ⟨by_, 0, none⟩)) :: some (.pointer (some ⟨bz, 0, none⟩)) :: o16 (o64 (o64 (o64 [])))) t) :
    Exec Try.prog none (sub (Try.f8.body.getD .skip) [1, 1, 1, 0]) t W (andThen (fun t' W' => ∃ gL cL cuL gN cN cuN, Tr w W' W' [(b, .cells #[a.sL, a.sN, a.sK] 25 (0, 0)), (bx, .cells #[.slice (some ⟨gL, 0, none⟩) a.L.length cL, a.sN, a.sK] 25 (0, 0)), (by_, .cells #[a.sL, .slice (some ⟨gN, 0, none⟩) a.N.length cN, a.sK] 25 (0, 0)), (bz, .cells #[a.sL, a.sN, a.sK] 25 (0, 0)), (gL, .cells (cuL).toArray 3 (0, 0)), (gN, .cells (cuN).toArray 3 (0, 0))] ∧ Pre cuL (a.L.map vi) ∧ Pre cuN (a.N.map vi) ∧ Slots (none :: some (v1) :: some (.pointer (some ⟨b, 0, none⟩)) :: none :: some (.bool false) :: some (.pointer (some ⟨bx, 0, none⟩)) :: some (.pointer (some ⟨by_, 0, none⟩)) :: some (.pointer (some ⟨bz, 0, none⟩)) :: o16 (o64 (o64 (o64 [])))) t') fun _ _ _ => False) := by
  have hu25 := Try.underlying25
  have hu22 := Try.underlying22
  have h1000 : a.L.length ≤ 1000 := by have := ha.l4; omega
  have hn1000 : a.N.length ≤ 1000 := by have := ha.n4; omega
  obtain ⟨x, hx⟩ := Slots.open_ hSl; simp only [fill, Nat.reduceAdd] at hx; subst hx; clear hSl
  have hTd := hT.again.drew
  refine region_tree (c := (sub (Try.f8.body.getD .skip) [1, 1, 1, 0])) (id := 4) (.one 1 true (.one 2 true (.one 5 true (.one 6 true (.two 0 4 (.two 3 4 (.one 8 true (.one 4 false (.one 7 false (.one 9 false (.one 10 false (.one 11 false (.nil))))))) (.one 3 false (.one 8 true (.one 7 false (.one 9 false (.one 10 false (.one 11 false (.nil)))))))) (.one 0 false (.one 3 false (.one 8 true (.one 7 false (.one 9 false (.one 10 false (.one 11 false (.nil))))))))))))) (Opq (regOps (sub (Try.f8.body.getD .skip) [1, 1, 1, 0]))) rfl (by kernel_rfl) (by kernel_rfl) (by kernel_rfl) (by kernel_rfl) (by kernel_rfl) (by kernel_rfl) [0, 0, 2, 5, 0, 0, 32, 88, 15, 399, 1023, 2047] (by kernel_rfl) (by kernel_rfl) (fun W' => W'.cell? ⟨b, 0, none⟩ = some (a.sL) ∧ W'.cell? ⟨b, 1, none⟩ = some (a.sN)) (fun _ _ _ => False) (fun _ _ _ h => h.elim) (fun _ _ _ _ _ _ _ _ h => h.elim) fun ds Q' hQn hQp => ?_
  have hT0 := hTd
  clear hTd
  generalize W.drew = X0 at *
  refine tr_take m8b1t (.pointer (some ⟨b, 0, none⟩)) (by kernel_rfl) rfl (by first | exact rfl | trivial) (fun wq hq => ?_) (⟨hT0.cell 0 rfl rfl, hT0.cell 0 rfl rfl⟩) ?_; (focus (simp [go_sem, mkO, m8b1t, hu25]; done)); simp only [m8b1t, put_eq, List.set_cons_succ, List.set_cons_zero]
  refine tr_take m8b2t (a.sL) (by kernel_rfl) rfl (by first | exact rfl | trivial) (fun wq hq => ?_) (⟨hT0.cell 0 rfl rfl, hT0.cell 0 rfl rfl⟩) ?_; (focus (simp [go_sem, mkO, m8b2t, hq.1]; done)); simp only [m8b2t, put_eq, List.set_cons_succ, List.set_cons_zero]
  refine tr_take m8b5t (.pointer (some ⟨b, 1, none⟩)) (by kernel_rfl) rfl (by first | exact rfl | trivial) (fun wq hq => ?_) (⟨hT0.cell 0 rfl rfl, hT0.cell 0 rfl rfl⟩) ?_; (focus (simp [go_sem, mkO, m8b5t, hu25]; done)); simp only [m8b5t, put_eq, List.set_cons_succ, List.set_cons_zero]
  refine tr_take m8b6t (a.sN) (by kernel_rfl) rfl (by first | exact rfl | trivial) (fun wq hq => ?_) (⟨hT0.cell 0 rfl rfl, hT0.cell 0 rfl rfl⟩) ?_; (focus (simp [go_sem, mkO, m8b6t, hq.2]; done)); simp only [m8b6t, put_eq, List.set_cons_succ, List.set_cons_zero]
  refine ⟨?_, ?_⟩
  · have hT1 : Tr w W (X0.alloc (.cells #[] 3)) [(X0.heap.size, .cells #[] 3 (0, 0)), (b, .cells #[a.sL, a.sN, a.sK] 25 (0, 0)), (bx, .cells #[a.sL, a.sN, a.sK] 25 (0, 0)), (by_, .cells #[a.sL, a.sN, a.sK] 25 (0, 0)), (bz, .cells #[a.sL, a.sN, a.sK] 25 (0, 0))] := hT0.alloc (.cells #[] 3)
    refine tr_make m8b0 (.slice (some ⟨X0.heap.size, 0, none⟩) 0 0) (X0.alloc (.cells #[] 3)) (by kernel_rfl) rfl (by first | exact rfl | trivial) (by simp [go_sem, mkO, m8b0, hu22]) (⟨hT1.cell 1 rfl rfl, hT1.cell 1 rfl rfl⟩) ?_; simp only [m8b0, put_eq, List.set_cons_succ, List.set_cons_zero]
    obtain ⟨zL, hgzL⟩ : ∃ b, X0.heap.size = b := ⟨_, rfl⟩
    simp only [hgzL] at hT1 ⊢
    generalize X0.alloc (.cells #[] 3) = X1 at *
    clear hgzL hT0
    clear X0
    refine ⟨?_, ?_⟩
    · obtain ⟨gL, cL, cuL, X2, hrun, hTa, hpL, hba⟩ := hT1.app_ints 0 rfl (A := a.AL) (L := a.L) (n := a.L.length) (c := a.cL) ((ha.below hT1.below).l) h1000 rfl 22
      have hT2 : Tr w W X2 [(gL, .cells (cuL).toArray 3 (0, 0)), (b, .cells #[a.sL, a.sN, a.sK] 25 (0, 0)), (bx, .cells #[a.sL, a.sN, a.sK] 25 (0, 0)), (by_, .cells #[a.sL, a.sN, a.sK] 25 (0, 0)), (bz, .cells #[a.sL, a.sN, a.sK] 25 (0, 0))] := hTa
      clear hTa
      refine tr_make m8b3 (.slice (some ⟨gL, 0, none⟩) a.L.length cL) X2 (by kernel_rfl) rfl (by first | exact rfl | trivial) (exec_append _ _ 22 rfl rfl rfl hrun) (⟨hT2.cell 1 rfl rfl, hT2.cell 1 rfl rfl⟩) ?_; simp only [m8b3, put_eq, List.set_cons_succ, List.set_cons_zero]
      clear hrun hba hT1
      clear X1
      refine tr_take m8b8t (.pointer (some ⟨bx, 0, none⟩)) (by kernel_rfl) rfl (by first | exact rfl | trivial) (fun wq hq => ?_) (⟨hT2.cell 1 rfl rfl, hT2.cell 1 rfl rfl⟩) ?_; (focus (simp [go_sem, mkO, m8b8t, hu25]; done)); simp only [m8b8t, put_eq, List.set_cons_succ, List.set_cons_zero]
      have hT3 : Tr w W (X2.alloc (.cells #[] 3)) [(X2.heap.size, .cells #[] 3 (0, 0)), (gL, .cells (cuL).toArray 3 (0, 0)), (b, .cells #[a.sL, a.sN, a.sK] 25 (0, 0)), (bx, .cells #[a.sL, a.sN, a.sK] 25 (0, 0)), (by_, .cells #[a.sL, a.sN, a.sK] 25 (0, 0)), (bz, .cells #[a.sL, a.sN, a.sK] 25 (0, 0))] := hT2.alloc (.cells #[] 3)
      refine tr_make m8b4 (.slice (some ⟨X2.heap.size, 0, none⟩) 0 0) (X2.alloc (.cells #[] 3)) (by kernel_rfl) rfl (by first | exact rfl | trivial) (by simp [go_sem, mkO, m8b4, hu22]) (⟨hT3.cell 2 rfl rfl, hT3.cell 2 rfl rfl⟩) ?_; simp only [m8b4, put_eq, List.set_cons_succ, List.set_cons_zero]
      obtain ⟨zN, hgzN⟩ : ∃ b, X2.heap.size = b := ⟨_, rfl⟩
      simp only [hgzN] at hT3 ⊢
      generalize X2.alloc (.cells #[] 3) = X3 at *
      clear hgzN hT2
      clear X2
      obtain ⟨gN, cN, cuN, X4, hrun, hTa, hpN, hba⟩ := hT3.app_ints 0 rfl (A := a.AN) (L := a.N) (n := a.N.length) (c := a.cN) ((ha.below hT3.below).n) hn1000 rfl 22
      have hT4 : Tr w W X4 [(gN, .cells (cuN).toArray 3 (0, 0)), (gL, .cells (cuL).toArray 3 (0, 0)), (b, .cells #[a.sL, a.sN, a.sK] 25 (0, 0)), (bx, .cells #[a.sL, a.sN, a.sK] 25 (0, 0)), (by_, .cells #[a.sL, a.sN, a.sK] 25 (0, 0)), (bz, .cells #[a.sL, a.sN, a.sK] 25 (0, 0))] := hTa
      clear hTa
      refine tr_make m8b7 (.slice (some ⟨gN, 0, none⟩) a.N.length cN) X4 (by kernel_rfl) rfl (by first | exact rfl | trivial) (exec_append _ _ 22 rfl rfl rfl hrun) (⟨hT4.cell 2 rfl rfl, hT4.cell 2 rfl rfl⟩) ?_; simp only [m8b7, put_eq, List.set_cons_succ, List.set_cons_zero]
      clear hrun hba hT3
      clear X3
      have hz := hT4.fz 3 rfl
      have hc0 : X4.cell? ⟨bx, 0, none⟩ = some (a.sL) := hT4.cell 3 rfl rfl
      have hT5 : Tr w W (X4.setCell ⟨bx, 0, none⟩ (.slice (some ⟨gL, 0, none⟩) a.L.length cL)) [(gN, .cells (cuN).toArray 3 (0, 0)), (gL, .cells (cuL).toArray 3 (0, 0)), (b, .cells #[a.sL, a.sN, a.sK] 25 (0, 0)), (bx, .cells #[.slice (some ⟨gL, 0, none⟩) a.L.length cL, a.sN, a.sK] 25 (0, 0)), (by_, .cells #[a.sL, a.sN, a.sK] 25 (0, 0)), (bz, .cells #[a.sL, a.sN, a.sK] 25 (0, 0))] := (hT4.set 3 rfl 0 (.slice (some ⟨gL, 0, none⟩) a.L.length cL))
      refine tr_store m8b9 (X4.setCell ⟨bx, 0, none⟩ (.slice (some ⟨gL, 0, none⟩) a.L.length cL)) (by kernel_rfl) rfl (by first | exact rfl | trivial) (by simp [go_sem, mkO, m8b9, hz, hc0, XP.sL]) (⟨hT5.cell 2 rfl rfl, hT5.cell 2 rfl rfl⟩) ?_; simp only [m8b9, put_none]
      clear hz hc0
      generalize (X4.setCell ⟨bx, 0, none⟩ (.slice (some ⟨gL, 0, none⟩) a.L.length cL)) = X5 at *
      clear hT4
      refine tr_make m8b10 (.pointer (some ⟨by_, 1, none⟩)) _ (by kernel_rfl) rfl (by first | exact rfl | trivial) ?_ (⟨hT5.cell 2 rfl rfl, hT5.cell 2 rfl rfl⟩) ?_; (focus (simp [go_sem, mkO, m8b10, hu25]; done)); simp only [m8b10, put_eq, List.set_cons_succ, List.set_cons_zero]
      have hz := hT5.fz 4 rfl
      have hc1 : X5.cell? ⟨by_, 1, none⟩ = some (a.sN) := hT5.cell 4 rfl rfl
      have hT6 : Tr w W (X5.setCell ⟨by_, 1, none⟩ (.slice (some ⟨gN, 0, none⟩) a.N.length cN)) [(gN, .cells (cuN).toArray 3 (0, 0)), (gL, .cells (cuL).toArray 3 (0, 0)), (b, .cells #[a.sL, a.sN, a.sK] 25 (0, 0)), (bx, .cells #[.slice (some ⟨gL, 0, none⟩) a.L.length cL, a.sN, a.sK] 25 (0, 0)), (by_, .cells #[a.sL, .slice (some ⟨gN, 0, none⟩) a.N.length cN, a.sK] 25 (0, 0)), (bz, .cells #[a.sL, a.sN, a.sK] 25 (0, 0))] := (hT5.set 4 rfl 1 (.slice (some ⟨gN, 0, none⟩) a.N.length cN))
      refine tr_store m8b11 (X5.setCell ⟨by_, 1, none⟩ (.slice (some ⟨gN, 0, none⟩) a.N.length cN)) (by kernel_rfl) rfl (by first | exact rfl | trivial) (by simp [go_sem, mkO, m8b11, hz, hc1, XP.sN]) (⟨hT6.cell 2 rfl rfl, hT6.cell 2 rfl rfl⟩) ?_; simp only [m8b11, put_none]
      clear hz hc1
      generalize (X5.setCell ⟨by_, 1, none⟩ (.slice (some ⟨gN, 0, none⟩) a.N.length cN)) = X6 at *
      clear hT5
      exact hQn _ _ hT6.keep ⟨gL, cL, cuL, gN, cN, cuN, (hT6.of (fun p hp => by simp only [List.mem_cons, List.not_mem_nil, or_false] at hp ⊢; rcases hp with rfl | rfl | rfl | rfl | rfl | rfl <;> simp) (by have := hT6.nd; simp only [List.map_cons, List.map_nil, List.nodup_cons, List.mem_cons, List.not_mem_nil, not_or, or_false, not_false_eq_true, List.nodup_nil, and_true] at this ⊢; omega)).again, hpL, hpN, (by simp only [Slots, Fits, and_self])⟩
    · have hT2 : Tr w W (X1.alloc (.cells #[] 3)) [(X1.heap.size, .cells #[] 3 (0, 0)), (zL, .cells #[] 3 (0, 0)), (b, .cells #[a.sL, a.sN, a.sK] 25 (0, 0)), (bx, .cells #[a.sL, a.sN, a.sK] 25 (0, 0)), (by_, .cells #[a.sL, a.sN, a.sK] 25 (0, 0)), (bz, .cells #[a.sL, a.sN, a.sK] 25 (0, 0))] := hT1.alloc (.cells #[] 3)
      refine tr_make m8b4 (.slice (some ⟨X1.heap.size, 0, none⟩) 0 0) (X1.alloc (.cells #[] 3)) (by kernel_rfl) rfl (by first | exact rfl | trivial) (by simp [go_sem, mkO, m8b4, hu22]) (⟨hT2.cell 2 rfl rfl, hT2.cell 2 rfl rfl⟩) ?_; simp only [m8b4, put_eq, List.set_cons_succ, List.set_cons_zero]
      obtain ⟨zN, hgzN⟩ : ∃ b, X1.heap.size = b := ⟨_, rfl⟩
      simp only [hgzN] at hT2 ⊢
      generalize X1.alloc (.cells #[] 3) = X2 at *
      clear hgzN hT1
      clear X1
      obtain ⟨gL, cL, cuL, X3, hrun, hTa, hpL, hba⟩ := hT2.app_ints 1 rfl (A := a.AL) (L := a.L) (n := a.L.length) (c := a.cL) ((ha.below hT2.below).l) h1000 rfl 22
      have hT3 : Tr w W X3 [(zN, .cells #[] 3 (0, 0)), (gL, .cells (cuL).toArray 3 (0, 0)), (b, .cells #[a.sL, a.sN, a.sK] 25 (0, 0)), (bx, .cells #[a.sL, a.sN, a.sK] 25 (0, 0)), (by_, .cells #[a.sL, a.sN, a.sK] 25 (0, 0)), (bz, .cells #[a.sL, a.sN, a.sK] 25 (0, 0))] := hTa
      clear hTa
      refine tr_make m8b3 (.slice (some ⟨gL, 0, none⟩) a.L.length cL) X3 (by kernel_rfl) rfl (by first | exact rfl | trivial) (exec_append _ _ 22 rfl rfl rfl hrun) (⟨hT3.cell 2 rfl rfl, hT3.cell 2 rfl rfl⟩) ?_; simp only [m8b3, put_eq, List.set_cons_succ, List.set_cons_zero]
      clear hrun hba hT2
      clear X2
      refine tr_take m8b8t (.pointer (some ⟨bx, 0, none⟩)) (by kernel_rfl) rfl (by first | exact rfl | trivial) (fun wq hq => ?_) (⟨hT3.cell 2 rfl rfl, hT3.cell 2 rfl rfl⟩) ?_; (focus (simp [go_sem, mkO, m8b8t, hu25]; done)); simp only [m8b8t, put_eq, List.set_cons_succ, List.set_cons_zero]
      obtain ⟨gN, cN, cuN, X4, hrun, hTa, hpN, hba⟩ := hT3.app_ints 0 rfl (A := a.AN) (L := a.N) (n := a.N.length) (c := a.cN) ((ha.below hT3.below).n) hn1000 rfl 22
      have hT4 : Tr w W X4 [(gN, .cells (cuN).toArray 3 (0, 0)), (gL, .cells (cuL).toArray 3 (0, 0)), (b, .cells #[a.sL, a.sN, a.sK] 25 (0, 0)), (bx, .cells #[a.sL, a.sN, a.sK] 25 (0, 0)), (by_, .cells #[a.sL, a.sN, a.sK] 25 (0, 0)), (bz, .cells #[a.sL, a.sN, a.sK] 25 (0, 0))] := hTa
      clear hTa
      refine tr_make m8b7 (.slice (some ⟨gN, 0, none⟩) a.N.length cN) X4 (by kernel_rfl) rfl (by first | exact rfl | trivial) (exec_append _ _ 22 rfl rfl rfl hrun) (⟨hT4.cell 2 rfl rfl, hT4.cell 2 rfl rfl⟩) ?_; simp only [m8b7, put_eq, List.set_cons_succ, List.set_cons_zero]
      clear hrun hba hT3
      clear X3
      have hz := hT4.fz 3 rfl
      have hc0 : X4.cell? ⟨bx, 0, none⟩ = some (a.sL) := hT4.cell 3 rfl rfl
      have hT5 : Tr w W (X4.setCell ⟨bx, 0, none⟩ (.slice (some ⟨gL, 0, none⟩) a.L.length cL)) [(gN, .cells (cuN).toArray 3 (0, 0)), (gL, .cells (cuL).toArray 3 (0, 0)), (b, .cells #[a.sL, a.sN, a.sK] 25 (0, 0)), (bx, .cells #[.slice (some ⟨gL, 0, none⟩) a.L.length cL, a.sN, a.sK] 25 (0, 0)), (by_, .cells #[a.sL, a.sN, a.sK] 25 (0, 0)), (bz, .cells #[a.sL, a.sN, a.sK] 25 (0, 0))] := (hT4.set 3 rfl 0 (.slice (some ⟨gL, 0, none⟩) a.L.length cL))
      refine tr_store m8b9 (X4.setCell ⟨bx, 0, none⟩ (.slice (some ⟨gL, 0, none⟩) a.L.length cL)) (by kernel_rfl) rfl (by first | exact rfl | trivial) (by simp [go_sem, mkO, m8b9, hz, hc0, XP.sL]) (⟨hT5.cell 2 rfl rfl, hT5.cell 2 rfl rfl⟩) ?_; simp only [m8b9, put_none]
      clear hz hc0
      generalize (X4.setCell ⟨bx, 0, none⟩ (.slice (some ⟨gL, 0, none⟩) a.L.length cL)) = X5 at *
      clear hT4
      refine tr_make m8b10 (.pointer (some ⟨by_, 1, none⟩)) _ (by kernel_rfl) rfl (by first | exact rfl | trivial) ?_ (⟨hT5.cell 2 rfl rfl, hT5.cell 2 rfl rfl⟩) ?_; (focus (simp [go_sem, mkO, m8b10, hu25]; done)); simp only [m8b10, put_eq, List.set_cons_succ, List.set_cons_zero]
      have hz := hT5.fz 4 rfl
      have hc1 : X5.cell? ⟨by_, 1, none⟩ = some (a.sN) := hT5.cell 4 rfl rfl
      have hT6 : Tr w W (X5.setCell ⟨by_, 1, none⟩ (.slice (some ⟨gN, 0, none⟩) a.N.length cN)) [(gN, .cells (cuN).toArray 3 (0, 0)), (gL, .cells (cuL).toArray 3 (0, 0)), (b, .cells #[a.sL, a.sN, a.sK] 25 (0, 0)), (bx, .cells #[.slice (some ⟨gL, 0, none⟩) a.L.length cL, a.sN, a.sK] 25 (0, 0)), (by_, .cells #[a.sL, .slice (some ⟨gN, 0, none⟩) a.N.length cN, a.sK] 25 (0, 0)), (bz, .cells #[a.sL, a.sN, a.sK] 25 (0, 0))] := (hT5.set 4 rfl 1 (.slice (some ⟨gN, 0, none⟩) a.N.length cN))
      refine tr_store m8b11 (X5.setCell ⟨by_, 1, none⟩ (.slice (some ⟨gN, 0, none⟩) a.N.length cN)) (by kernel_rfl) rfl (by first | exact rfl | trivial) (by simp [go_sem, mkO, m8b11, hz, hc1, XP.sN]) (⟨hT6.cell 2 rfl rfl, hT6.cell 2 rfl rfl⟩) ?_; simp only [m8b11, put_none]
      clear hz hc1
      generalize (X5.setCell ⟨by_, 1, none⟩ (.slice (some ⟨gN, 0, none⟩) a.N.length cN)) = X6 at *
      clear hT5
      exact hQn _ _ hT6.keep ⟨gL, cL, cuL, gN, cN, cuN, (hT6.of (fun p hp => by simp only [List.mem_cons, List.not_mem_nil, or_false] at hp ⊢; rcases hp with rfl | rfl | rfl | rfl | rfl | rfl <;> simp) (by have := hT6.nd; simp only [List.map_cons, List.map_nil, List.nodup_cons, List.mem_cons, List.not_mem_nil, not_or, or_false, not_false_eq_true, List.nodup_nil, and_true] at this ⊢; omega)).again, hpL, hpN, (by simp only [Slots, Fits, and_self])⟩
  · have hT1 : Tr w W (X0.alloc (.cells #[] 3)) [(X0.heap.size, .cells #[] 3 (0, 0)), (b, .cells #[a.sL, a.sN, a.sK] 25 (0, 0)), (bx, .cells #[a.sL, a.sN, a.sK] 25 (0, 0)), (by_, .cells #[a.sL, a.sN, a.sK] 25 (0, 0)), (bz, .cells #[a.sL, a.sN, a.sK] 25 (0, 0))] := hT0.alloc (.cells #[] 3)
    refine tr_make m8b4 (.slice (some ⟨X0.heap.size, 0, none⟩) 0 0) (X0.alloc (.cells #[] 3)) (by kernel_rfl) rfl (by first | exact rfl | trivial) (by simp [go_sem, mkO, m8b4, hu22]) (⟨hT1.cell 1 rfl rfl, hT1.cell 1 rfl rfl⟩) ?_; simp only [m8b4, put_eq, List.set_cons_succ, List.set_cons_zero]
    obtain ⟨zN, hgzN⟩ : ∃ b, X0.heap.size = b := ⟨_, rfl⟩
    simp only [hgzN] at hT1 ⊢
    generalize X0.alloc (.cells #[] 3) = X1 at *
    clear hgzN hT0
    clear X0
    have hT2 : Tr w W (X1.alloc (.cells #[] 3)) [(X1.heap.size, .cells #[] 3 (0, 0)), (zN, .cells #[] 3 (0, 0)), (b, .cells #[a.sL, a.sN, a.sK] 25 (0, 0)), (bx, .cells #[a.sL, a.sN, a.sK] 25 (0, 0)), (by_, .cells #[a.sL, a.sN, a.sK] 25 (0, 0)), (bz, .cells #[a.sL, a.sN, a.sK] 25 (0, 0))] := hT1.alloc (.cells #[] 3)
    refine tr_make m8b0 (.slice (some ⟨X1.heap.size, 0, none⟩) 0 0) (X1.alloc (.cells #[] 3)) (by kernel_rfl) rfl (by first | exact rfl | trivial) (by simp [go_sem, mkO, m8b0, hu22]) (⟨hT2.cell 2 rfl rfl, hT2.cell 2 rfl rfl⟩) ?_; simp only [m8b0, put_eq, List.set_cons_succ, List.set_cons_zero]
    obtain ⟨zL, hgzL⟩ : ∃ b, X1.heap.size = b := ⟨_, rfl⟩
    simp only [hgzL] at hT2 ⊢
    generalize X1.alloc (.cells #[] 3) = X2 at *
    clear hgzL hT1
    clear X1
    obtain ⟨gL, cL, cuL, X3, hrun, hTa, hpL, hba⟩ := hT2.app_ints 0 rfl (A := a.AL) (L := a.L) (n := a.L.length) (c := a.cL) ((ha.below hT2.below).l) h1000 rfl 22
    have hT3 : Tr w W X3 [(gL, .cells (cuL).toArray 3 (0, 0)), (zN, .cells #[] 3 (0, 0)), (b, .cells #[a.sL, a.sN, a.sK] 25 (0, 0)), (bx, .cells #[a.sL, a.sN, a.sK] 25 (0, 0)), (by_, .cells #[a.sL, a.sN, a.sK] 25 (0, 0)), (bz, .cells #[a.sL, a.sN, a.sK] 25 (0, 0))] := hTa
    clear hTa
    refine tr_make m8b3 (.slice (some ⟨gL, 0, none⟩) a.L.length cL) X3 (by kernel_rfl) rfl (by first | exact rfl | trivial) (exec_append _ _ 22 rfl rfl rfl hrun) (⟨hT3.cell 2 rfl rfl, hT3.cell 2 rfl rfl⟩) ?_; simp only [m8b3, put_eq, List.set_cons_succ, List.set_cons_zero]
    clear hrun hba hT2
    clear X2
    refine tr_take m8b8t (.pointer (some ⟨bx, 0, none⟩)) (by kernel_rfl) rfl (by first | exact rfl | trivial) (fun wq hq => ?_) (⟨hT3.cell 2 rfl rfl, hT3.cell 2 rfl rfl⟩) ?_; (focus (simp [go_sem, mkO, m8b8t, hu25]; done)); simp only [m8b8t, put_eq, List.set_cons_succ, List.set_cons_zero]
    obtain ⟨gN, cN, cuN, X4, hrun, hTa, hpN, hba⟩ := hT3.app_ints 1 rfl (A := a.AN) (L := a.N) (n := a.N.length) (c := a.cN) ((ha.below hT3.below).n) hn1000 rfl 22
    have hT4 : Tr w W X4 [(gL, .cells (cuL).toArray 3 (0, 0)), (gN, .cells (cuN).toArray 3 (0, 0)), (b, .cells #[a.sL, a.sN, a.sK] 25 (0, 0)), (bx, .cells #[a.sL, a.sN, a.sK] 25 (0, 0)), (by_, .cells #[a.sL, a.sN, a.sK] 25 (0, 0)), (bz, .cells #[a.sL, a.sN, a.sK] 25 (0, 0))] := hTa
    clear hTa
    refine tr_make m8b7 (.slice (some ⟨gN, 0, none⟩) a.N.length cN) X4 (by kernel_rfl) rfl (by first | exact rfl | trivial) (exec_append _ _ 22 rfl rfl rfl hrun) (⟨hT4.cell 2 rfl rfl, hT4.cell 2 rfl rfl⟩) ?_; simp only [m8b7, put_eq, List.set_cons_succ, List.set_cons_zero]
    clear hrun hba hT3
    clear X3
    have hz := hT4.fz 3 rfl
    have hc0 : X4.cell? ⟨bx, 0, none⟩ = some (a.sL) := hT4.cell 3 rfl rfl
    have hT5 : Tr w W (X4.setCell ⟨bx, 0, none⟩ (.slice (some ⟨gL, 0, none⟩) a.L.length cL)) [(gL, .cells (cuL).toArray 3 (0, 0)), (gN, .cells (cuN).toArray 3 (0, 0)), (b, .cells #[a.sL, a.sN, a.sK] 25 (0, 0)), (bx, .cells #[.slice (some ⟨gL, 0, none⟩) a.L.length cL, a.sN, a.sK] 25 (0, 0)), (by_, .cells #[a.sL, a.sN, a.sK] 25 (0, 0)), (bz, .cells #[a.sL, a.sN, a.sK] 25 (0, 0))] := (hT4.set 3 rfl 0 (.slice (some ⟨gL, 0, none⟩) a.L.length cL))
    refine tr_store m8b9 (X4.setCell ⟨bx, 0, none⟩ (.slice (some ⟨gL, 0, none⟩) a.L.length cL)) (by kernel_rfl) rfl (by first | exact rfl | trivial) (by simp [go_sem, mkO, m8b9, hz, hc0, XP.sL]) (⟨hT5.cell 2 rfl rfl, hT5.cell 2 rfl rfl⟩) ?_; simp only [m8b9, put_none]
    clear hz hc0
    generalize (X4.setCell ⟨bx, 0, none⟩ (.slice (some ⟨gL, 0, none⟩) a.L.length cL)) = X5 at *
    clear hT4
    refine tr_make m8b10 (.pointer (some ⟨by_, 1, none⟩)) _ (by kernel_rfl) rfl (by first | exact rfl | trivial) ?_ (⟨hT5.cell 2 rfl rfl, hT5.cell 2 rfl rfl⟩) ?_; (focus (simp [go_sem, mkO, m8b10, hu25]; done)); simp only [m8b10, put_eq, List.set_cons_succ, List.set_cons_zero]
    have hz := hT5.fz 4 rfl
    have hc1 : X5.cell? ⟨by_, 1, none⟩ = some (a.sN) := hT5.cell 4 rfl rfl
    have hT6 : Tr w W (X5.setCell ⟨by_, 1, none⟩ (.slice (some ⟨gN, 0, none⟩) a.N.length cN)) [(gL, .cells (cuL).toArray 3 (0, 0)), (gN, .cells (cuN).toArray 3 (0, 0)), (b, .cells #[a.sL, a.sN, a.sK] 25 (0, 0)), (bx, .cells #[.slice (some ⟨gL, 0, none⟩) a.L.length cL, a.sN, a.sK] 25 (0, 0)), (by_, .cells #[a.sL, .slice (some ⟨gN, 0, none⟩) a.N.length cN, a.sK] 25 (0, 0)), (bz, .cells #[a.sL, a.sN, a.sK] 25 (0, 0))] := (hT5.set 4 rfl 1 (.slice (some ⟨gN, 0, none⟩) a.N.length cN))
    refine tr_store m8b11 (X5.setCell ⟨by_, 1, none⟩ (.slice (some ⟨gN, 0, none⟩) a.N.length cN)) (by kernel_rfl) rfl (by first | exact rfl | trivial) (by simp [go_sem, mkO, m8b11, hz, hc1, XP.sN]) (⟨hT6.cell 2 rfl rfl, hT6.cell 2 rfl rfl⟩) ?_; simp only [m8b11, put_none]
    clear hz hc1
    generalize (X5.setCell ⟨by_, 1, none⟩ (.slice (some ⟨gN, 0, none⟩) a.N.length cN)) = X6 at *
    clear hT5
    exact hQn _ _ hT6.keep ⟨gL, cL, cuL, gN, cN, cuN, (hT6.of (fun p hp => by simp only [List.mem_cons, List.not_mem_nil, or_false] at hp ⊢; rcases hp with rfl | rfl | rfl | rfl | rfl | rfl <;> simp) (by have := hT6.nd; simp only [List.map_cons, List.map_nil, List.nodup_cons, List.mem_cons, List.not_mem_nil, not_or, or_false, not_false_eq_true, List.nodup_nil, and_true] at this ⊢; omega)).again, hpL, hpN, (by simp only [Slots, Fits, and_self])⟩
end Go.Proofs.Ytbdmmikflkpmpaa
end

section
set_option linter.unusedVariables false
set_option linter.unusedSimpArgs false
namespace Go.Proofs.Ytbdmmikflkpmpaa
open Go.RowKit Go.TL Go.Shelf Go.Pn
attribute [local go_sem] Oper.semAt_some
attribute [local go_sem] run_store_func
def noTo (a : XP) (s k : Nat) : List Nat := (List.range a.N.length).map fun i => if decide (i < k) && s.testBit i then a.s3.2.1.getD i 0 else 0
theorem noTo_len (a : XP) (s k : Nat) : (noTo a s k).length = a.N.length := by simp [noTo]
theorem noTo_get {a : XP} {s k i : Nat} (hi : i < a.N.length) : (noTo a s k)[i]? = some (if decide (i < k) && s.testBit i then a.s3.2.1.getD i 0 else 0) := by
  unfold noTo
  rw [List.getElem?_map, List.getElem?_range hi]
  rfl
theorem s3_nlen (a : XP) : a.s3.2.1.length = a.N.length := by simp [XP.s3]
theorem noTo_zero (a : XP) (s : Nat) : ((noTo a s 0).map iv).toArray = zeroI a.N.length := by
  have h1 : noTo a s 0 = List.replicate a.N.length 0 := by
    refine List.ext_getElem? fun i => ?_
    by_cases hi : i < a.N.length
    · rw [noTo_get hi, List.getElem?_replicate, if_pos hi]
      simp
    · rw [List.getElem?_eq_none (by rw [noTo_len]; omega), List.getElem?_eq_none (by simp; omega)]
  apply Array.ext'
  have h2 : (zeroI a.N.length).toList = List.replicate a.N.length (iv 0) := toList_madeCells_one _ _
  rw [h2, h1]
  simp
theorem noTo_succ {a : XP} {s k : Nat} (hk : k < a.N.length) : noTo a s (k + 1) = if s.testBit k then (noTo a s k).set k (a.s3.2.1.getD k 0) else noTo a s k := by
  refine List.ext_getElem? fun i => ?_
  by_cases hi : i < a.N.length
  · rw [noTo_get hi]
    cases hb : s.testBit k with
    | true =>
      rw [if_pos rfl, List.getElem?_set, noTo_len]
      by_cases e : k = i
      · subst e
        simp [hb, hk]
      · rw [if_neg e, noTo_get hi]
        have : decide (i < k + 1) = decide (i < k) := decide_eq_decide.2 (by omega)
        rw [this]
    | false =>
      rw [if_neg (show ¬ (false = true) by decide)]
      refine Eq.trans ?_ (noTo_get hi).symm
      by_cases e : i = k
      · subst e
        simp [hb]
      · have : decide (i < k + 1) = decide (i < k) := decide_eq_decide.2 (by omega)
        rw [this]
  · rw [List.getElem?_eq_none (by rw [noTo_len]; omega)]
    split
    · rw [List.getElem?_eq_none (by rw [List.length_set, noTo_len]; omega)]
    · rw [List.getElem?_eq_none (by rw [noTo_len]; omega)]
theorem noTo_end (a : XP) (s : Nat) : noTo a s a.N.length = onlyN s a.s3.2.1 := by
  refine List.ext_getElem? fun i => ?_
  by_cases hi : i < a.N.length
  · have hl : i < (onlyN s a.s3.2.1).length := by rw [onlyN_len, s3_nlen]; exact hi
    rw [noTo_get hi, List.getElem?_eq_getElem hl, ← getD_lt hl, onlyN_get, decide_eq_true hi, Bool.true_and]
  · rw [List.getElem?_eq_none (by rw [noTo_len]; omega), List.getElem?_eq_none (by rw [onlyN_len, s3_nlen]; omega)]
/-- The panels with some plots alone. -/
def XP.onlyX (a : XP) (g s : Nat) : XP := { a with AN := some ⟨g, 0, none⟩, cN := a.N.length, N := (onlyN s a.s3.2.1).map fun n : Nat => (n : Int) }
theorem XP.onlyX_s3 (a : XP) (g s : Nat) : (a.onlyX g s).s3 = a.s3.only s := by
  show (_, _, _) = (_, _, _)
  congr 1
  congr 1
  show ((onlyN s a.s3.2.1).map _).map _ = _
  rw [List.map_map]
  conv => rhs; rw [← List.map_id (onlyN s a.s3.2.1)]
  exact List.map_congr_left fun n _ => Int.toNat_natCast n
theorem XP.onlyX_fine {a : XP} (hf : a.Fine) (g s : Nat) : (a.onlyX g s).Fine := by
  have hlen : (onlyN s a.s3.2.1).length = a.N.length := by rw [onlyN_len, s3_nlen]
  refine ⟨hf.j, by show ((onlyN s a.s3.2.1).map _).length ≤ 6; rw [List.length_map, hlen]; exact hf.p, hf.k, hf.lb, ?_, ?_⟩
  · intro y hy
    obtain ⟨n, hn, rfl⟩ := List.mem_map.1 hy
    rcases onlyN_mem hn with rfl | h
    · omega
    · obtain ⟨z, hz, rfl⟩ := List.mem_map.1 (show n ∈ a.N.map Int.toNat from h)
      have := hf.nb z hz
      omega
  · intro y hy
    have := hf.kb y hy
    show _ ∧ _ ∧ y.2 < (((onlyN s a.s3.2.1).map _).length : Int)
    rw [List.length_map, hlen]
    exact this
def I28 (w : World) (a : XP) (s g : Nat) (n : Nat) (t : Array Value) (W : World) : Prop :=
  ∃ k : Nat, k ≤ a.N.length ∧ n = a.N.length - k ∧ Below w.heap.size w W ∧ W.heap[w.heap.size + 1]? = some (.cells #[.slice none 0 0, .slice none 0 0, .slice none 0 0] 25 (0, 0)) ∧ W.heap[w.heap.size + 1 + 1]? = some (.cells #[a.sL, .slice (some ⟨g, 0, none⟩) a.N.length a.N.length, a.sK] 25 (0, 0)) ∧ W.heap[g]? = some (.cells ((noTo a s k).map iv).toArray 3 (0, 0)) ∧ Slots (none :: some (iv s) :: some (.pointer (some ⟨w.heap.size, 0, none⟩)) :: none :: some (.pointer (some ⟨w.heap.size + 1, 0, none⟩)) :: some (.pointer (some ⟨w.heap.size + 1 + 1, 0, none⟩)) :: none :: o4 (o4 (some (.slice a.AN a.N.length a.cN) :: some (iv a.N.length) :: some (iv k) :: o16 []))) t
set_option maxRecDepth 100000 in
set_option maxHeartbeats 2000000 in
theorem only28 (a : XP) (hf : a.Fine) (s : Nat) (hs : s < 2 ^ 62) (w : World) (ha : a.At w) : Calls Try.prog 28 #[a.val, iv s] w fun e w' => ∃ g, e = .returned (a.onlyX g s).val ∧ (a.onlyX g s).At w' ∧ Below w.heap.size w w' := by
  have hu25 := Try.underlying25
  have hu22 := Try.underlying22
  have hn6 := hf.p
  refine calls_of_exec Try.func28 rfl ?_
  simp only [Try.ntmps28, List.size_toArray, List.length_cons, List.length_nil, Nat.reduceAdd, Nat.reduceSub, Array.replicate_succ, Array.replicate_zero, List.push_toArray, List.append_toArray, List.nil_append, List.cons_append]
  simp only [XP.val]
  refine exec_seq (exec_region_o fun ds => ?_)
  gi_wp2
  refine eq_mk (((Keep.refl _).alloc _).alloc _) ?_
  show Exec _ _ (Code.seq _ _) _ ((w.alloc (.cells #[a.sL, a.sN, a.sK] 25)).alloc (.cells #[.slice none 0 0, .slice none 0 0, .slice none 0 0] 25)) _
  have hB := ((Below.refl w.heap.size w).alloc (Nat.le_refl _) (.cells #[a.sL, a.sN, a.sK] 25)).alloc (by simp) (.cells #[.slice none 0 0, .slice none 0 0, .slice none 0 0] 25)
  have b2 : PBx ((w.alloc (.cells #[a.sL, a.sN, a.sK] 25)).alloc (.cells #[.slice none 0 0, .slice none 0 0, .slice none 0 0] 25)) w.heap.size a := ⟨heap_next (World.alloc_heap_new _ _) _, ha.below hB⟩
  have b4 : ((w.alloc (.cells #[a.sL, a.sN, a.sK] 25)).alloc (.cells #[.slice none 0 0, .slice none 0 0, .slice none 0 0] 25)).heap[w.heap.size + 1]? = some (.cells #[.slice none 0 0, .slice none 0 0, .slice none 0 0] 25 (0, 0)) := by
    have := World.alloc_heap_new (w.alloc (.cells #[a.sL, a.sN, a.sK] 25)) (.cells #[.slice none 0 0, .slice none 0 0, .slice none 0 0] 25)
    rwa [World.size_alloc] at this
  have hsz : ((w.alloc (.cells #[a.sL, a.sN, a.sK] 25)).alloc (.cells #[.slice none 0 0, .slice none 0 0, .slice none 0 0] 25)).heap.size = w.heap.size + 1 + 1 := by simp
  generalize (w.alloc (.cells #[a.sL, a.sN, a.sK] 25)).alloc (.cells #[.slice none 0 0, .slice none 0 0, .slice none 0 0] 25) = X at *
  have hh := b2.heap
  simp only [XP.sL, XP.sN, XP.sK] at hh
  have c0 := cells_get (cs := [_, _, _]) (k := 0) hh rfl
  have c1 := cells_get (cs := [_, _, _]) (k := 1) hh rfl
  have c2 := cells_get (cs := [_, _, _]) (k := 2) hh rfl
  clear hh
  refine exec_seq (exec_region_o fun ds => ?_)
  gi_wp2
  refine eq_mk ((Keep.refl _).alloc _) ?_
  show Exec _ _ (Code.seq _ _) _ (X.alloc (.cells #[a.sL, a.sN, a.sK] 25)) _
  have hal := (Below.refl X.heap.size X).alloc (Nat.le_refl _) (.cells #[a.sL, a.sN, a.sK] 25)
  have b5 : (X.alloc (.cells #[a.sL, a.sN, a.sK] 25)).heap[X.heap.size]? = some (.cells #[a.sL, a.sN, a.sK] 25 (0, 0)) := World.alloc_heap_new _ _
  have hsY : (X.alloc (.cells #[a.sL, a.sN, a.sK] 25)).heap.size = X.heap.size + 1 := by simp
  have d2 := b2.keep hal
  have d4 := (hal.block _ (heap_lt b4)).trans b4
  have hBY := hB.trans (hal.mono hB.size)
  clear c0 c1 c2 b2 b4 hal hB
  generalize X.alloc (.cells #[a.sL, a.sN, a.sK] 25) = Y at *
  rw [hsz] at hsY b5
  clear hsz
  clear X
  have hmk := run_make22 a.N.length (by omega) Y
  have hh := d2.heap
  simp only [XP.sN] at hh
  have c1 := cells_get (cs := [_, _, _]) (k := 1) hh rfl
  have hb5 := b5
  simp only [XP.sL, XP.sN, XP.sK] at hb5
  have hnx := heap_next hb5 (.cells (zeroI a.N.length) 3)
  have e1 := cells_get (cs := [_, _, _]) (k := 1) hnx rfl
  have ef : (Y.alloc (.cells (zeroI a.N.length) 3)).frozen? ⟨w.heap.size + 1 + 1, 1, none⟩ = false := frozen_cells hnx
  have hzz : (Y.alloc (.cells (zeroI a.N.length) 3)).heap[Y.heap.size]? = some (.cells (zeroI a.N.length) 3 (0, 0)) := World.alloc_heap_new _ _
  refine exec_seq (exec_region_o fun ds => ?_)
  gi_wp2
  refine eq_mk (((Keep.refl _).setCell _ _).alloc _) ?_
  show Exec _ _ (Code.seq (Code.seq _ _) _) _ _ _
  have hst : (Y.setCell ⟨w.heap.size + 1 + 1, 1, none⟩ (.slice (some ⟨w.heap.size + 1 + 1 + 1, 0, none⟩) a.N.length a.N.length)).heap.size = w.heap.size + 1 + 1 + 1 := by simp [hsY]
  have f5 : ((Y.setCell ⟨w.heap.size + 1 + 1, 1, none⟩ (.slice (some ⟨w.heap.size + 1 + 1 + 1, 0, none⟩) a.N.length a.N.length)).alloc (.cells (zeroI a.N.length) 3)).heap[w.heap.size + 1 + 1]? = some (.cells #[a.sL, .slice (some ⟨w.heap.size + 1 + 1 + 1, 0, none⟩) a.N.length a.N.length, a.sK] 25 (0, 0)) := heap_next (box_set _ _ 1 [_, _, _] 25 _ b5) _
  have fg : ((Y.setCell ⟨w.heap.size + 1 + 1, 1, none⟩ (.slice (some ⟨w.heap.size + 1 + 1 + 1, 0, none⟩) a.N.length a.N.length)).alloc (.cells (zeroI a.N.length) 3)).heap[w.heap.size + 1 + 1 + 1]? = some (.cells ((noTo a s 0).map iv).toArray 3 (0, 0)) := by
    rw [noTo_zero]
    have := World.alloc_heap_new (Y.setCell ⟨w.heap.size + 1 + 1, 1, none⟩ (.slice (some ⟨w.heap.size + 1 + 1 + 1, 0, none⟩) a.N.length a.N.length)) (.cells (zeroI a.N.length) 3)
    rwa [hst] at this
  have f4 : ((Y.setCell ⟨w.heap.size + 1 + 1, 1, none⟩ (.slice (some ⟨w.heap.size + 1 + 1 + 1, 0, none⟩) a.N.length a.N.length)).alloc (.cells (zeroI a.N.length) 3)).heap[w.heap.size + 1]? = some (.cells #[.slice none 0 0, .slice none 0 0, .slice none 0 0] 25 (0, 0)) := heap_next (box_far _ _ _ _ _ _ d4 (by omega)) _
  have f2 : ((Y.setCell ⟨w.heap.size + 1 + 1, 1, none⟩ (.slice (some ⟨w.heap.size + 1 + 1 + 1, 0, none⟩) a.N.length a.N.length)).alloc (.cells (zeroI a.N.length) 3)).heap[w.heap.size]? = some (.cells #[a.sL, a.sN, a.sK] 25 (0, 0)) := heap_next (box_far _ _ _ _ _ _ d2.heap (by omega)) _
  have hBS : Below w.heap.size w (Y.setCell ⟨w.heap.size + 1 + 1, 1, none⟩ (.slice (some ⟨w.heap.size + 1 + 1 + 1, 0, none⟩) a.N.length a.N.length)) := hBY.setCell (by show w.heap.size ≤ w.heap.size + 1 + 1; omega) _
  have hBZ : Below w.heap.size w ((Y.setCell ⟨w.heap.size + 1 + 1, 1, none⟩ (.slice (some ⟨w.heap.size + 1 + 1 + 1, 0, none⟩) a.N.length a.N.length)).alloc (.cells (zeroI a.N.length) 3)) := hBS.alloc hBS.size _
  clear hnx hzz b5 hb5 e1 ef c1 hh hmk d2 d4 hBY hsY hst hBS
  generalize ((Y.setCell ⟨w.heap.size + 1 + 1, 1, none⟩ (.slice (some ⟨w.heap.size + 1 + 1 + 1, 0, none⟩) a.N.length a.N.length)).alloc (.cells (zeroI a.N.length) 3)) = Z at *
  clear Y
  have hg : w.heap.size + 1 + 1 < w.heap.size + 1 + 1 + 1 := Nat.lt_succ_self _
  generalize w.heap.size + 1 + 1 + 1 = g at *
  have hh := f2
  simp only [XP.sN] at hh
  have c1 := cells_get (cs := [_, _, _]) (k := 1) hh rfl
  clear hh
  refine exec_seq (exec_seq (exec_region_o fun ds => ?_))
  gi_wp2
  refine eq_mk (Keep.refl _) ?_
  show Exec _ _ (Code.block _ _) _ _ _
  refine exec_block ?_
  refine exec_loop (I28 w a s g) a.N.length ⟨0, by omega, rfl, hBZ, f4, f5, fg, by simp [Slots, Fits]⟩ ?_
  clear hBZ f4 f5 fg f2 c1
  clear Z
  rintro n t W ⟨k, hk, hn, hV, h4, h5, hgg, hSl⟩
  have HN := Lib.hid hn
  clear hn
  obtain ⟨x, hx⟩ := Slots.open_ hSl; simp only [fill, Nat.reduceAdd] at hx; subst hx; clear hSl
  show Exec _ _ (Code.seq _ (Code.seq _ _)) _ _ _
  refine exec_seq (exec_region_o fun ds => ?_)
  gi_wp2
  refine eq_mk (Keep.refl _) ?_
  show Exec _ _ (Code.seq (Code.cond _ _ _) _) _ _ _
  refine exec_seq (exec_cond (b := decide (k < a.N.length)) (by first | rfl | (show Value.bool _ = _; congr 1; exact decide_eq_decide.2 (by omega))) (fun hp => exec_skip ?_) (fun hp => exec_exit ?_))
  · have hkl : k < a.N.length := by have := of_decide_eq_true hp; omega
    obtain ⟨ad, hA, hcl⟩ := row_int (ha.below hV).n hkl
    have hyb := hf.nb _ (List.getElem_mem hkl)
    obtain ⟨y, hy⟩ : ∃ y : Nat, a.N[k] = y := ⟨(a.N[k]).toNat, by omega⟩
    have hsy : a.s3.2.1.getD k 0 = y := by
      show (a.N.map Int.toNat).getD k 0 = y
      rw [List.getD_eq_getElem?_getD, List.getElem?_map, List.getElem?_eq_getElem hkl]
      simp [hy]
    rw [hy] at hcl
    have hkI : (k : Int) < a.N.length := by omega
    have hsucc := noTo_succ (a := a) (s := s) hkl
    have hget := noTo_get (a := a) (s := s) (k := k) hkl
    rw [show decide (k < k) = false from decide_eq_false (by omega)] at hget
    simp only [Bool.false_and, Bool.false_eq_true, if_false] at hget
    rw [hsy] at hsucc
    have HS := Lib.hid hsucc
    clear hsucc hy hsy hyb
    simp only [hA]
    have HAd := Lib.hid hA
    clear hA
    refine exec_cut (fun t' Y => Below w.heap.size w Y ∧ Y.heap[w.heap.size + 1]? = some (.cells #[.slice none 0 0, .slice none 0 0, .slice none 0 0] 25 (0, 0)) ∧ Y.heap[w.heap.size + 1 + 1]? = some (.cells #[a.sL, .slice (some ⟨g, 0, none⟩) a.N.length a.N.length, a.sK] 25 (0, 0)) ∧ Y.heap[g]? = some (.cells ((noTo a s (k + 1)).map iv).toArray 3 (0, 0)) ∧ Slots (none :: some (iv s) :: some (.pointer (some ⟨w.heap.size, 0, none⟩)) :: none :: some (.pointer (some ⟨w.heap.size + 1, 0, none⟩)) :: some (.pointer (some ⟨w.heap.size + 1 + 1, 0, none⟩)) :: none :: o4 (o4 (some (.slice a.AN a.N.length a.cN) :: some (iv a.N.length) :: some (iv k) :: o16 []))) t') (exec_block ?_) ?_
    · show Exec _ _ (Code.seq _ (Code.seq _ _)) _ _ _
      refine exec_seq (exec_region_o fun ds => ?_)
      gi_wp2
      refine eq_mk (Keep.refl _) ?_
      show Exec _ _ (Code.seq _ _) _ _ _
      have hbit := bit_i s k hs
      refine exec_seq (exec_region_o fun ds => ?_)
      gi_wp2
      refine eq_mk (Keep.refl _) ?_
      show Exec _ _ (Code.cond _ _ _) _ _ _
      clear hbit
      cases hq : s.testBit k with
      | false =>
        refine exec_cond (b := false) rfl (fun h => by cases h) (fun _ => exec_skip ?_)
        refine ⟨hV, h4, h5, ?_, by simp [Slots, Fits, HAd.out]⟩
        rw [HS.out, hq, if_neg (by simp)]
        exact hgg
      | true =>
        have HQ := Lib.hid hq
        clear hq
        refine exec_cond (b := true) rfl (fun _ => ?_) (fun h => by cases h)
        have d0 := cells_get (cs := [_, _, _]) (k := 1) h5 rfl
        have ck : W.cell? ⟨g, k, none⟩ = some (iv 0) := cells_get (cs := (noTo a s k).map iv) hgg (by rw [List.getElem?_map, hget]; rfl)
        have cf : W.frozen? ⟨g, k, none⟩ = false := frozen_cells hgg
        refine exec_region_o fun ds => ?_
        gi_wp2
        refine eq_mk ((Keep.refl _).setCell _ _) ⟨hV.setCell (p := ⟨g, k, none⟩) (by show w.heap.size ≤ g; omega) _, box_far _ _ _ _ _ _ h4 (by omega), box_far _ _ _ _ _ _ h5 (by omega), ?_, by simp [Slots, Fits, HAd.out]⟩
        rw [HS.out, HQ.out, if_pos rfl, ← map_set]
        exact box_set W g k _ 3 _ hgg
    · clear hV h4 h5 hgg hcl x
      clear W
      rintro t' Y ⟨hV, h4, h5, hgg, hSl⟩
      obtain ⟨x, hx⟩ := Slots.open_ hSl; simp only [fill, Nat.reduceAdd] at hx; subst hx; clear hSl
      have hw : IntKind.i64.wrap ((k : Int) + 1) = ((k + 1 : Nat) : Int) := by rw [IntWalk.i64_in _ (by omega)]; norm_cast
      refine exec_region_o fun ds => ?_
      gi_wp2
      exact eq_mk (Keep.refl _) ⟨n - 1, by rw [HN.out]; omega, k + 1, by omega, by rw [HN.out]; omega, hV, h4, h5, hgg, by simp only [Slots, Fits, and_self]; simp [HAd.out]⟩
  · have hkl : k = a.N.length := by have := of_decide_eq_false hp; omega
    rw [hkl, noTo_end] at hgg
    have hlen : (onlyN s a.s3.2.1).length = a.N.length := by rw [onlyN_len, s3_nlen]
    have h5' := h5
    simp only [XP.sL, XP.sK] at h5'
    have c0 := cells_get (cs := [_, _, _]) (k := 0) h5' rfl
    have c1 := cells_get (cs := [_, _, _]) (k := 1) h5' rfl
    have c2 := cells_get (cs := [_, _, _]) (k := 2) h5' rfl
    have d0 := cells_get (cs := [_, _, _]) (k := 0) h4 rfl
    have d1 := cells_get (cs := [_, _, _]) (k := 1) h4 rfl
    have d2 := cells_get (cs := [_, _, _]) (k := 2) h4 rfl
    have df : ∀ o, W.frozen? ⟨w.heap.size + 1, o, none⟩ = false := fun o => frozen_cells h4
    have e0 := box_set _ (w.heap.size + 1) 0 [.slice none 0 0, .slice none 0 0, .slice none 0 0] 25 (.slice a.AL a.L.length a.cL) h4
    have e1 := box_set _ (w.heap.size + 1) 1 [.slice a.AL a.L.length a.cL, .slice none 0 0, .slice none 0 0] 25 (.slice (some ⟨g, 0, none⟩) a.N.length a.N.length) e0
    have e2 := box_set _ (w.heap.size + 1) 2 [.slice a.AL a.L.length a.cL, .slice (some ⟨g, 0, none⟩) a.N.length a.N.length, .slice none 0 0] 25 (.slice a.AK a.K.length a.cK) e1
    have hB := ((hV.setCell (p := ⟨w.heap.size + 1, 0, none⟩) (by show w.heap.size ≤ w.heap.size + 1; omega) (.slice a.AL a.L.length a.cL)).setCell (p := ⟨w.heap.size + 1, 1, none⟩) (by show w.heap.size ≤ w.heap.size + 1; omega) (.slice (some ⟨g, 0, none⟩) a.N.length a.N.length)).setCell (p := ⟨w.heap.size + 1, 2, none⟩) (by show w.heap.size ≤ w.heap.size + 1; omega) (.slice a.AK a.K.length a.cK)
    have hgf := box_far _ (w.heap.size + 1) 2 g (.slice a.AK a.K.length a.cK) _ (box_far _ (w.heap.size + 1) 1 g (.slice (some ⟨g, 0, none⟩) a.N.length a.N.length) _ (box_far _ (w.heap.size + 1) 0 g (.slice a.AL a.L.length a.cL) _ hgg (by omega)) (by omega)) (by omega)
    show Exec _ _ (Code.seq _ _) _ _ _
    refine exec_seq (exec_region_o fun ds => ?_)
    gi_wp2
    refine eq_mk ((((Keep.refl _).setCell _ _).setCell _ _).setCell _ _) ?_
    show Exec _ _ _ _ _ _
    refine exec_ret ⟨.inr rfl, fun W' hG => ?_⟩
    have g2 := hG.same _ _ e2 (.inr rfl)
    have k0 := cells_get (cs := [_, _, _]) (k := 0) g2 rfl
    have k1 := cells_get (cs := [_, _, _]) (k := 1) g2 rfl
    have k2 := cells_get (cs := [_, _, _]) (k := 2) g2 rfl
    have hBG := hB.trans (hG.below (Nat.le_refl _) hB.size)
    have hat0 := ha.below hBG
    refine ⟨.agg #[.slice a.AL a.L.length a.cL, .slice (some ⟨g, 0, none⟩) a.N.length a.N.length, .slice a.AK a.K.length a.cK], by simp [results, Try.f28, go_sem, hu25, k0, k1, k2], g, ?_, ⟨hat0.l, ?_, hat0.k, hat0.l4, by show ((onlyN s a.s3.2.1).map _).length ≤ 40; rw [List.length_map, hlen]; omega, hat0.k4⟩, hBG⟩
    · simp [XP.val, XP.sL, XP.sN, XP.sK, XP.onlyX, hlen]
    · show RowV W' (some ⟨g, 0, none⟩) (((onlyN s a.s3.2.1).map fun n : Nat => (n : Int)).map vi)
      rw [List.map_map]
      exact row_of_cells (hG.same _ _ hgf (.inr rfl))
set_option maxRecDepth 100000 in
set_option maxHeartbeats 1000000 in
theorem can27 (a : XP) (hf : a.Fine) (s : Nat) (hs : s < 2 ^ 62) (b : Nat) (w : World) (hb : PBx w b a) : Calls Try.prog 27 #[iv s, .pointer (some ⟨b, 0, none⟩)] w fun e w' => e = .returned (.bool (canV (toP (a.s3.only s)))) ∧ Below w.heap.size w w' := by
  have hu25 := Try.underlying25
  obtain ⟨R, hR⟩ : ∃ R, canV (toP (a.s3.only s)) = R := ⟨_, rfl⟩
  rw [hR]
  have HR := Lib.hid hR
  clear hR
  refine calls_of_exec Try.func27 rfl ?_
  simp only [Try.ntmps27, List.size_toArray, List.length_cons, List.length_nil, Nat.reduceAdd, Nat.reduceSub, Array.replicate_succ, Array.replicate_zero, List.push_toArray, List.append_toArray, List.nil_append, List.cons_append]
  refine exec_seq (exec_region_o fun ds => ?_)
  gi_wp2
  refine eq_mk (Keep.refl w) ?_
  show Exec _ _ (Code.seq _ _) _ _ _
  have c0 := cells_get (cs := [_, _, _]) (k := 0) hb.heap rfl
  have c1 := cells_get (cs := [_, _, _]) (k := 1) hb.heap rfl
  have c2 := cells_get (cs := [_, _, _]) (k := 2) hb.heap rfl
  refine exec_seq (exec_region_o fun ds => ?_)
  gi_wp2_with fail
  refine ⟨trivial, rfl, (callsIn_wide.2 (only28 a hf s hs w hb.at_)).mono ?_⟩
  rintro e X ⟨g, rfl, ha, hx⟩
  have hfy := XP.onlyX_fine hf g s
  have hs3 := XP.onlyX_s3 a g s
  have hres : (sitA (a.onlyX g s)).2 = if R then 0 else 4 := by
    unfold sitA
    rw [isP_of_fine hfy, if_pos rfl, hs3, HR.out]
    cases R <;> rfl
  generalize a.onlyX g s = y at *
  gi_wp2_with fail
  refine ⟨trivial, rfl, (callsIn_wide.2 (Sit_any y X ha)).mono ?_⟩
  rintro e Y ⟨A2, c2', rfl, hr, hy⟩
  rw [hres]
  have hxy := hx.trans (hy.mono hx.size)
  clear hr hres
  cases R with
  | true =>
    simp only [if_true]
    gi_wp2
    refine eq_mk (Keep.of_below hxy) ?_
    show Exec _ _ (Code.seq _ _) _ _ _
    refine exec_seq (exec_region_o fun ds => ?_)
    gi_wp2
    refine eq_mk (Keep.refl _) ?_
    exact exec_ret ⟨.inr rfl, fun W' hG => ⟨.bool true, by simp [results, Try.f27, go_sem], rfl, hxy.trans (hG.below (Nat.le_refl _) hxy.size)⟩⟩
  | false =>
    simp only [Bool.false_eq_true, if_false]
    gi_wp2
    refine eq_mk (Keep.of_below hxy) ?_
    show Exec _ _ (Code.seq _ _) _ _ _
    refine exec_seq (exec_region_o fun ds => ?_)
    gi_wp2
    refine eq_mk (Keep.refl _) ?_
    exact exec_ret ⟨.inr rfl, fun W' hG => ⟨.bool false, by simp [results, Try.f27, go_sem], rfl, hxy.trans (hG.below (Nat.le_refl _) hxy.size)⟩⟩
end Go.Proofs.Ytbdmmikflkpmpaa
end

section
set_option linter.unusedVariables false
set_option linter.unusedSimpArgs false
namespace Go.Proofs.Ytbdmmikflkpmpaa
open Go.RowKit Go.TL Go.Shelf Go.Pn
attribute [local go_sem] Oper.semAt_some
attribute [local go_sem] run_store_func
theorem sumN_lt {f g : Nat → Nat} {n i : Nat} (hi : i < n) (h : ∀ k, k < n → f k ≤ g k) (hs : f i < g i) : sumN f n < sumN g n := by
  refine Nat.lt_of_le_of_ne (sumN_le n h) fun e => ?_
  have := sumN_eq_all n h e i hi
  omega
theorem sumN_if (T : Bool) (f : Nat → Nat) (n : Nat) : sumN (fun j => if T then f j else 0) n = if T then sumN f n else 0 := by
  cases T
  · exact sumN_zero n
  · rfl
def needS (P : Pnl) (T : Nat → Bool) : Nat := sumN (fun p => if T p then P.needs.getD p 0 else 0) P.needs.length
def capS (P : Pnl) (T : Nat → Bool) : Nat := sumN (fun j => min (P.loads.getD j 0) (sumN (fun p => b1 (T p && (P.fit.getD p 0).testBit j)) P.needs.length)) P.loads.length
theorem sum_at (a : Asg) (T : Nat → Bool) (nP nJ : Nat) : sumN (fun p => if T p then cntJ a nJ p else 0) nP = sumN (fun j => sumN (fun p => b1 (T p && a p j)) nP) nJ := by
  rw [← sumN_swap]
  refine sumN_congr nP fun p _ => ?_
  show (if T p then sumN (fun j => b1 (a p j)) nJ else 0) = _
  rw [← sumN_if]
  refine sumN_congr nJ fun j _ => ?_
  cases T p <;> rfl
theorem b1_le {x y : Bool} (h : x = true → y = true) : b1 x ≤ b1 y := by
  cases x with
  | false => exact Nat.zero_le _
  | true => rw [h rfl]; exact Nat.le_refl _
/-- There is a seating just when no plots need more than can be had. -/
theorem can_hall {P : Pnl} (hP : P.Ok) : canV P = true ↔ ∀ T : Nat → Bool, needS P T ≤ capS P T := by
  constructor
  · intro h T
    obtain ⟨g, hg⟩ := (can_is hP).1 h
    have h1 : needS P T = sumN (fun p => if T p then cntJ g P.loads.length p else 0) P.needs.length := sumN_congr _ fun p hp => by rw [hg.eq p hp]
    rw [h1, sum_at]
    refine sumN_le _ fun j hj => Nat.le_min.2 ⟨?_, sumN_le _ fun p hp => b1_le fun hb => ?_⟩
    · refine Nat.le_trans (sumN_le _ fun p hp => ?_) (hg.feas.load j hj)
      exact b1_le fun hb => (Bool.and_eq_true_iff.1 hb).2
    · rw [Bool.and_eq_true] at hb ⊢
      exact ⟨hb.1, hg.feas.fit p j hp hj hb.2⟩
  · intro h
    classical
    have hi := seatAll_inv hP P.needs.length (Nat.le_refl _)
    obtain ⟨R, S, h1, h2⟩ := hi.shut
    generalize hst : (seatAll P P.needs.length).2 = st at *
    have hok : Okay P st := by rw [← hst]; exact hi.ok
    have hle : ∀ q, q < P.needs.length → cntJ st.at_ P.loads.length q ≤ P.needs.getD q 0 := fun q hq => by
      have := hi.le q hq
      rw [if_pos hq, hst] at this
      exact this
    have hR : ∀ q, q < P.needs.length → cntJ st.at_ P.loads.length q < P.needs.getD q 0 → R q := fun q hq hlt => h2 q hq (by rw [if_pos hq]; exact hlt)
    refine (can_is hP).2 ⟨st.at_, ⟨⟨fun p j _ _ hh => (hok.fit p j hh).2.2, hok.load⟩, fun p hp => ?_⟩⟩
    refine Classical.byContradiction fun hne => ?_
    have hlt : cntJ st.at_ P.loads.length p < P.needs.getD p 0 := Nat.lt_of_le_of_ne (hle p hp) hne
    have hT := h (fun q => decide (R q))
    have hn : sumN (fun q => if decide (R q) = true then cntJ st.at_ P.loads.length q else 0) P.needs.length < needS P fun q => decide (R q) := by
      refine sumN_lt hp (fun k hk => ?_) ?_
      · split
        · exact hle k hk
        · exact Nat.le_refl _
      · rw [if_pos (decide_eq_true (hR p hp hlt)), if_pos (decide_eq_true (hR p hp hlt))]
        exact hlt
    rw [sum_at] at hn
    have hc : capS P (fun q => decide (R q)) ≤ sumN (fun j => sumN (fun q => b1 (decide (R q) && st.at_ q j)) P.needs.length) P.loads.length := by
      refine sumN_le _ fun j hj => ?_
      by_cases hs : S j
      · refine Nat.le_trans (Nat.min_le_left _ _) (Nat.le_trans (h1.full j hj hs) ?_)
        refine sumN_le _ fun q hq => b1_le fun hb => ?_
        rw [hb, decide_eq_true (h1.back q j hq hj hs hb)]
        rfl
      · refine Nat.le_trans (Nat.min_le_right _ _) (sumN_le _ fun q hq => b1_le fun hb => ?_)
        rw [Bool.and_eq_true] at hb ⊢
        refine ⟨hb.1, ?_⟩
        cases ha : st.at_ q j with
        | true => rfl
        | false => exact absurd (h1.out q j hq hj (of_decide_eq_true hb.1) hb.2 ha) hs
    omega
theorem pop_eq_bits {s t : Nat} (hsub : ∀ i, i < 10 → t.testBit i = true → s.testBit i = true) (h : pop s ≤ pop t) : ∀ i, i < 10 → t.testBit i = s.testBit i := by
  intro i hi
  have h1 : pop t ≤ pop s := sumN_le 10 fun k hk => b1_le (hsub k hk)
  have h2 := sumN_eq_all (f := fun j => b1 (t.testBit j)) (g := fun j => b1 (s.testBit j)) 10 (fun k hk => b1_le (hsub k hk)) (Nat.le_antisymm h1 h) i hi
  cases ha : t.testBit i <;> cases hb : s.testBit i <;> simp [ha, hb, b1] at h2 ⊢
/-- How many of some plots a judge can sit on. -/
def freeT (a : XP) (s j : Nat) : Nat → Nat := sumN fun i => b1 (s.testBit i && !kinB a j i)
def capT (a : XP) (s : Nat) : Nat → Nat := sumN fun j => min (a.s3.1.getD j 0) (freeT a s j a.N.length)
def needT (a : XP) (s : Nat) : Nat → Nat := sumN fun i => if s.testBit i then a.s3.2.1.getD i 0 else 0
structure ShFacts (a : XP) (s : Nat) : Prop where
  pos : 0 < s
  lt : s < 2 ^ a.N.length
  no : canV (toP (a.s3.only s)) = false
  drop : ∀ i, i < a.N.length → s.testBit i = true → canV (toP (a.s3.only (clrB s i))) = true
  min : ∀ t, t < 2 ^ a.N.length → canV (toP (a.s3.only t)) = false → pop s < pop t ∨ (pop s = pop t ∧ s ≤ t)
  less : capT a s a.L.length < needT a s a.N.length
theorem s3_kin {a : XP} (hf : a.Fine) {i j : Nat} (hi : i < a.N.length) (hj : j < a.L.length) (x : Nat) : ((toP (a.s3.only x)).fit.getD i 0).testBit j = !kinB a j i := by
  have hg := XP.good hf
  have hN := s3_nlen a
  have hL : a.s3.1.length = a.L.length := by simp [XP.s3]
  show ((kinF (List.replicate (onlyN x a.s3.2.1).length (2 ^ a.s3.1.length - 1)) a.s3.2.2).getD i 0).testBit j = _
  rw [onlyN_len, kinF_bit _ _ (fun k hk => by have := hg.k1 k hk; have := hg.j; omega) (fun q => rep_lt (two_lt hg.j) q) i j (by rw [List.length_replicate, hN]; exact hi)]
  have e1 : ((List.replicate a.s3.2.1.length (2 ^ a.s3.1.length - 1)).getD i 0).testBit j = true := by
    rw [List.getD_eq_getElem?_getD, List.getElem?_replicate, if_pos (by rw [hN]; exact hi)]
    show (2 ^ a.s3.1.length - 1).testBit j = true
    rw [Nat.testBit_two_pow_sub_one, hL, decide_eq_true hj]
  rw [e1, Bool.true_and]
  congr 1
  unfold kinB
  rw [Bool.eq_iff_iff, decide_eq_true_iff, List.any_eq_true]
  constructor
  · intro h
    obtain ⟨k, hk, e⟩ := List.mem_map.1 (show (j, i) ∈ a.K.map fun k => (k.1.toNat, k.2.toNat) from h)
    have := hf.kb k hk
    simp only [Prod.mk.injEq] at e
    refine ⟨k, hk, ?_⟩
    rw [decide_eq_true (by omega), decide_eq_true (by omega)]
    rfl
  · rintro ⟨k, hk, e⟩
    rw [Bool.and_eq_true, decide_eq_true_iff, decide_eq_true_iff] at e
    refine List.mem_map.2 ⟨k, hk, ?_⟩
    rw [e.1, e.2]
    rfl
theorem only_all {x : S3} (s : Nat) (h : ∀ i, i < x.2.1.length → s.testBit i = true) : x.only s = x := by
  have : onlyN s x.2.1 = x.2.1 := by
    refine List.ext_getElem? fun i => ?_
    by_cases hi : i < x.2.1.length
    · rw [List.getElem?_eq_getElem (by rw [onlyN_len]; exact hi), List.getElem?_eq_getElem hi, ← getD_lt, ← getD_lt, onlyN_get, if_pos (h i hi)]
    · rw [List.getElem?_eq_none (by rw [onlyN_len]; omega), List.getElem?_eq_none (by omega)]
  unfold S3.only
  rw [this]
theorem only_can {a : XP} (hf : a.Fine) (s : Nat) (h : canV (toP a.s3) = true) : canV (toP (a.s3.only s)) = true := by
  have hg := XP.good hf
  have hall : a.s3.only (2 ^ a.N.length - 1) = a.s3 := only_all _ fun i hi => by
    rw [Nat.testBit_two_pow_sub_one, decide_eq_true (by rw [← s3_nlen]; exact hi)]
  refine (can_hall (toP_Fit (hg.only s)).ok).2 fun T => ?_
  have hT := (can_hall (toP_Fit hg).ok).1 h fun p => T p && s.testBit p
  have hln : (toP (a.s3.only s)).needs.length = (toP a.s3).needs.length := onlyN_len _ _
  have hfit : (toP (a.s3.only s)).fit = (toP a.s3).fit := by
    show kinF (List.replicate (onlyN s a.s3.2.1).length _) _ = kinF (List.replicate a.s3.2.1.length _) _
    rw [onlyN_len]
    rfl
  have e1 : needS (toP (a.s3.only s)) T = needS (toP a.s3) fun p => T p && s.testBit p := by
    unfold needS
    rw [hln]
    refine sumN_congr _ fun p hp => ?_
    show (if T p then (onlyN s a.s3.2.1).getD p 0 else 0) = if (T p && s.testBit p) = true then a.s3.2.1.getD p 0 else 0
    rw [onlyN_get]
    cases T p <;> cases s.testBit p <;> rfl
  have e2 : capS (toP a.s3) (fun p => T p && s.testBit p) ≤ capS (toP (a.s3.only s)) T := by
    unfold capS
    rw [hln, hfit]
    refine sumN_le _ fun j hj => Nat.le_min.2 ⟨Nat.min_le_left _ _, Nat.le_trans (Nat.min_le_right _ _) (sumN_le _ fun p hp => b1_le fun hb => ?_)⟩
    rw [Bool.and_eq_true, Bool.and_eq_true] at hb
    rw [hb.1.1, hb.2]
    rfl
  omega
theorem short_none {a : XP} (hf : a.Fine) (h : shortF a.s3 = none) : canV (toP a.s3) = true := by
  unfold shortF at h
  have hn6 := hf.p
  have hl : a.s3.2.1.length ≤ 10 := by rw [s3_nlen]; omega
  have hall : a.s3.only (2 ^ a.s3.2.1.length - 1) = a.s3 := only_all _ fun i hi => by
    rw [Nat.testBit_two_pow_sub_one, decide_eq_true hi]
  have := List.find?_eq_none.1 h _ ((mem_bySize_iff hl).2 (show 2 ^ a.s3.2.1.length - 1 < _ by have := Nat.one_le_two_pow (n := a.s3.2.1.length); omega))
  rw [hall] at this
  simpa using this
theorem only_zero (a : XP) (hf : a.Fine) : canV (toP (a.s3.only 0)) = true := by
  refine (can_hall (toP_Fit ((XP.good hf).only 0)).ok).2 fun T => ?_
  have : needS (toP (a.s3.only 0)) T = 0 := by
    unfold needS
    refine Eq.trans (sumN_congr _ fun p hp => ?_) (sumN_zero _)
    show (if T p then (onlyN 0 a.s3.2.1).getD p 0 else 0) = 0
    rw [onlyN_get, Nat.zero_testBit]
    cases T p <;> rfl
  omega
theorem short_facts {a : XP} (hf : a.Fine) {s : Nat} (h : shortF a.s3 = some s) : ShFacts a s ∧ canV (toP a.s3) = false := by
  have hn6 := hf.p
  have hj6 := hf.j
  have hg := XP.good hf
  have hN := s3_nlen a
  have hL : a.s3.1.length = a.L.length := by simp [XP.s3]
  have h' : (bySize a.N.length).find? (fun s => !canV (toP (a.s3.only s))) = some s := by rw [← hN]; exact h
  obtain ⟨h1, h2, h3⟩ := bySize_min (by omega) h'
  have hno : canV (toP (a.s3.only s)) = false := by simpa using h2
  have hmin : ∀ t, t < 2 ^ a.N.length → canV (toP (a.s3.only t)) = false → pop s < pop t ∨ (pop s = pop t ∧ s ≤ t) := fun t ht hc => h3 t ht (by rw [hc]; rfl)
  have hs64 : s < 2 ^ 64 := Nat.lt_of_lt_of_le h1 (Nat.pow_le_pow_right (by omega) (by omega))
  refine ⟨⟨?_, h1, hno, ?_, hmin, ?_⟩, ?_⟩
  · refine Nat.pos_of_ne_zero fun e => ?_
    subst e
    rw [only_zero a hf] at hno
    cases hno
  · intro i hi hb
    cases hc : canV (toP (a.s3.only (clrB s i))) with
    | true => rfl
    | false =>
      have hp := pop_clr hs64 (show i < 10 by omega) hb
      have := hmin (clrB s i) (Nat.lt_of_le_of_lt Nat.and_le_left h1) hc
      omega
  · have hln : (toP (a.s3.only s)).needs.length = a.N.length := (onlyN_len _ _).trans hN
    have hnh : ¬ ∀ T : Nat → Bool, needS (toP (a.s3.only s)) T ≤ capS (toP (a.s3.only s)) T := fun hh => by
      rw [(can_hall (toP_Fit (hg.only s)).ok).2 hh] at hno
      cases hno
    obtain ⟨T, hT⟩ := Classical.not_forall.1 hnh
    replace hT := Nat.lt_of_not_le hT
    -- the plots that are both
    have hbit : ∀ i, (mkS (fun p => T p && s.testBit p) a.N.length).testBit i = (decide (i < a.N.length) && (T i && s.testBit i)) := fun i => mkS_bit _ _ _
    have hmlt := mkS_lt (fun p => T p && s.testBit p) a.N.length
    generalize mkS (fun p => T p && s.testBit p) a.N.length = m at hbit hmlt
    have hlm : (toP (a.s3.only m)).needs.length = a.N.length := (onlyN_len _ _).trans hN
    have hfit : (toP (a.s3.only m)).fit = (toP (a.s3.only s)).fit := by
      show kinF (List.replicate (onlyN m a.s3.2.1).length _) _ = kinF (List.replicate (onlyN s a.s3.2.1).length _) _
      rw [onlyN_len, onlyN_len]
      rfl
    have e1 : needS (toP (a.s3.only m)) T = needS (toP (a.s3.only s)) T := by
      unfold needS
      rw [hlm, hln]
      refine sumN_congr _ fun p hp => ?_
      show (if T p then (onlyN m a.s3.2.1).getD p 0 else 0) = if T p then (onlyN s a.s3.2.1).getD p 0 else 0
      rw [onlyN_get, onlyN_get, hbit, decide_eq_true hp]
      cases T p <;> rfl
    have e2 : capS (toP (a.s3.only m)) T = capS (toP (a.s3.only s)) T := by
      unfold capS
      rw [hlm, hln, hfit]
      rfl
    have hmc : canV (toP (a.s3.only m)) = false := by
      cases hc : canV (toP (a.s3.only m)) with
      | false => rfl
      | true =>
        have := (can_hall (toP_Fit (hg.only m)).ok).1 hc T
        omega
    have hpop : pop s ≤ pop m := by
      have := hmin m hmlt hmc
      omega
    have heq := pop_eq_bits (fun i _ hb => by
      rw [hbit, Bool.and_eq_true, Bool.and_eq_true] at hb
      exact hb.2.2) hpop
    have hTs : ∀ i, i < a.N.length → s.testBit i = true → T i = true := fun i hi hb => by
      have := heq i (by omega)
      rw [hbit, hb, Bool.and_eq_true, Bool.and_eq_true] at this
      exact this.2.1
    have e3 : needS (toP (a.s3.only s)) T = needT a s a.N.length := by
      unfold needS needT
      rw [hln]
      refine sumN_congr _ fun p hp => ?_
      show (if T p then (onlyN s a.s3.2.1).getD p 0 else 0) = _
      rw [onlyN_get]
      cases hb : s.testBit p with
      | false => cases T p <;> rfl
      | true => rw [hTs p hp hb]; rfl
    have e4 : capT a s a.L.length ≤ capS (toP (a.s3.only s)) T := by
      have : (toP (a.s3.only s)).loads.length = a.L.length := hL
      unfold capS capT
      rw [hln, this]
      refine sumN_le _ fun j hj => Nat.le_min.2 ⟨Nat.min_le_left _ _, Nat.le_trans (Nat.min_le_right _ _) (sumN_le _ fun p hp => b1_le fun hb => ?_)⟩
      rw [Bool.and_eq_true] at hb
      rw [s3_kin hf hp hj, hb.2, hTs p hp hb.1]
      rfl
    omega
  · cases hc : canV (toP a.s3) with
    | false => rfl
    | true =>
      rw [only_can hf s hc] at hno
      cases hno
end Go.Proofs.Ytbdmmikflkpmpaa
end

section
set_option linter.unusedVariables false
set_option linter.unusedSimpArgs false
namespace Go.Proofs.Ytbdmmikflkpmpaa
open Go.RowKit Go.TL Go.Shelf Go.Pn
attribute [local go_sem] Oper.semAt_some
attribute [local go_sem] run_store_func
theorem sitG_lex (n : Nat) : ∀ (r : List (Nat × Nat)) (l t : List Nat), t ∈ seqs n r.length → okL r l t = true → ∀ i, i < r.length → (∀ k, k < i → (sitG n r l).getD k 0 = t.getD k 0) → (sitG n r l).getD i 0 ≤ t.getD i 0
  | [], l, t, _, _, i, hi, _ => absurd hi (Nat.not_lt_zero _)
  | x :: r, l, t, ht, hok, i, hi, heq => by
    obtain ⟨s0, hs0, ht⟩ := List.mem_flatMap.1 ht
    obtain ⟨u, hu, rfl⟩ := List.mem_map.1 ht
    have hok' : (okS x.1 x.2 s0 && canL l s0 && okL r (subL l s0) u) = true := hok
    have hq0 : (okS x.1 x.2 s0 && canL l s0 && (seqs n r.length).any (okL r (subL l s0))) = true := by
      rw [Bool.and_eq_true] at hok' ⊢
      exact ⟨hok'.1, List.any_eq_true.2 ⟨u, hu, hok'.2⟩⟩
    rw [Bool.and_eq_true] at hok'
    have hd : sitG n (x :: r) l = (match (List.range (2 ^ n)).find? (fun s => okS x.1 x.2 s && canL l s && (seqs n r.length).any (okL r (subL l s))) with | some s => s :: sitG n r (subL l s) | none => sitG n r l) := rfl
    cases hq : (List.range (2 ^ n)).find? (fun s => okS x.1 x.2 s && canL l s && (seqs n r.length).any (okL r (subL l s))) with
    | none => exact absurd hq0 (by simpa using List.find?_eq_none.1 hq s0 hs0)
    | some s =>
      rw [hq] at hd
      simp only at hd
      obtain ⟨_, _, hmin⟩ := range_find hq
      rw [hd] at heq ⊢
      match i with
      | 0 =>
        show s ≤ s0
        refine Nat.le_of_not_lt fun hlt => ?_
        have := hmin s0 hlt
        simp only [hq0] at this
        cases this
      | i + 1 =>
        have e0 : s = s0 := heq 0 (by omega)
        subst e0
        exact sitG_lex n r _ u hu hok'.2 i (by simpa using hi) fun k hk => heq (k + 1) (by omega)
theorem sit_tie {a : XP} (hf : a.Fine) (hc : canV (toP a.s3) = true) : ∀ k, k ≤ a.N.length → (seqs a.L.length ((nf (toP a.s3)).drop k).length).any (okL ((nf (toP a.s3)).drop k) (sitFold a k).2) = true ∧ (sitFold a k).1 ++ sitG a.L.length ((nf (toP a.s3)).drop k) (sitFold a k).2 = sitG a.L.length (nf (toP a.s3)) a.s3.1
  | 0, _ => by
    have hF := toP_Fit (XP.good hf)
    have := hc
    rw [can_seqs hF, ← nf_len hF] at this
    have hL : (toP a.s3).loads.length = a.L.length := by simp [toP, XP.s3]
    rw [hL] at this
    exact ⟨this, rfl⟩
  | k + 1, hk => by
    obtain ⟨h1, h2⟩ := sit_tie hf hc k (by omega)
    have hF := toP_Fit (XP.good hf)
    have hnl : (toP a.s3).needs.length = a.N.length := by simp [toP, XP.s3]
    have hx := nf_get hF (i := k) (by omega)
    have hkl := (List.getElem?_eq_some_iff.1 hx).1
    have hdr : (nf (toP a.s3)).drop k = ((toP a.s3).needs.getD k 0, (toP a.s3).fit.getD k 0) :: (nf (toP a.s3)).drop (k + 1) := by
      rw [List.drop_eq_getElem_cons hkl, (List.getElem?_eq_some_iff.1 hx).2]
    rw [hdr] at h1 h2
    have hd : sitG a.L.length (((toP a.s3).needs.getD k 0, (toP a.s3).fit.getD k 0) :: (nf (toP a.s3)).drop (k + 1)) (sitFold a k).2 = (match (List.range (2 ^ a.L.length)).find? (okTry a k (sitFold a k).2) with | some s => s :: sitG a.L.length ((nf (toP a.s3)).drop (k + 1)) (subL (sitFold a k).2 s) | none => sitG a.L.length ((nf (toP a.s3)).drop (k + 1)) (sitFold a k).2) := rfl
    rw [hd] at h2
    rw [sitFold_succ]
    unfold sitStep
    cases hq : (List.range (2 ^ a.L.length)).find? (okTry a k (sitFold a k).2) with
    | none =>
      exfalso
      obtain ⟨t, ht, hok⟩ := List.any_eq_true.1 h1
      obtain ⟨s, hs, ht⟩ := List.mem_flatMap.1 ht
      obtain ⟨u, hu, rfl⟩ := List.mem_map.1 ht
      have hok' : (okS ((toP a.s3).needs.getD k 0) ((toP a.s3).fit.getD k 0) s && canL (sitFold a k).2 s && okL ((nf (toP a.s3)).drop (k + 1)) (subL (sitFold a k).2 s) u) = true := hok
      rw [Bool.and_eq_true] at hok'
      have := List.find?_eq_none.1 hq s hs
      refine this ?_
      unfold okTry
      rw [hok'.1, Bool.true_and]
      exact List.any_eq_true.2 ⟨u, hu, hok'.2⟩
    | some s =>
      rw [hq] at h2
      simp only at h2
      obtain ⟨_, hs, _⟩ := range_find hq
      unfold okTry at hs
      rw [Bool.and_eq_true] at hs
      refine ⟨hs.2, ?_⟩
      rw [← h2]
      simp
/-- What is told of the first seating. -/
structure SeFacts (a : XP) (l : List Nat) : Prop where
  mem : l ∈ seqs a.L.length a.N.length
  ok : okL (nf (toP a.s3)) a.s3.1 l = true
  lex : ∀ t ∈ seqs a.L.length a.N.length, okL (nf (toP a.s3)) a.s3.1 t = true → ∀ i, i < a.N.length → (∀ k, k < i → l.getD k 0 = t.getD k 0) → l.getD i 0 ≤ t.getD i 0
  one : 1 ≤ countF a
  two : ∀ t ∈ seqs a.L.length a.N.length, okL (nf (toP a.s3)) a.s3.1 t = true → l ≠ t → 1 < countF a
theorem len_two {l : List (List Nat)} {x y : List Nat} (hx : x ∈ l) (hy : y ∈ l) (h : x ≠ y) : 1 < l.length := by
  match l, hx, hy with
  | [z], hx, hy =>
    rw [List.mem_singleton] at hx hy
    exact absurd (hx.trans hy.symm) h
  | _ :: _ :: _, _, _ => simp
theorem count_is {a : XP} (hf : a.Fine) : countF a = ((seqs a.L.length a.N.length).filter (okL (nf (toP a.s3)) a.s3.1)).length := by
  have hF := toP_Fit (XP.good hf)
  have hnl : (toP a.s3).needs.length = a.N.length := by simp [toP, XP.s3]
  unfold countF
  rw [ways_count, nf_len hF, hnl]
  congr 1
  refine List.filter_congr fun t _ => okL_congr fun j _ => ?_
  unfold padL
  rw [List.getD_eq_getElem?_getD, List.getD_eq_getElem?_getD]
  rcases Nat.lt_or_ge j a.s3.1.length with h | h
  · rw [List.getElem?_append_left h]
  · rw [List.getElem?_append_right h, List.getElem?_replicate, List.getElem?_eq_none h]
    split <;> rfl
theorem sit_facts {a : XP} (hf : a.Fine) (hc : canV (toP a.s3) = true) : SeFacts a (sitFold a a.N.length).1 := by
  have hF := toP_Fit (XP.good hf)
  have hnl : (toP a.s3).needs.length = a.N.length := by simp [toP, XP.s3]
  have hnf : (nf (toP a.s3)).length = a.N.length := by rw [nf_len hF, hnl]
  obtain ⟨_, h2⟩ := sit_tie hf hc a.N.length (Nat.le_refl _)
  obtain ⟨h0, _⟩ := sit_tie hf hc 0 (Nat.zero_le _)
  rw [List.drop_of_length_le (by omega)] at h2
  have h3 : (sitFold a a.N.length).1 = sitG a.L.length (nf (toP a.s3)) a.s3.1 := by
    rw [← h2]
    simp [sitG]
  have h4 := sitG_is a.L.length (nf (toP a.s3)) a.s3.1 h0
  rw [← h3, hnf] at h4
  have hmem := List.mem_of_find?_eq_some h4
  have hok : okL (nf (toP a.s3)) a.s3.1 (sitFold a a.N.length).1 = true := List.find?_some h4
  refine ⟨hmem, hok, fun t ht hto i hi he => ?_, ?_, fun t ht hto hne => ?_⟩
  · rw [h3] at he ⊢
    exact sitG_lex a.L.length _ _ t (by rw [hnf]; exact ht) hto i (by omega) he
  · rw [count_is hf]
    exact List.length_pos_of_mem (List.mem_filter.2 ⟨hmem, hok⟩)
  · rw [count_is hf]
    exact len_two (List.mem_filter.2 ⟨hmem, hok⟩) (List.mem_filter.2 ⟨ht, hto⟩) hne
theorem no_seating {a : XP} (hf : a.Fine) (hc : canV (toP a.s3) = false) : countF a = 0 ∧ ∀ t ∈ seqs a.L.length a.N.length, okL (nf (toP a.s3)) a.s3.1 t = false := by
  have hF := toP_Fit (XP.good hf)
  have hnl : (toP a.s3).needs.length = a.N.length := by simp [toP, XP.s3]
  have hL : (toP a.s3).loads.length = a.L.length := by simp [toP, XP.s3]
  have h := hc
  rw [can_seqs hF, hL, hnl, List.any_eq_false] at h
  refine ⟨?_, fun t ht => (by have h9 : ¬ okL (nf (toP a.s3)) a.s3.1 t = true := h t ht; simpa using h9)⟩
  rw [count_is hf, List.length_eq_zero_iff, List.filter_eq_nil_iff]
  exact fun t ht => h t ht
/-! ### who must sit, who never can -/
theorem pair_must {P : Pnl} (hP : PFit P) {g : Asg} (hs : Seating P g) {p j : Nat} (hp : p < P.needs.length) (hj : j < P.loads.length) (h : g p j = false) : pairV P p j ≠ 2 := by
  have hj6 := hP.ok.j
  have hc : canV (pairP1 P p j) = true := by
    refine (can_is (P := pairP1 P p j) ⟨hP.ok.j, hP.ok.p⟩).2 ⟨g, ⟨⟨fun q i hq hi hg => ?_, hs.feas.load⟩, hs.eq⟩⟩
    have hb := hs.feas.fit q i hq hi hg
    show ((P.fit.set p (clrB (P.fit.getD p 0) j)).getD q 0).testBit i = true
    rw [getD_set]
    split
    · rename_i hpq
      obtain ⟨rfl, _⟩ := hpq
      rw [clrB_bit _ _ _ (hP.lt p) (by omega), hb, Bool.true_and]
      have : j ≠ i := fun e => by
        subst e
        rw [h] at hg
        cases hg
      rw [decide_eq_false this]
      rfl
    · exact hb
  unfold pairV
  rw [hc]
  simp only [Bool.not_true, Bool.false_eq_true, if_false]
  split <;> omega
theorem pair_never {P : Pnl} (hP : PFit P) {g : Asg} (hs : Seating P g) {p j : Nat} (hp : p < P.needs.length) (hj : j < P.loads.length) (h : g p j = true) : pairV P p j ≠ 0 := by
  have hj6 := hP.ok.j
  have hfit := hs.feas.fit p j hp hj h
  have hld := hs.feas.load j hj
  have hnd := hs.eq p hp
  have h1 := sumN_mem (f := fun q => b1 (g q j)) hp
  have h2 := sumN_mem (f := fun i => b1 (g p i)) hj
  simp only [h, b1, if_true] at h1 h2
  have hld' : 0 < P.loads.getD j 0 := Nat.lt_of_lt_of_le h1 hld
  have hnd' : 0 < P.needs.getD p 0 := by
    rw [← hnd]
    exact h2
  have hB : pairB P p j = true := by
    unfold pairB
    rw [hfit, decide_eq_true hld', decide_eq_true hnd']
    rfl
  have hc : canV (pairP2 P p j) = true := by
    have hll : (P.loads.set j (P.loads.getD j 0 - 1)).length = P.loads.length := List.length_set
    have hnl : (P.needs.set p (P.needs.getD p 0 - 1)).length = P.needs.length := List.length_set
    refine (can_is (P := pairP2 P p j) ⟨by show (P.loads.set _ _).length ≤ 6; rw [hll]; exact hP.ok.j, by show (P.needs.set _ _).length ≤ 6; rw [hnl]; exact hP.ok.p⟩).2 ⟨fun q i => g q i && !(decide (q = p) && decide (i = j)), ⟨⟨fun q i hq hi hg => ?_, fun i hi => ?_⟩, fun q hq => ?_⟩⟩
    · rw [Bool.and_eq_true] at hg
      have hq' : q < P.needs.length := by rw [← hnl]; exact hq
      have hi' : i < P.loads.length := by rw [← hll]; exact hi
      have hb := hs.feas.fit q i hq' hi' hg.1
      show ((P.fit.set p (clrB (P.fit.getD p 0) j)).getD q 0).testBit i = true
      rw [getD_set]
      split
      · rename_i hpq
        obtain ⟨rfl, _⟩ := hpq
        rw [clrB_bit _ _ _ (hP.lt p) (by omega), hb, Bool.true_and]
        have : j ≠ i := fun e => by
          subst e
          simp at hg
        rw [decide_eq_false this]
        rfl
      · exact hb
    · have hi' : i < P.loads.length := by rw [← hll]; exact hi
      show sumN (fun q => b1 (g q i && !(decide (q = p) && decide (i = j)))) (P.needs.set p _).length ≤ (P.loads.set j (P.loads.getD j 0 - 1)).getD i 0
      rw [hnl, getD_set]
      have hli := hs.feas.load i hi'
      by_cases e : j = i
      · subst e
        rw [if_pos ⟨rfl, hj⟩]
        have := sumN_upd (fun q => b1 (g q j && !(decide (q = p) && decide (j = j)))) (fun q => b1 (g q j)) p 1 P.needs.length (fun q _ hne => by simp [hne]) (fun _ => by simp [h, b1])
        rw [if_pos hp] at this
        have hli' : sumN (fun q => b1 (g q j)) P.needs.length ≤ P.loads.getD j 0 := hli
        omega
      · rw [if_neg fun c => e c.1]
        refine Nat.le_trans (sumN_le _ fun q _ => ?_) hli
        simp [show ¬ i = j from fun c => e c.symm]
    · have hq' : q < P.needs.length := by rw [← hnl]; exact hq
      show sumN (fun i => b1 (g q i && !(decide (q = p) && decide (i = j)))) (P.loads.set j _).length = (P.needs.set p (P.needs.getD p 0 - 1)).getD q 0
      rw [hll, getD_set]
      have hqe := hs.eq q hq'
      by_cases e : p = q
      · subst e
        rw [if_pos ⟨rfl, hp⟩]
        have := sumN_upd (fun i => b1 (g p i && !(decide (p = p) && decide (i = j)))) (fun i => b1 (g p i)) j 1 P.loads.length (fun i _ hne => by simp [hne]) (fun _ => by simp [h, b1])
        rw [if_pos hj] at this
        have hqe' : sumN (fun i => b1 (g p i)) P.loads.length = P.needs.getD p 0 := hqe
        omega
      · rw [if_neg fun c => e c.1, ← hqe]
        refine sumN_congr _ fun i _ => ?_
        simp [show ¬ q = p from fun c => e c.symm]
  unfold pairV
  rw [hB, hc]
  split <;> simp
theorem pair_bits {a : XP} (hf : a.Fine) {t : List Nat} (ht : t ∈ seqs a.L.length a.N.length) (hok : okL (nf (toP a.s3)) a.s3.1 t = true) {p j : Nat} (hp : p < a.N.length) (hj : j < a.L.length) : (pairV (toP a.s3) p j = 2 → (t.getD p 0).testBit j = true) ∧ (pairV (toP a.s3) p j = 0 → (t.getD p 0).testBit j = false) := by
  have hF := toP_Fit (XP.good hf)
  have hnl : (toP a.s3).needs.length = a.N.length := by simp [toP, XP.s3]
  have hL : (toP a.s3).loads.length = a.L.length := by simp [toP, XP.s3]
  have hs : Seating (toP a.s3) (asg t) := (seat_iff hF (by rw [hL, hnl]; exact ht)).1 hok
  constructor
  · intro h
    cases hb : (t.getD p 0).testBit j with
    | true => rfl
    | false => exact absurd h (pair_must hF hs (by omega) (by omega) hb)
  · intro h
    cases hb : (t.getD p 0).testBit j with
    | false => rfl
    | true => exact absurd h (pair_never hF hs (by omega) (by omega) hb)
end Go.Proofs.Ytbdmmikflkpmpaa
end

section
set_option linter.unusedVariables false
set_option linter.unusedSimpArgs false
namespace Go.Proofs.Ytbdmmikflkpmpaa
open Go.RowKit Go.TL Go.Shelf Go.Pn
attribute [local go_sem] Oper.semAt_some
attribute [local go_sem] run_store_func
/-- Other panels that ask no less of nobody: as many judges and plots, no lesser loads, nobody kin who was not. -/
structure Wid (P Q : Pnl) : Prop where
  jl : Q.loads.length = P.loads.length
  pl : Q.needs.length = P.needs.length
  ld : ∀ j, j < P.loads.length → P.loads.getD j 0 ≤ Q.loads.getD j 0
  ft : ∀ p j, p < P.needs.length → j < P.loads.length → (P.fit.getD p 0).testBit j = true → (Q.fit.getD p 0).testBit j = true
theorem Wid.feas {P Q : Pnl} (h : Wid P Q) {a : Asg} (ha : Feas P a) : Feas Q a := by
  refine ⟨fun p j hp hj hb => ?_, fun j hj => ?_⟩
  · rw [h.pl] at hp
    rw [h.jl] at hj
    exact h.ft p j hp hj (ha.fit p j hp hj hb)
  · rw [h.jl] at hj
    rw [h.pl]
    exact Nat.le_trans (ha.load j hj) (h.ld j hj)
theorem Wid.seats {P Q : Pnl} (hP : P.Ok) (hQ : Q.Ok) (h : Wid P Q) (hn : ∀ p, p < P.needs.length → P.needs.getD p 0 ≤ Q.needs.getD p 0) : seatsV P ≤ seatsV Q := by
  obtain ⟨⟨a, ha, ht⟩, _⟩ := seats_is hP
  have h2 := (seats_is hQ).2 a ⟨h.feas ha.feas, fun p hp => by
    rw [h.pl] at hp
    rw [h.jl]
    exact Nat.le_trans (ha.le p hp) (hn p hp)⟩
  unfold total at *
  rw [h.jl, h.pl] at h2
  omega
theorem Wid.can {P Q : Pnl} (hP : P.Ok) (hQ : Q.Ok) (h : Wid P Q) (hn : ∀ p, p < P.needs.length → Q.needs.getD p 0 ≤ P.needs.getD p 0) (hc : canV P = true) : canV Q = true := by
  refine (can_hall hQ).2 fun T => ?_
  have h1 := (can_hall hP).1 hc T
  have h2 : needS Q T ≤ needS P T := by
    unfold needS
    rw [h.pl]
    refine sumN_le _ fun p hp => ?_
    split
    · exact hn p hp
    · exact Nat.le_refl _
  have h3 : capS P T ≤ capS Q T := by
    unfold capS
    rw [h.pl, h.jl]
    refine sumN_le _ fun j hj => Nat.le_min.2 ⟨Nat.le_trans (Nat.min_le_left _ _) (h.ld j hj), Nat.le_trans (Nat.min_le_right _ _) (sumN_le _ fun p hp => b1_le fun hb => ?_)⟩
    rw [Bool.and_eq_true] at hb ⊢
    exact ⟨hb.1, h.ft p j hp hj hb.2⟩
  omega
theorem Wid.less {P Q : Pnl} (hP : P.Ok) (hQ : Q.Ok) (h : Wid P Q) {r : Nat} (hr : r < P.needs.length) (hn : ∀ p, p < P.needs.length → p ≠ r → P.needs.getD p 0 ≤ Q.needs.getD p 0) (hnr : P.needs.getD r 0 ≤ Q.needs.getD r 0 + 1) : seatsV P ≤ seatsV Q + 1 := by
  obtain ⟨⟨a, ha, ht⟩, _⟩ := seats_is hP
  have hQ2 := (seats_is hQ).2
  by_cases hle : cntJ a P.loads.length r ≤ Q.needs.getD r 0
  · have h2 := hQ2 a ⟨h.feas ha.feas, fun p hp => by
      rw [h.pl] at hp
      rw [h.jl]
      by_cases e : p = r
      · rw [e]; exact hle
      · exact Nat.le_trans (ha.le p hp) (hn p hp e)⟩
    unfold total at *
    rw [h.jl, h.pl] at h2
    omega
  · obtain ⟨j0, hj0, hb0⟩ : ∃ j, j < P.loads.length ∧ a r j = true := by
      refine Classical.byContradiction fun hno => ?_
      have : cntJ a P.loads.length r = 0 := by
        unfold cntJ
        rw [sumN_congr (g := fun _ => 0) _ fun j hj => ?_, sumN_zero]
        cases hb : a r j with
        | false => rfl
        | true => exact absurd ⟨j, hj, hb⟩ hno
      omega
    have hsub : ∀ p j, (a p j && !(decide (p = r) && decide (j = j0))) = true → a p j = true := fun p j hb => (Bool.and_eq_true_iff.1 hb).1
    generalize hbd : (fun p j => a p j && !(decide (p = r) && decide (j = j0)) : Asg) = b at *
    have hbv : ∀ p j, b p j = (a p j && !(decide (p = r) && decide (j = j0))) := fun p j => by rw [← hbd]
    have hfe : Feas P b := by
      refine ⟨fun p j hp hj hb => ha.feas.fit p j hp hj (hsub p j (by rw [← hbv]; exact hb)), fun j hj => Nat.le_trans (sumN_le _ fun p hp => b1_le fun hb => hsub p j (by rw [← hbv]; exact hb)) (ha.feas.load j hj)⟩
    have hc : ∀ p, p ≠ r → cntJ a P.loads.length p = cntJ b P.loads.length p := fun p hp => by
      unfold cntJ
      refine sumN_congr _ fun j _ => ?_
      rw [hbv, decide_eq_false hp]
      simp
    have hcr : cntJ a P.loads.length r = cntJ b P.loads.length r + 1 := by
      unfold cntJ
      rw [sumN_upd (fun j => b1 (b r j)) (fun j => b1 (a r j)) j0 1 P.loads.length (fun j _ hne => ?_) (fun _ => ?_), if_pos hj0]
      · show b1 (a r j) = b1 (b r j)
        rw [hbv, decide_eq_false hne]
        simp
      · show b1 (a r j0) = b1 (b r j0) + 1
        rw [hbv, hb0]
        simp [b1]
    have hler := ha.le r hr
    have h2 := hQ2 b ⟨h.feas hfe, fun p hp => by
      rw [h.pl] at hp
      rw [h.jl]
      by_cases e : p = r
      · rw [e]; omega
      · rw [← hc p e]; exact Nat.le_trans (ha.le p hp) (hn p hp e)⟩
    have h3 : total P a = total P b + 1 := by
      unfold total
      rw [sumN_upd (cntJ b P.loads.length) (cntJ a P.loads.length) r 1 P.needs.length (fun p _ hne => hc p hne) (fun _ => hcr), if_pos hr]
    unfold total at *
    rw [h.jl, h.pl] at h2
    omega
theorem Wid.seating {P Q : Pnl} (h : Wid P Q) (hn : ∀ p, p < P.needs.length → Q.needs.getD p 0 = P.needs.getD p 0) {a : Asg} (ha : Seating P a) : Seating Q a :=
  ⟨h.feas ha.feas, fun p hp => by
    rw [h.pl] at hp
    rw [h.jl, ha.eq p hp, hn p hp]⟩
theorem wid_toP {L L' N N' : List Nat} {K K' : List (Nat × Nat)} (h1 : S3.Good (L, N, K)) (h2 : S3.Good (L', N', K')) (jl : L'.length = L.length) (pl : N'.length = N.length) (ld : ∀ j, j < L.length → L.getD j 0 ≤ L'.getD j 0) (hsub : ∀ k ∈ K', k ∈ K) : Wid (toP (L, N, K)) (toP (L', N', K')) := by
  refine ⟨jl, pl, ld, fun p j hp hj this' => ?_⟩
  have hg1 := h1.k1
  have hg2 := h2.k1
  have hj6 := h1.j
  simp only at hg1 hg2 hj6
  have hlt : ∀ q, (List.replicate N.length (2 ^ L.length - 1)).getD q 0 < 2 ^ 64 := fun q => rep_lt (two_lt hj6) q
  have hpN : p < (List.replicate N.length (2 ^ L.length - 1)).length := by rw [List.length_replicate]; exact hp
  have e1 := kinF_bit K (List.replicate N.length (2 ^ L.length - 1)) (fun k hk => by have := hg1 k hk; omega) hlt p j hpN
  have e2 := kinF_bit K' (List.replicate N.length (2 ^ L.length - 1)) (fun k hk => by have := hg2 k hk; omega) hlt p j hpN
  have this' : ((kinF (List.replicate N.length (2 ^ L.length - 1)) K).getD p 0).testBit j = true := this'
  show ((kinF (List.replicate N'.length (2 ^ L'.length - 1)) K').getD p 0).testBit j = true
  rw [jl, pl]
  rw [e1, Bool.and_eq_true] at this'
  rw [e2, this'.1, Bool.true_and]
  cases hd : decide ((j, p) ∈ K') with
  | false => rfl
  | true =>
    have := hsub _ (of_decide_eq_true hd)
    rw [decide_eq_true this] at this'
    exact this'.2
theorem wid_s3 {x y : S3} (h1 : x.Good) (h2 : y.Good) (jl : y.1.length = x.1.length) (pl : y.2.1.length = x.2.1.length) (ld : ∀ j, j < x.1.length → x.1.getD j 0 ≤ y.1.getD j 0) (hsub : ∀ k ∈ y.2.2, k ∈ x.2.2) : Wid (toP x) (toP y) :=
  wid_toP (L := x.1) (L' := y.1) (N := x.2.1) (N' := y.2.1) (K := x.2.2) (K' := y.2.2) h1 h2 jl pl ld hsub
theorem count_le {a q : XP} (hf : a.Fine) (hq : q.Fine) (hw : Wid (toP a.s3) (toP q.s3)) (hn : q.s3.2.1 = a.s3.2.1) : countF a ≤ countF q := by
  have hF := toP_Fit (XP.good hf)
  have hG := toP_Fit (XP.good hq)
  have a1 : (toP a.s3).loads.length = a.L.length := by simp [toP, XP.s3]
  have a2 : (toP a.s3).needs.length = a.N.length := by simp [toP, XP.s3]
  have b1' : (toP q.s3).loads.length = q.L.length := by simp [toP, XP.s3]
  have b2 : (toP q.s3).needs.length = q.N.length := by simp [toP, XP.s3]
  have e1 : q.L.length = a.L.length := by rw [← a1, ← b1', hw.jl]
  have e2 : q.N.length = a.N.length := by rw [← a2, ← b2, hw.pl]
  rw [count_is hf, count_is hq, e1, e2, ← List.countP_eq_length_filter, ← List.countP_eq_length_filter]
  refine List.countP_mono_left fun t ht h => ?_
  have h1 := (seat_iff hF (by rw [a1, a2]; exact ht)).1 h
  refine (seat_iff hG (by rw [b1', b2, e1, e2]; exact ht)).2 (hw.seating (fun p _ => ?_) h1)
  show q.s3.2.1.getD p 0 = a.s3.2.1.getD p 0
  rw [hn]
theorem waive_le {a q : XP} (hf : a.Fine) (hq : q.Fine) (h : ∀ t, t < 2 ^ a.K.length → canV (toP (a.s3.waive t)) = true → ∃ t', t' < 2 ^ q.K.length ∧ pop t' ≤ pop t ∧ canV (toP (q.s3.waive t')) = true) (hc : canV (toP (a.s3.waive (every a.K.length))) = true) :
    canV (toP (q.s3.waive (every q.K.length))) = true ∧ pop (waiveF q.s3) ≤ pop (waiveF a.s3) := by
  have hW := waive_facts hf hc
  obtain ⟨t', h1, h2, h3⟩ := h _ hW.lt hW.can
  have h4 := waive_fewer hq t' h3
  refine ⟨h4, ?_⟩
  rcases (waive_facts hq h4).min t' h1 h3 with h | h <;> omega
theorem s3_kin_len (a : XP) : a.s3.2.2.length = a.K.length := by simp [XP.s3]
theorem waive_wide {a q : XP} (hf : a.Fine) (hq : q.Fine) (hw : Wid (toP a.s3) (toP q.s3)) (hK : q.s3.2.2 = a.s3.2.2) (hn : ∀ p, p < a.N.length → q.s3.2.1.getD p 0 ≤ a.s3.2.1.getD p 0) (hc : canV (toP (a.s3.waive (every a.K.length))) = true) :
    canV (toP (q.s3.waive (every q.K.length))) = true ∧ pop (waiveF q.s3) ≤ pop (waiveF a.s3) := by
  refine waive_le hf hq (fun t ht h => ⟨t, ?_, Nat.le_refl _, ?_⟩) hc
  · have : q.K.length = a.K.length := by rw [← s3_kin_len, ← s3_kin_len, hK]
    rw [this]; exact ht
  · have g1 := s3_waive (XP.good hf) t
    have g2 := s3_waive (XP.good hq) t
    have hn' : (toP (a.s3.waive t)).needs.length = a.N.length := by simp [toP, XP.s3, S3.waive]
    refine Wid.can (toP_Fit g1).ok (toP_Fit g2).ok (wid_s3 g1 g2 hw.jl hw.pl hw.ld (by show ∀ k ∈ waiveK t q.s3.2.2, k ∈ waiveK t a.s3.2.2; rw [hK]; exact fun k hk => hk)) (fun p hp => ?_) h
    rw [hn'] at hp
    exact hn p hp
theorem waive_one (K : List (Nat × Nat)) (r : Nat) : ∀ k, k ≤ K.length → waiveTo (2 ^ r) K k = (K.take k).eraseIdx r := by
  intro k
  induction k with
  | zero => intro _; simp [waiveTo]
  | succ k ih =>
    intro hk
    have hx : K[k]? = some K[k] := List.getElem?_eq_getElem (by omega)
    have hlen : (K.take k).length = k := by rw [List.length_take]; omega
    rw [waiveTo_succ _ K k _ hx, ih (by omega), List.take_succ_eq_append_getElem (by omega), Nat.testBit_two_pow]
    rcases Nat.lt_trichotomy r k with h | h | h
    · rw [if_neg (by simp; omega), List.eraseIdx_append_of_lt_length (by omega)]
    · subst h
      rw [if_pos (by simp), List.eraseIdx_append_of_length_le (by omega), List.eraseIdx_of_length_le (by omega), hlen]
      simp
    · rw [if_neg (by simp; omega), List.eraseIdx_of_length_le (by omega), List.eraseIdx_of_length_le (by simp; omega)]
theorem sumN_skip (f : Nat → Nat) (r : Nat) : ∀ n, sumN (fun j => f (if j < r then j else j + 1)) n + (if n < r then f n else f r) = sumN f (n + 1) := by
  intro n
  induction n with
  | zero =>
    simp only [sumN]
    split
    · rfl
    · rw [show r = 0 by omega]
  | succ n ih =>
    rw [sumN.eq_def f (n + 1 + 1), sumN.eq_def (fun j => f (if j < r then j else j + 1)) (n + 1)]
    simp only
    rcases Nat.lt_trichotomy (n + 1) r with h | h | h
    · rw [if_pos (show n < r by omega)] at ih ⊢
      rw [if_pos h]
      omega
    · rw [if_pos (show n < r by omega)] at ih ⊢
      rw [if_neg (by omega)]
      have hf : f (n + 1) = f r := by rw [h]
      omega
    · rw [if_neg (show ¬ n < r by omega)] at ih ⊢
      rw [if_neg (by omega)]
      omega
theorem waive_kin {a q : XP} (hf : a.Fine) (hq : q.Fine) {r : Nat} (hr : r < a.K.length) (hs : q.s3 = a.s3.waive (2 ^ r)) (hc : canV (toP (a.s3.waive (every a.K.length))) = true) :
    canV (toP (q.s3.waive (every q.K.length))) = true ∧ pop (waiveF q.s3) ≤ pop (waiveF a.s3) := by
  have hk := hf.k
  have hl := s3_kin_len a
  have hK : q.s3.2.2 = a.s3.2.2.eraseIdx r := by
    rw [hs]
    show waiveTo (2 ^ r) a.s3.2.2 a.s3.2.2.length = _
    rw [waive_one _ _ _ (Nat.le_refl _), List.take_length]
  have hql : q.K.length = a.K.length - 1 := by
    rw [← s3_kin_len q, hK, List.length_eraseIdx, if_pos (by omega), hl]
  refine waive_le hf hq (fun t ht h => ⟨mkS (fun j => t.testBit (if j < r then j else j + 1)) (a.K.length - 1), ?_, ?_, ?_⟩) hc
  · rw [hql]
    exact mkS_lt _ _
  · rw [pop_n (mkS_lt _ _) (by omega), pop_n ht (by omega)]
    have h2 := sumN_skip (fun j => b1 (t.testBit j)) r (a.K.length - 1)
    rw [show a.K.length - 1 + 1 = a.K.length by omega] at h2
    have h3 : sumN (fun j => b1 ((mkS (fun j => t.testBit (if j < r then j else j + 1)) (a.K.length - 1)).testBit j)) (a.K.length - 1) = sumN (fun j => b1 (t.testBit (if j < r then j else j + 1))) (a.K.length - 1) :=
      sumN_congr _ fun j hj => by rw [mkS_bit, decide_eq_true hj, Bool.true_and]
    omega
  · have g1 := s3_waive (XP.good hf) t
    have g2 := s3_waive (XP.good hq) (mkS (fun j => t.testBit (if j < r then j else j + 1)) (a.K.length - 1))
    refine Wid.can (toP_Fit g1).ok (toP_Fit g2).ok (wid_s3 g1 g2 (by rw [hs]; rfl) (by rw [hs]; rfl) (by rw [hs]; exact fun j _ => Nat.le_refl _) fun k hk => ?_) (fun p _ => ?_) h
    · obtain ⟨i, hi, hki⟩ := waiveK_mem.1 hk
      rw [hK, List.getElem?_eraseIdx] at hki
      have hil : i < a.K.length - 1 := by
        rcases Nat.lt_or_ge i (a.K.length - 1) with h | h
        · exact h
        · exfalso
          split at hki
          · rw [List.getElem?_eq_none (by omega)] at hki
            cases hki
          · rw [List.getElem?_eq_none (by omega)] at hki
            cases hki
      rw [mkS_bit, decide_eq_true hil, Bool.true_and] at hi
      refine waiveK_mem.2 ⟨_, hi, ?_⟩
      split
      · rwa [if_pos (by assumption)] at hki
      · rwa [if_neg (by assumption)] at hki
    · show q.s3.2.1.getD p 0 ≤ a.s3.2.1.getD p 0
      rw [hs]
      exact Nat.le_refl _
/-- What the law says of other panels q; y: with a lesser need, by as much as d. -/
structure MoFacts (a q : XP) (y : Bool) (d : Nat) : Prop where
  up : y = false → seatsV (toP a.s3) ≤ seatsV (toP q.s3) ∧ countF a ≤ countF q
  dn : y = true → seatsV (toP q.s3) ≤ seatsV (toP a.s3) ∧ seatsV (toP a.s3) ≤ seatsV (toP q.s3) + d
  k : 0 < countF a → 0 < countF q
  v : canV (toP (a.s3.waive (every a.K.length))) = true → canV (toP (q.s3.waive (every q.K.length))) = true ∧ pop (waiveF q.s3) ≤ pop (waiveF a.s3)
theorem pos_can {a : XP} (hf : a.Fine) : 0 < countF a ↔ canV (toP a.s3) = true := by
  cases hc : canV (toP a.s3) with
  | true => exact ⟨fun _ => rfl, fun _ => (sit_facts hf hc).one⟩
  | false => exact ⟨fun h => (by have := (no_seating hf hc).1; omega), fun h => by cases h⟩
theorem more_up {a q : XP} (hf : a.Fine) (hq : q.Fine) (hw : Wid (toP a.s3) (toP q.s3)) (hn : q.s3.2.1 = a.s3.2.1) (hK : q.s3.2.2 = a.s3.2.2 ∨ ∃ r, r < a.K.length ∧ q.s3 = a.s3.waive (2 ^ r)) (d : Nat) : MoFacts a q false d := by
  have hc := count_le hf hq hw hn
  refine ⟨fun _ => ⟨hw.seats (toP_Fit (XP.good hf)).ok (toP_Fit (XP.good hq)).ok (fun p _ => ?_), hc⟩, fun h => (by cases h), fun h => Nat.lt_of_lt_of_le h hc, fun h => ?_⟩
  · show a.s3.2.1.getD p 0 ≤ q.s3.2.1.getD p 0
    rw [hn]
    exact Nat.le_refl _
  · rcases hK with h1 | ⟨r, hr, hs⟩
    · exact waive_wide hf hq hw h1 (fun p _ => by rw [hn]; exact Nat.le_refl _) h
    · exact waive_kin hf hq hr hs h
theorem more_dn {a q : XP} (hf : a.Fine) (hq : q.Fine) (hL : q.s3.1 = a.s3.1) (hK : q.s3.2.2 = a.s3.2.2) {r d : Nat} (hN : q.s3.2.1 = a.s3.2.1.set r (a.s3.2.1.getD r 0 - d)) (hr : r < a.N.length) (hd : d ≤ 1) : MoFacts a q true d := by
  have hal : a.s3.2.1.length = a.N.length := by simp [XP.s3]
  have hw : Wid (toP a.s3) (toP q.s3) := by
    refine wid_s3 (XP.good hf) (XP.good hq) (by rw [hL]) (by rw [hN, List.length_set]) (fun j _ => by rw [hL]; exact Nat.le_refl _) (fun k hk => by rw [hK] at hk; exact hk)
  have hw' : Wid (toP q.s3) (toP a.s3) := by
    refine wid_s3 (XP.good hq) (XP.good hf) (by rw [hL]) (by rw [hN, List.length_set]) (fun j _ => by rw [hL]; exact Nat.le_refl _) (fun k hk => by rw [hK]; exact hk)
  have hne : ∀ p, p ≠ r → q.s3.2.1.getD p 0 = a.s3.2.1.getD p 0 := fun p hp => by
    rw [hN, List.getD_eq_getElem?_getD, List.getElem?_set_ne (Ne.symm hp), ← List.getD_eq_getElem?_getD]
  have heq : q.s3.2.1.getD r 0 = a.s3.2.1.getD r 0 - d := by
    rw [hN, List.getD_eq_getElem?_getD, List.getElem?_set_self (by omega)]
    rfl
  have hle : ∀ p, q.s3.2.1.getD p 0 ≤ a.s3.2.1.getD p 0 := fun p => by
    by_cases e : p = r
    · rw [e, heq]; omega
    · rw [hne p e]; exact Nat.le_refl _
  have oa := (toP_Fit (XP.good hf)).ok
  have oq := (toP_Fit (XP.good hq)).ok
  refine ⟨fun h => (by cases h), fun _ => ⟨hw'.seats oq oa fun p _ => hle p, ?_⟩, fun h => ?_, fun h => waive_wide hf hq hw hK (fun p _ => hle p) h⟩
  · rcases Nat.eq_zero_or_pos d with h0 | h0
    · subst h0
      refine hw.seats oa oq fun p _ => ?_
      show a.s3.2.1.getD p 0 ≤ q.s3.2.1.getD p 0
      by_cases e : p = r
      · rw [e, heq]; exact Nat.le_refl _
      · rw [hne p e]; exact Nat.le_refl _
    · obtain rfl : d = 1 := by omega
      refine hw.less oa oq (r := r) (by show r < a.s3.2.1.length; omega) (fun p _ e => ?_) ?_
      · show a.s3.2.1.getD p 0 ≤ q.s3.2.1.getD p 0
        rw [hne p e]; exact Nat.le_refl _
      · show a.s3.2.1.getD r 0 ≤ q.s3.2.1.getD r 0 + 1
        omega
  · exact (pos_can hq).2 (hw.can oa oq (fun p _ => hle p) ((pos_can hf).1 h))
theorem more_same {a q : XP} (hf : a.Fine) (hq : q.Fine) (hs : q.s3 = a.s3) : MoFacts a q true 0 := by
  have hw : Wid (toP a.s3) (toP q.s3) := by
    rw [hs]
    exact ⟨rfl, rfl, fun _ _ => Nat.le_refl _, fun _ _ _ _ h => h⟩
  refine ⟨fun h => (by cases h), fun _ => by rw [hs]; exact ⟨Nat.le_refl _, Nat.le_refl _⟩, fun h => ?_, fun h => waive_wide hf hq hw (by rw [hs]) (fun p _ => by rw [hs]; exact Nat.le_refl _) h⟩
  have := (pos_can hf).1 h
  exact (pos_can hq).2 (by rw [hs]; exact this)
end Go.Proofs.Ytbdmmikflkpmpaa
end

section
set_option linter.unusedVariables false
set_option linter.unusedSimpArgs false
namespace Go.Proofs.Ytbdmmikflkpmpaa
open Go.RowKit Go.TL Go.Shelf Go.Pn
theorem getD_setI (l : List Int) (r : Nat) (v : Int) {j : Nat} (hj : j < l.length) : (l.set r v).getD j 0 = if j = r then v else l.getD j 0 := by
  rw [List.getD_eq_getElem?_getD, List.getElem?_set, List.getD_eq_getElem?_getD]
  by_cases e : j = r
  · subst e
    rw [if_pos rfl, if_pos hj, if_pos rfl]
    rfl
  · rw [if_neg (fun c => e c.symm), if_neg e]
theorem getDI (l : List Int) {r : Nat} (hr : r < l.length) : l[r]? = some (l.getD r 0) := by
  rw [List.getD_eq_getElem?_getD, List.getElem?_eq_getElem hr]
  rfl
def MoX (w : World) (a : XP) (m b bx by_ bz gL cL gN cN : Nat) (cuN : List Value) (t' : Array Value) (W' : World) : Prop :=
  ∃ (cuL' : List Value) (L' : List Int), Tr w W' W' [(b, .cells #[a.sL, a.sN, a.sK] 25 (0, 0)), (bx, .cells #[.slice (some ⟨gL, 0, none⟩) a.L.length cL, a.sN, a.sK] 25 (0, 0)), (by_, .cells #[a.sL, .slice (some ⟨gN, 0, none⟩) a.N.length cN, a.sK] 25 (0, 0)), (bz, .cells #[a.sL, a.sN, a.sK] 25 (0, 0)), (gL, .cells (cuL').toArray 3 (0, 0)), (gN, .cells (cuN).toArray 3 (0, 0))] ∧ Pre cuL' (L'.map vi) ∧ L'.length = a.L.length ∧ (∀ j, j < a.L.length → a.L.getD j 0 ≤ L'.getD j 0) ∧ (∀ y ∈ L', 0 ≤ y ∧ y ≤ 6) ∧ Slots (none :: some (.int .u8 (m : Int)) :: some (.pointer (some ⟨b, 0, none⟩)) :: none :: some (.bool false) :: some (.pointer (some ⟨bx, 0, none⟩)) :: some (.pointer (some ⟨by_, 0, none⟩)) :: some (.pointer (some ⟨bz, 0, none⟩)) :: some (iv 0) :: none :: none :: none :: o4 (o4 (o4 (o64 (o64 (o64 [])))))) t'
set_option maxRecDepth 100000 in
set_option maxHeartbeats 2000000 in
theorem mo_x {w W : World} {a : XP} (hf : a.Fine) (ha : a.At w) {m : Nat} (hm : m < 256) {b bx by_ bz gL cL gN cN : Nat} {cuL cuN : List Value} (hT : Tr w W W [(b, .cells #[a.sL, a.sN, a.sK] 25 (0, 0)), (bx, .cells #[.slice (some ⟨gL, 0, none⟩) a.L.length cL, a.sN, a.sK] 25 (0, 0)), (by_, .cells #[a.sL, .slice (some ⟨gN, 0, none⟩) a.N.length cN, a.sK] 25 (0, 0)), (bz, .cells #[a.sL, a.sN, a.sK] 25 (0, 0)), (gL, .cells (cuL).toArray 3 (0, 0)), (gN, .cells (cuN).toArray 3 (0, 0))]) (hpL : Pre cuL (a.L.map vi)) {t : Array Value} (hSl : Slots (none :: some (.int .u8 (m : Int)) :: some (.pointer (some ⟨b, 0, none⟩)) :: none :: some (.bool false) :: some (.pointer (some ⟨bx, 0, none⟩)) :: some (.pointer (some ⟨by_, 0, none⟩)) :: some (.pointer (some ⟨bz, 0, none⟩)) :: some (iv 0) :: none :: none :: none :: o4 (o4 (o4 (o64 (o64 (o64 [])))))) t) :
    Exec Try.prog none (sub (Try.f8.body.getD .skip) [1, 1, 1, 1, 1, 0]) t W (andThen (MoX w a m b bx by_ bz gL cL gN cN cuN) fun _ _ _ => False) := by
  have hu25 := Try.underlying25
  have hu22 := Try.underlying22
  have hj6 := hf.j
  obtain ⟨x, hx⟩ := Slots.open_ hSl; simp only [fill, Nat.reduceAdd] at hx; subst hx; clear hSl
  have c0 := hT.cell 0 rfl (j := 0) rfl
  simp only [XP.sL] at c0
  show Exec _ _ (Code.seq _ (Code.seq _ _)) _ _ _
  refine exec_seq (exec_region_o fun ds => ?_)
  gi_wp2
  refine eq_mk (Keep.refl _) ?_
  show Exec _ _ (Code.seq _ _) _ _ _
  clear c0
  refine exec_seq (exec_region_o fun ds => ?_)
  gi_wp2
  refine eq_mk (Keep.refl _) ?_
  show Exec _ _ (Code.cond _ _ _) _ _ _
  refine exec_cond (b := decide (0 < a.L.length)) (by first | rfl | (show Value.bool _ = _; congr 1; exact decide_eq_decide.2 (by omega))) (fun hp => ?_) (fun hp => exec_skip ?_)
  · have hp1 : 0 < a.L.length := of_decide_eq_true hp
    have hm1 : Int.tmod (m : Int) (a.L.length : Int) = ((m % a.L.length : Nat) : Int) := by rw [Int.tmod_eq_emod_of_nonneg (by omega)]; norm_cast
    have hml : m % a.L.length < a.L.length := Nat.mod_lt _ hp1
    obtain ⟨r, hr⟩ : ∃ r, m % a.L.length = r := ⟨_, rfl⟩
    rw [hr] at hm1 hml
    clear hr
    have hrI : (r : Int) < a.L.length := by omega
    have hconv : IntKind.i64.wrap (m : Int) = (m : Int) := IntWalk.i64_in _ (by omega)
    have hw1 : IntKind.i64.wrap (r : Int) = (r : Int) := IntWalk.i64_in _ (by omega)
    have hn0 : ¬ a.L.length = 0 := by omega
    have cc : ∀ Y, Below W.heap.size W Y → Y.cell? ⟨bx, 0, none⟩ = some (.slice (some ⟨gL, 0, none⟩) a.L.length cL) := fun Y hY => (hT.step hY).cell 1 rfl rfl
    refine exec_seq (region_of_tail 8 (by kernel_rfl) (by kernel_rfl) (by kernel_rfl) (fun Y => Below W.heap.size W Y) (fun _ _ _ => False) (fun _ _ _ h => h.elim) fun ds => ?_)
    have hS : Below W.heap.size W W.drew := (Below.refl _ W).drew
    refine held_take 0 (.pointer (some ⟨bx, 0, none⟩)) rfl (by kernel_rfl) (by kernel_rfl) (by kernel_rfl) (by intro _ _ _ h; first | exact h | (simpa [behind, Act.put] using h)) rfl (by first | exact hS | assumption) (fun wq hq => ?_) ?_; (focus (simp [go_sem, hu25]; done)); simp only [Act.put, Array.getInternal_eq_getElem, List.take_succ_cons, List.take_zero, List.take_nil, List.getElem_toArray, List.getElem_cons_succ, List.getElem_cons_zero, List.setIfInBounds_toArray, List.set_cons_succ, List.set_cons_zero]
    refine held_take 1 (.slice (some ⟨gL, 0, none⟩) a.L.length cL) rfl (by kernel_rfl) (by kernel_rfl) (by kernel_rfl) (by intro _ _ _ h; first | exact h | (simpa [behind, Act.put] using h)) rfl (by first | exact hS | assumption) (fun wq hq => ?_) ?_; (focus (simp [go_sem, cc wq hq]; done)); simp only [Act.put, Array.getInternal_eq_getElem, List.take_succ_cons, List.take_zero, List.take_nil, List.getElem_toArray, List.getElem_cons_succ, List.getElem_cons_zero, List.setIfInBounds_toArray, List.set_cons_succ, List.set_cons_zero]
    refine held_take 2 (.int .u8 (m : Int)) rfl (by kernel_rfl) (by kernel_rfl) (by kernel_rfl) (by intro _ _ _ h; first | exact h | (simpa [behind, Act.put] using h)) rfl (by first | exact hS | assumption) (fun wq hq => ?_) ?_; (focus (first | rfl | (simp [go_sem]; done))); simp only [Act.put, Array.getInternal_eq_getElem, List.take_succ_cons, List.take_zero, List.take_nil, List.getElem_toArray, List.getElem_cons_succ, List.getElem_cons_zero, List.setIfInBounds_toArray, List.set_cons_succ, List.set_cons_zero]
    refine held_take 3 (iv m) rfl (by kernel_rfl) (by kernel_rfl) (by kernel_rfl) (by intro _ _ _ h; first | exact h | (simpa [behind, Act.put] using h)) rfl (by first | exact hS | assumption) (fun wq hq => ?_) ?_; (focus (simp [go_sem, hconv]; done)); simp only [Act.put, Array.getInternal_eq_getElem, List.take_succ_cons, List.take_zero, List.take_nil, List.getElem_toArray, List.getElem_cons_succ, List.getElem_cons_zero, List.setIfInBounds_toArray, List.set_cons_succ, List.set_cons_zero]
    refine held_take 4 (iv a.L.length) rfl (by kernel_rfl) (by kernel_rfl) (by kernel_rfl) (by intro _ _ _ h; first | exact h | (simpa [behind, Act.put] using h)) rfl (by first | exact hS | assumption) (fun wq hq => ?_) ?_; (focus (first | rfl | (simp [go_sem]; done))); simp only [Act.put, Array.getInternal_eq_getElem, List.take_succ_cons, List.take_zero, List.take_nil, List.getElem_toArray, List.getElem_cons_succ, List.getElem_cons_zero, List.setIfInBounds_toArray, List.set_cons_succ, List.set_cons_zero]
    refine held_take 5 (iv r) rfl (by kernel_rfl) (by kernel_rfl) (by kernel_rfl) (by intro _ _ _ h; first | exact h | (simpa [behind, Act.put] using h)) rfl (by first | exact hS | assumption) (fun wq hq => ?_) ?_; (focus (simp [go_sem, hm1, hw1, hn0]; done)); simp only [Act.put, Array.getInternal_eq_getElem, List.take_succ_cons, List.take_zero, List.take_nil, List.getElem_toArray, List.getElem_cons_succ, List.getElem_cons_zero, List.setIfInBounds_toArray, List.set_cons_succ, List.set_cons_zero]
    refine held_take 6 (.pointer (some ⟨gL, r, none⟩)) rfl (by kernel_rfl) (by kernel_rfl) (by kernel_rfl) (by intro _ _ _ h; first | exact h | (simpa [behind, Act.put] using h)) rfl (by first | exact hS | assumption) (fun wq hq => ?_) ?_; (focus (simp [go_sem, hu22, hrI]; done)); simp only [Act.put, Array.getInternal_eq_getElem, List.take_succ_cons, List.take_zero, List.take_nil, List.getElem_toArray, List.getElem_cons_succ, List.getElem_cons_zero, List.setIfInBounds_toArray, List.set_cons_succ, List.set_cons_zero]
    refine held_take 7 (.pointer (some ⟨gL, r, none⟩)) rfl (by kernel_rfl) (by kernel_rfl) (by kernel_rfl) (by intro _ _ _ h; first | exact h | (simpa [behind, Act.put] using h)) rfl (by first | exact hS | assumption) (fun wq hq => ?_) ?_; (focus (first | rfl | (simp [go_sem]; done))); simp only [Act.put, Array.getInternal_eq_getElem, List.take_succ_cons, List.take_zero, List.take_nil, List.getElem_toArray, List.getElem_cons_succ, List.getElem_cons_zero, List.setIfInBounds_toArray, List.set_cons_succ, List.set_cons_zero]
    refine held_done (by kernel_rfl) ?_
    refine any_done (by kernel_rfl) ⟨rfl, Keep.of_below hS, ?_⟩
    show Exec _ _ (Code.region _ _ _) _ _ _
    have hTd := hT.step hS
    have hg := getDI a.L hml
    have hb := hf.lb _ (List.mem_of_getElem? hg)
    have hcu : cuL[r]? = some (vi (a.L.getD r 0)) := hpL r _ (by rw [List.getElem?_map, hg]; rfl)
    have cg : W.drew.cell? ⟨gL, r, none⟩ = some (vi (a.L.getD r 0)) := hTd.cell 4 rfl hcu
    have fg := hTd.fz 4 rfl r
    have hmono : ∀ u, a.L.getD r 0 ≤ u → u ≤ 6 → ∀ t', Slots (none :: some (.int .u8 (m : Int)) :: some (.pointer (some ⟨b, 0, none⟩)) :: none :: some (.bool false) :: some (.pointer (some ⟨bx, 0, none⟩)) :: some (.pointer (some ⟨by_, 0, none⟩)) :: some (.pointer (some ⟨bz, 0, none⟩)) :: some (iv 0) :: none :: none :: none :: o4 (o4 (o4 (o64 (o64 (o64 [])))))) t' → MoX w a m b bx by_ bz gL cL gN cN cuN t' (W.drew.setCell ⟨gL, r, none⟩ (vi u)) := fun u h1 h2 t' hs => by
      refine ⟨_, a.L.set r u, (hTd.set 4 rfl r (vi u)).again, ?_, List.length_set, fun j hj => ?_, fun y hy => ?_, hs⟩
      · rw [List.map_set]
        exact hpL.set r _
      · rw [getD_setI _ _ _ hj]
        split
        · rename_i e
          subst e
          exact h1
        · exact Int.le_refl _
      · rcases List.mem_or_eq_of_mem_set hy with h | h
        · exact hf.lb y h
        · omega
    generalize W.drew = Y at *
    clear hS cc
    have HM := Lib.hid hmono
    clear hmono hcu hg
    generalize a.L.getD r 0 = v at *
    have hwv : IntKind.i64.wrap (v + 1) = v + 1 := IntWalk.i64_in _ (by omega)
    clear hm1 hml hrI hconv hw1 hn0
    refine exec_region_o fun ds => ?_
    gi_wp2
    all_goals refine eq_mk ((Keep.refl _).setCell _ _) ?_
    all_goals exact HM.out _ (by omega) (by omega) _ (by simp [Slots, Fits])
  · exact ⟨cuL, a.L, hT.again, hpL, rfl, fun j _ => Int.le_refl _, hf.lb, by simp [Slots, Fits]⟩
def MoN (a : XP) (N' : List Int) (d : Nat) : Prop := (N' = a.N ∧ d = 0) ∨ ∃ r, r < a.N.length ∧ 0 < a.N.getD r 0 ∧ N' = a.N.set r (a.N.getD r 0 - 1) ∧ d = 1
def MoY (w : World) (a : XP) (m b bx by_ bz gL cL gN cN : Nat) (cuL : List Value) (t' : Array Value) (W' : World) : Prop :=
  ∃ (cuN' : List Value) (N' : List Int) (d : Nat), Tr w W' W' [(b, .cells #[a.sL, a.sN, a.sK] 25 (0, 0)), (bx, .cells #[.slice (some ⟨gL, 0, none⟩) a.L.length cL, a.sN, a.sK] 25 (0, 0)), (by_, .cells #[a.sL, .slice (some ⟨gN, 0, none⟩) a.N.length cN, a.sK] 25 (0, 0)), (bz, .cells #[a.sL, a.sN, a.sK] 25 (0, 0)), (gL, .cells (cuL).toArray 3 (0, 0)), (gN, .cells (cuN').toArray 3 (0, 0))] ∧ Pre cuN' (N'.map vi) ∧ MoN a N' d ∧ Slots (none :: some (.int .u8 (m : Int)) :: some (.pointer (some ⟨b, 0, none⟩)) :: none :: some (.bool false) :: some (.pointer (some ⟨bx, 0, none⟩)) :: some (.pointer (some ⟨by_, 0, none⟩)) :: some (.pointer (some ⟨bz, 0, none⟩)) :: some (iv d) :: none :: none :: none :: o4 (o4 (o4 (o64 (o64 (o64 [])))))) t'
set_option maxRecDepth 100000 in
set_option maxHeartbeats 2000000 in
theorem mo_y {w W : World} {a : XP} (hf : a.Fine) (ha : a.At w) {m : Nat} (hm : m < 256) {b bx by_ bz gL cL gN cN : Nat} {cuL cuN : List Value} (hT : Tr w W W [(b, .cells #[a.sL, a.sN, a.sK] 25 (0, 0)), (bx, .cells #[.slice (some ⟨gL, 0, none⟩) a.L.length cL, a.sN, a.sK] 25 (0, 0)), (by_, .cells #[a.sL, .slice (some ⟨gN, 0, none⟩) a.N.length cN, a.sK] 25 (0, 0)), (bz, .cells #[a.sL, a.sN, a.sK] 25 (0, 0)), (gL, .cells (cuL).toArray 3 (0, 0)), (gN, .cells (cuN).toArray 3 (0, 0))]) (hpN : Pre cuN (a.N.map vi)) {t : Array Value} (hSl : Slots (none :: some (.int .u8 (m : Int)) :: some (.pointer (some ⟨b, 0, none⟩)) :: none :: some (.bool false) :: some (.pointer (some ⟨bx, 0, none⟩)) :: some (.pointer (some ⟨by_, 0, none⟩)) :: some (.pointer (some ⟨bz, 0, none⟩)) :: some (iv 0) :: none :: none :: none :: o4 (o4 (o4 (o64 (o64 (o64 [])))))) t) :
    Exec Try.prog none (sub (Try.f8.body.getD .skip) [1, 1, 1, 1, 1, 1, 0]) t W (andThen (MoY w a m b bx by_ bz gL cL gN cN cuL) fun _ _ _ => False) := by
  have hu25 := Try.underlying25
  have hu22 := Try.underlying22
  have hj6 := hf.p
  obtain ⟨x, hx⟩ := Slots.open_ hSl; simp only [fill, Nat.reduceAdd] at hx; subst hx; clear hSl
  have c0 := hT.cell 0 rfl (j := 1) rfl
  simp only [XP.sN] at c0
  show Exec _ _ (Code.seq _ (Code.seq _ _)) _ _ _
  refine exec_seq (exec_region_o fun ds => ?_)
  gi_wp2
  refine eq_mk (Keep.refl _) ?_
  show Exec _ _ (Code.seq _ _) _ _ _
  clear c0
  refine exec_seq (exec_region_o fun ds => ?_)
  gi_wp2
  refine eq_mk (Keep.refl _) ?_
  show Exec _ _ (Code.cond _ _ _) _ _ _
  refine exec_cond (b := decide (0 < a.N.length)) (by first | rfl | (show Value.bool _ = _; congr 1; exact decide_eq_decide.2 (by omega))) (fun hp => ?_) (fun hp => exec_skip ?_)
  · have hp1 : 0 < a.N.length := of_decide_eq_true hp
    have hm1 : Int.tmod (m : Int) (a.N.length : Int) = ((m % a.N.length : Nat) : Int) := by rw [Int.tmod_eq_emod_of_nonneg (by omega)]; norm_cast
    have hml : m % a.N.length < a.N.length := Nat.mod_lt _ hp1
    obtain ⟨r, hr⟩ : ∃ r, m % a.N.length = r := ⟨_, rfl⟩
    rw [hr] at hm1 hml
    clear hr
    have hrI : (r : Int) < a.N.length := by omega
    have hconv : IntKind.i64.wrap (m : Int) = (m : Int) := IntWalk.i64_in _ (by omega)
    have hw1 : IntKind.i64.wrap (r : Int) = (r : Int) := IntWalk.i64_in _ (by omega)
    have hn0 : ¬ a.N.length = 0 := by omega
    have cc : ∀ Y, Below W.heap.size W Y → Y.cell? ⟨by_, 1, none⟩ = some (.slice (some ⟨gN, 0, none⟩) a.N.length cN) := fun Y hY => (hT.step hY).cell 2 rfl rfl
    refine exec_seq (region_of_tail 8 (by kernel_rfl) (by kernel_rfl) (by kernel_rfl) (fun Y => Below W.heap.size W Y) (fun _ _ _ => False) (fun _ _ _ h => h.elim) fun ds => ?_)
    have hS : Below W.heap.size W W.drew := (Below.refl _ W).drew
    refine held_take 0 (.pointer (some ⟨by_, 1, none⟩)) rfl (by kernel_rfl) (by kernel_rfl) (by kernel_rfl) (by intro _ _ _ h; first | exact h | (simpa [behind, Act.put] using h)) rfl (by first | exact hS | assumption) (fun wq hq => ?_) ?_; (focus (simp [go_sem, hu25]; done)); simp only [Act.put, Array.getInternal_eq_getElem, List.take_succ_cons, List.take_zero, List.take_nil, List.getElem_toArray, List.getElem_cons_succ, List.getElem_cons_zero, List.setIfInBounds_toArray, List.set_cons_succ, List.set_cons_zero]
    refine held_take 1 (.slice (some ⟨gN, 0, none⟩) a.N.length cN) rfl (by kernel_rfl) (by kernel_rfl) (by kernel_rfl) (by intro _ _ _ h; first | exact h | (simpa [behind, Act.put] using h)) rfl (by first | exact hS | assumption) (fun wq hq => ?_) ?_; (focus (simp [go_sem, cc wq hq]; done)); simp only [Act.put, Array.getInternal_eq_getElem, List.take_succ_cons, List.take_zero, List.take_nil, List.getElem_toArray, List.getElem_cons_succ, List.getElem_cons_zero, List.setIfInBounds_toArray, List.set_cons_succ, List.set_cons_zero]
    refine held_take 2 (.int .u8 (m : Int)) rfl (by kernel_rfl) (by kernel_rfl) (by kernel_rfl) (by intro _ _ _ h; first | exact h | (simpa [behind, Act.put] using h)) rfl (by first | exact hS | assumption) (fun wq hq => ?_) ?_; (focus (first | rfl | (simp [go_sem]; done))); simp only [Act.put, Array.getInternal_eq_getElem, List.take_succ_cons, List.take_zero, List.take_nil, List.getElem_toArray, List.getElem_cons_succ, List.getElem_cons_zero, List.setIfInBounds_toArray, List.set_cons_succ, List.set_cons_zero]
    refine held_take 3 (iv m) rfl (by kernel_rfl) (by kernel_rfl) (by kernel_rfl) (by intro _ _ _ h; first | exact h | (simpa [behind, Act.put] using h)) rfl (by first | exact hS | assumption) (fun wq hq => ?_) ?_; (focus (simp [go_sem, hconv]; done)); simp only [Act.put, Array.getInternal_eq_getElem, List.take_succ_cons, List.take_zero, List.take_nil, List.getElem_toArray, List.getElem_cons_succ, List.getElem_cons_zero, List.setIfInBounds_toArray, List.set_cons_succ, List.set_cons_zero]
    refine held_take 4 (iv a.N.length) rfl (by kernel_rfl) (by kernel_rfl) (by kernel_rfl) (by intro _ _ _ h; first | exact h | (simpa [behind, Act.put] using h)) rfl (by first | exact hS | assumption) (fun wq hq => ?_) ?_; (focus (first | rfl | (simp [go_sem]; done))); simp only [Act.put, Array.getInternal_eq_getElem, List.take_succ_cons, List.take_zero, List.take_nil, List.getElem_toArray, List.getElem_cons_succ, List.getElem_cons_zero, List.setIfInBounds_toArray, List.set_cons_succ, List.set_cons_zero]
    refine held_take 5 (iv r) rfl (by kernel_rfl) (by kernel_rfl) (by kernel_rfl) (by intro _ _ _ h; first | exact h | (simpa [behind, Act.put] using h)) rfl (by first | exact hS | assumption) (fun wq hq => ?_) ?_; (focus (simp [go_sem, hm1, hw1, hn0]; done)); simp only [Act.put, Array.getInternal_eq_getElem, List.take_succ_cons, List.take_zero, List.take_nil, List.getElem_toArray, List.getElem_cons_succ, List.getElem_cons_zero, List.setIfInBounds_toArray, List.set_cons_succ, List.set_cons_zero]
    refine held_take 6 (.pointer (some ⟨gN, r, none⟩)) rfl (by kernel_rfl) (by kernel_rfl) (by kernel_rfl) (by intro _ _ _ h; first | exact h | (simpa [behind, Act.put] using h)) rfl (by first | exact hS | assumption) (fun wq hq => ?_) ?_; (focus (simp [go_sem, hu22, hrI]; done)); simp only [Act.put, Array.getInternal_eq_getElem, List.take_succ_cons, List.take_zero, List.take_nil, List.getElem_toArray, List.getElem_cons_succ, List.getElem_cons_zero, List.setIfInBounds_toArray, List.set_cons_succ, List.set_cons_zero]
    refine held_take 7 (.pointer (some ⟨gN, r, none⟩)) rfl (by kernel_rfl) (by kernel_rfl) (by kernel_rfl) (by intro _ _ _ h; first | exact h | (simpa [behind, Act.put] using h)) rfl (by first | exact hS | assumption) (fun wq hq => ?_) ?_; (focus (first | rfl | (simp [go_sem]; done))); simp only [Act.put, Array.getInternal_eq_getElem, List.take_succ_cons, List.take_zero, List.take_nil, List.getElem_toArray, List.getElem_cons_succ, List.getElem_cons_zero, List.setIfInBounds_toArray, List.set_cons_succ, List.set_cons_zero]
    refine held_done (by kernel_rfl) ?_
    refine any_done (by kernel_rfl) ⟨rfl, Keep.of_below hS, ?_⟩
    show Exec _ _ (Code.seq _ _) _ _ _
    have hTd := hT.step hS
    have hg := getDI a.N hml
    have hb := hf.nb _ (List.mem_of_getElem? hg)
    have hcu : cuN[r]? = some (vi (a.N.getD r 0)) := hpN r _ (by rw [List.getElem?_map, hg]; rfl)
    have cg : W.drew.cell? ⟨gN, r, none⟩ = some (vi (a.N.getD r 0)) := hTd.cell 5 rfl hcu
    have fg := hTd.fz 5 rfl r
    have hmono : 0 < a.N.getD r 0 → ∀ t', Slots (none :: some (.int .u8 (m : Int)) :: some (.pointer (some ⟨b, 0, none⟩)) :: none :: some (.bool false) :: some (.pointer (some ⟨bx, 0, none⟩)) :: some (.pointer (some ⟨by_, 0, none⟩)) :: some (.pointer (some ⟨bz, 0, none⟩)) :: some (iv 1) :: none :: none :: none :: o4 (o4 (o4 (o64 (o64 (o64 [])))))) t' → MoY w a m b bx by_ bz gL cL gN cN cuL t' (W.drew.setCell ⟨gN, r, none⟩ (vi (a.N.getD r 0 - 1))) := fun h1 t' hs => by
      refine ⟨_, a.N.set r (a.N.getD r 0 - 1), 1, (hTd.set 5 rfl r (vi (a.N.getD r 0 - 1))).again, ?_, .inr ⟨r, hml, h1, rfl, rfl⟩, hs⟩
      rw [List.map_set]
      exact hpN.set r _
    have hsame : ∀ t', Slots (none :: some (.int .u8 (m : Int)) :: some (.pointer (some ⟨b, 0, none⟩)) :: none :: some (.bool false) :: some (.pointer (some ⟨bx, 0, none⟩)) :: some (.pointer (some ⟨by_, 0, none⟩)) :: some (.pointer (some ⟨bz, 0, none⟩)) :: some (iv 0) :: none :: none :: none :: o4 (o4 (o4 (o64 (o64 (o64 [])))))) t' → MoY w a m b bx by_ bz gL cL gN cN cuL t' W.drew := fun t' hs => ⟨cuN, a.N, 0, hTd.again, hpN, .inl ⟨rfl, rfl⟩, hs⟩
    generalize W.drew = Y at *
    clear hS cc
    have HM := Lib.hid hmono
    have HS := Lib.hid hsame
    clear hmono hcu hg hsame
    generalize a.N.getD r 0 = v at *
    have hwv : IntKind.i64.wrap (v - 1) = v - 1 := IntWalk.i64_in _ (by omega)
    clear hm1 hml hrI hconv hw1 hn0
    refine exec_seq (exec_region_o fun ds => ?_)
    gi_wp2
    refine eq_mk (Keep.refl _) ?_
    show Exec _ _ (Code.cond _ _ _) _ _ _
    refine exec_cond (b := decide (0 < v)) (by first | rfl | (show Value.bool _ = _; congr 1; exact decide_eq_decide.2 (by omega))) (fun hp => ?_) (fun hp => exec_skip ?_)
    · have hv0 : 0 < v := of_decide_eq_true hp
      clear hp
      refine exec_seq (exec_region_o fun ds => ?_)
      gi_wp2
      refine eq_mk ((Keep.refl _).setCell _ _) ?_
      show Exec _ _ (Code.region _ _ _) _ _ _
      refine exec_region_o fun ds => ?_
      gi_wp2
      refine eq_mk (Keep.refl _) ?_
      exact HM.out hv0 _ (by simp [Slots, Fits])
    · exact HS.out _ (by simp [Slots, Fits])
  · exact ⟨cuN, a.N, 0, hT.again, hpN, .inl ⟨rfl, rfl⟩, by simp [Slots, Fits]⟩
theorem cell_not {X : World} {b t : Nat} {cs : List Value} (h : X.heap[b]? = some (.cells cs.toArray t (0, 0))) {q : Addr} {u : Value} (hq : X.cell? q = some u) (hno : u ∉ cs) : q.block ≠ b := by
  intro e
  subst e
  unfold World.cell? at hq
  rw [h] at hq
  have hq2 : q.spot = none ∧ cs[q.off]? = some u := by simpa using hq
  exact hno (List.mem_of_getElem? hq2.2)
theorem cell_kept {X : World} {b t j : Nat} {cs : List Value} (h : X.heap[b]? = some (.cells cs.toArray t (0, 0))) {q : Addr} {u v : Value} (hq : X.cell? q = some u) (hno : u ∉ cs) : (X.setCell ⟨b, j, none⟩ v).cell? q = some u :=
  (World.cell?_of_block (Below.heap_setCell X ⟨b, j, none⟩ v _ (cell_not h hq hno))).trans hq
/-- Rows of numbers do not lie in a block that holds rows. -/
theorem XP.At.box {X : World} {zz : XP} (ha : zz.At X) {b t j : Nat} {cs : List Value} (h : X.heap[b]? = some (.cells cs.toArray t (0, 0))) (hno : ∀ n : Int, vi n ∉ cs) (v : Value) : zz.At (X.setCell ⟨b, j, none⟩ v) := by
  refine ⟨fun i u hu => ?_, fun i u hu => ?_, fun i k hk => ?_, ha.l4, ha.n4, ha.k4⟩
  · obtain ⟨ad, e, hc⟩ := ha.l i u hu
    rw [List.getElem?_map] at hu
    obtain ⟨y, _, rfl⟩ := Option.map_eq_some_iff.1 hu
    exact ⟨ad, e, cell_kept h hc (hno y)⟩
  · obtain ⟨ad, e, hc⟩ := ha.n i u hu
    rw [List.getElem?_map] at hu
    obtain ⟨y, _, rfl⟩ := Option.map_eq_some_iff.1 hu
    exact ⟨ad, e, cell_kept h hc (hno y)⟩
  · obtain ⟨ad, e, h1, h2⟩ := ha.k i k hk
    exact ⟨ad, e, cell_kept h h1 (hno _), cell_kept h h2 (hno _)⟩
def MoZ (w : World) (a : XP) (m b bx by_ bz gL cL gN cN : Nat) (cuL cuN : List Value) (d : Nat) (t' : Array Value) (W' : World) : Prop :=
  ∃ zz : XP, Tr w W' W' [(b, .cells #[a.sL, a.sN, a.sK] 25 (0, 0)), (bx, .cells #[.slice (some ⟨gL, 0, none⟩) a.L.length cL, a.sN, a.sK] 25 (0, 0)), (by_, .cells #[a.sL, .slice (some ⟨gN, 0, none⟩) a.N.length cN, a.sK] 25 (0, 0)), (bz, .cells #[zz.sL, zz.sN, zz.sK] 25 (0, 0)), (gL, .cells (cuL).toArray 3 (0, 0)), (gN, .cells (cuN).toArray 3 (0, 0))] ∧ zz.At W' ∧ zz.Fine ∧ (zz.s3 = a.s3 ∨ ∃ r, r < a.K.length ∧ zz.s3 = a.s3.waive (2 ^ r)) ∧ Slots (none :: some (.int .u8 (m : Int)) :: some (.pointer (some ⟨b, 0, none⟩)) :: none :: some (.bool false) :: some (.pointer (some ⟨bx, 0, none⟩)) :: some (.pointer (some ⟨by_, 0, none⟩)) :: some (.pointer (some ⟨bz, 0, none⟩)) :: some (iv d) :: none :: none :: none :: o4 (o4 (o4 (o64 (o64 (o64 [])))))) t'
set_option maxRecDepth 100000 in
set_option maxHeartbeats 2000000 in
theorem mo_z {w W : World} {a : XP} (hf : a.Fine) (ha : a.At w) {m : Nat} (hm : m < 256) {b bx by_ bz gL cL gN cN : Nat} {cuL cuN : List Value} (hT : Tr w W W [(b, .cells #[a.sL, a.sN, a.sK] 25 (0, 0)), (bx, .cells #[.slice (some ⟨gL, 0, none⟩) a.L.length cL, a.sN, a.sK] 25 (0, 0)), (by_, .cells #[a.sL, .slice (some ⟨gN, 0, none⟩) a.N.length cN, a.sK] 25 (0, 0)), (bz, .cells #[a.sL, a.sN, a.sK] 25 (0, 0)), (gL, .cells (cuL).toArray 3 (0, 0)), (gN, .cells (cuN).toArray 3 (0, 0))]) {d : Nat} {t : Array Value} (hSl : Slots (none :: some (.int .u8 (m : Int)) :: some (.pointer (some ⟨b, 0, none⟩)) :: none :: some (.bool false) :: some (.pointer (some ⟨bx, 0, none⟩)) :: some (.pointer (some ⟨by_, 0, none⟩)) :: some (.pointer (some ⟨bz, 0, none⟩)) :: some (iv d) :: none :: none :: none :: o4 (o4 (o4 (o64 (o64 (o64 [])))))) t) :
    Exec Try.prog none (sub (Try.f8.body.getD .skip) [1, 1, 1, 1, 1, 1, 1, 0]) t W (andThen (MoZ w a m b bx by_ bz gL cL gN cN cuL cuN d) fun _ _ _ => False) := by
  have hu25 := Try.underlying25
  have hk10 := hf.k
  have haW := ha.below hT.below
  obtain ⟨x, hx⟩ := Slots.open_ hSl; simp only [fill, Nat.reduceAdd] at hx; subst hx; clear hSl
  have c0 := hT.cell 0 rfl (j := 2) rfl
  simp only [XP.sK] at c0
  show Exec _ _ (Code.seq _ (Code.seq _ _)) _ _ _
  refine exec_seq (exec_region_o fun ds => ?_)
  gi_wp2
  refine eq_mk (Keep.refl _) ?_
  show Exec _ _ (Code.seq _ _) _ _ _
  clear c0
  refine exec_seq (exec_region_o fun ds => ?_)
  gi_wp2
  refine eq_mk (Keep.refl _) ?_
  show Exec _ _ (Code.cond _ _ _) _ _ _
  refine exec_cond (b := decide (0 < a.K.length)) (by first | rfl | (show Value.bool _ = _; congr 1; exact decide_eq_decide.2 (by omega))) (fun hp => ?_) (fun hp => exec_skip ?_)
  · have hp1 : 0 < a.K.length := of_decide_eq_true hp
    have hm1 : Int.tmod (m : Int) (a.K.length : Int) = ((m % a.K.length : Nat) : Int) := by rw [Int.tmod_eq_emod_of_nonneg (by omega)]; norm_cast
    have hml : m % a.K.length < a.K.length := Nat.mod_lt _ hp1
    obtain ⟨r, hr⟩ : ∃ r, m % a.K.length = r := ⟨_, rfl⟩
    rw [hr] at hm1 hml
    clear hr
    have hrI : (r : Int) < a.K.length := by omega
    have hconv : IntKind.i64.wrap (m : Int) = (m : Int) := IntWalk.i64_in _ (by omega)
    have hw1 : IntKind.i64.wrap (r : Int) = (r : Int) := IntWalk.i64_in _ (by omega)
    have hn0 : ¬ a.K.length = 0 := by omega
    have hsh := shl_i r (by omega)
    have h62 : 2 ^ r < 2 ^ 62 := Nat.pow_lt_pow_right (by omega) (by omega)
    have cc : ∀ Y, Below W.heap.size W Y → Y.cell? ⟨b, 0, none⟩ = some a.sL ∧ Y.cell? ⟨b, 1, none⟩ = some a.sN ∧ Y.cell? ⟨b, 2, none⟩ = some a.sK := fun Y hY => ⟨(hT.step hY).cell 0 rfl rfl, (hT.step hY).cell 0 rfl rfl, (hT.step hY).cell 0 rfl rfl⟩
    show Exec _ _ (Code.region _ _ _) _ _ _
    refine region_of_tail 7 (by kernel_rfl) (by kernel_rfl) (by kernel_rfl) (fun Y => Below W.heap.size W Y) (fun _ _ _ => False) (fun _ _ _ h => h.elim) fun ds => ?_
    have hS : Below W.heap.size W W.drew := (Below.refl _ W).drew
    refine held_take 0 (.agg #[a.sL, a.sN, a.sK]) rfl (by kernel_rfl) (by kernel_rfl) (by kernel_rfl) (by intro _ _ _ h; first | exact h | (simpa [behind, Act.put] using h)) rfl (by first | exact hS | assumption) (fun wq hq => ?_) ?_; (focus (simp [go_sem, hu25, (cc wq hq).1, (cc wq hq).2.1, (cc wq hq).2.2]; done)); simp only [Act.put, Array.getInternal_eq_getElem, List.take_succ_cons, List.take_zero, List.take_nil, List.getElem_toArray, List.getElem_cons_succ, List.getElem_cons_zero, List.setIfInBounds_toArray, List.set_cons_succ, List.set_cons_zero]
    refine held_take 1 (.int .u8 (m : Int)) rfl (by kernel_rfl) (by kernel_rfl) (by kernel_rfl) (by intro _ _ _ h; first | exact h | (simpa [behind, Act.put] using h)) rfl (by first | exact hS | assumption) (fun wq hq => ?_) ?_; (focus (first | rfl | (simp [go_sem]; done))); simp only [Act.put, Array.getInternal_eq_getElem, List.take_succ_cons, List.take_zero, List.take_nil, List.getElem_toArray, List.getElem_cons_succ, List.getElem_cons_zero, List.setIfInBounds_toArray, List.set_cons_succ, List.set_cons_zero]
    refine held_take 2 (iv m) rfl (by kernel_rfl) (by kernel_rfl) (by kernel_rfl) (by intro _ _ _ h; first | exact h | (simpa [behind, Act.put] using h)) rfl (by first | exact hS | assumption) (fun wq hq => ?_) ?_; (focus (simp [go_sem, hconv]; done)); simp only [Act.put, Array.getInternal_eq_getElem, List.take_succ_cons, List.take_zero, List.take_nil, List.getElem_toArray, List.getElem_cons_succ, List.getElem_cons_zero, List.setIfInBounds_toArray, List.set_cons_succ, List.set_cons_zero]
    refine held_take 3 (iv a.K.length) rfl (by kernel_rfl) (by kernel_rfl) (by kernel_rfl) (by intro _ _ _ h; first | exact h | (simpa [behind, Act.put] using h)) rfl (by first | exact hS | assumption) (fun wq hq => ?_) ?_; (focus (first | rfl | (simp [go_sem]; done))); simp only [Act.put, Array.getInternal_eq_getElem, List.take_succ_cons, List.take_zero, List.take_nil, List.getElem_toArray, List.getElem_cons_succ, List.getElem_cons_zero, List.setIfInBounds_toArray, List.set_cons_succ, List.set_cons_zero]
    refine held_take 4 (iv r) rfl (by kernel_rfl) (by kernel_rfl) (by kernel_rfl) (by intro _ _ _ h; first | exact h | (simpa [behind, Act.put] using h)) rfl (by first | exact hS | assumption) (fun wq hq => ?_) ?_; (focus (simp [go_sem, hm1, hw1, hn0]; done)); simp only [Act.put, Array.getInternal_eq_getElem, List.take_succ_cons, List.take_zero, List.take_nil, List.getElem_toArray, List.getElem_cons_succ, List.getElem_cons_zero, List.setIfInBounds_toArray, List.set_cons_succ, List.set_cons_zero]
    refine held_take 5 (iv (2 ^ r)) rfl (by kernel_rfl) (by kernel_rfl) (by kernel_rfl) (by intro _ _ _ h; first | exact h | (simpa [behind, Act.put] using h)) rfl (by first | exact hS | assumption) (fun wq hq => ?_) ?_; (focus (simp [go_sem, hsh]; done)); simp only [Act.put, Array.getInternal_eq_getElem, List.take_succ_cons, List.take_zero, List.take_nil, List.getElem_toArray, List.getElem_cons_succ, List.getElem_cons_zero, List.setIfInBounds_toArray, List.set_cons_succ, List.set_cons_zero]
    refine held_call 6 (f := 38) (args := #[.agg #[a.sL, a.sN, a.sK], iv (2 ^ r)]) rfl (by kernel_rfl) rfl (by simp [go_sem]) ?_
    refine (waived38 a hf (2 ^ r) h62 W.drew (haW.below hS)).mono ?_
    rintro e X1 ⟨A, c, rfl, hat, hx1⟩
    have k1 : Below W.heap.size W X1 := hS.trans hx1
    refine .inl ⟨_, rfl, k1, ?_⟩
    simp only [Act.put, Array.getInternal_eq_getElem, List.take_succ_cons, List.take_zero, List.take_nil, List.getElem_toArray, List.getElem_cons_succ, List.getElem_cons_zero, List.setIfInBounds_toArray, List.set_cons_succ, List.set_cons_zero]
    have hz3 := XP.waived_s3 a A c (2 ^ r)
    have hzf := XP.waived_fine hf A c (2 ^ r)
    generalize a.waived A c (2 ^ r) = zz at *
    refine held_done (by kernel_rfl) ?_
    refine behind_normal 1 (by kernel_rfl) ?_
    have hT1 := hT.step k1
    have d0 := hT1.cell 3 rfl (j := 0) rfl
    have d1 := hT1.cell 3 rfl (j := 1) rfl
    have d2 := hT1.cell 3 rfl (j := 2) rfl
    have fz := hT1.fz 3 rfl
    have hT4 := ((hT1.set 3 rfl 0 zz.sL).set 3 rfl 1 zz.sN).set 3 rfl 2 zz.sK
    have hb0 := hT1.get 3 rfl
    have hb1 := (hT1.set 3 rfl 0 zz.sL).get 3 rfl
    have hb2 := ((hT1.set 3 rfl 0 zz.sL).set 3 rfl 1 zz.sN).get 3 rfl
    have hz4 := ((hat.box hb0 (by simp [XP.sL, XP.sN, XP.sK]) zz.sL (j := 0)).box hb1 (by simp [XP.sL, XP.sN, XP.sK]) zz.sN (j := 1)).box hb2 (by simp [XP.sL, XP.sN, XP.sK]) zz.sK (j := 2)
    refine any_skip 7 (((X1.setCell ⟨bz, 0, none⟩ zz.sL).setCell ⟨bz, 1, none⟩ zz.sN).setCell ⟨bz, 2, none⟩ zz.sK) rfl (by kernel_rfl) rfl (by simp [go_sem, hu25, XP.val, XP.sL, XP.sN, XP.sK, d0, d1, d2, fz]) ?_; simp only [Act.put, Array.getInternal_eq_getElem, List.take_succ_cons, List.take_zero, List.take_nil, List.getElem_toArray, List.getElem_cons_succ, List.getElem_cons_zero, List.setIfInBounds_toArray, List.set_cons_succ, List.set_cons_zero]
    try simp only [Act.put, Array.getInternal_eq_getElem, List.take_succ_cons, List.take_zero, List.take_nil, List.drop_succ_cons, List.drop_zero, List.append_toArray, List.cons_append, List.nil_append, List.getElem_toArray, List.getElem_cons_succ, List.getElem_cons_zero, List.setIfInBounds_toArray, List.set_cons_succ, List.set_cons_zero]
    refine any_done (by kernel_rfl) ⟨rfl, hT4.keep, ?_⟩
    refine ⟨zz, hT4.again, hz4, hzf, .inr ⟨r, hml, hz3⟩, by simp [Slots, Fits]⟩
  · exact ⟨a, hT.again, haW, hf, .inl rfl, by simp [Slots, Fits]⟩
end Go.Proofs.Ytbdmmikflkpmpaa
end

section
set_option linter.unusedVariables false
set_option linter.unusedSimpArgs false
namespace Go.Proofs.Ytbdmmikflkpmpaa
open Go.RowKit Go.TL Go.Shelf Go.Pn
/-- The k-th of the other panels. -/
def qK (x y z : XP) (k : Nat) : XP := if k = 0 then x else if k = 1 then y else z
/-- The row of the other panels. -/
structure Mq (w : World) (x y z : XP) (s : Nat) (W : World) : Prop where
  below : Below w.heap.size w W
  heap : W.heap[s]? = some (.cells #[x.sL, x.sN, x.sK, y.sL, y.sN, y.sK, z.sL, z.sN, z.sK] 25 (0, 0))
  ax : x.At W
  ay : y.At W
  az : z.At W
theorem Mq.step {w : World} {x y z : XP} {s : Nat} {W W' : World} (h : Mq w x y z s W) (hb : Below W.heap.size W W') : Mq w x y z s W' :=
  ⟨h.below.trans (hb.mono h.below.size), (hb.block _ (heap_lt h.heap)).trans h.heap, h.ax.below hb, h.ay.below hb, h.az.below hb⟩
theorem Mq.q {w : World} {x y z : XP} {s : Nat} {W : World} (h : Mq w x y z s W) {k : Nat} (hk : k < 3) : (qK x y z k).At W ∧ W.cell? ⟨s, k * 3, none⟩ = some (qK x y z k).sL ∧ W.cell? ⟨s, k * 3 + 1, none⟩ = some (qK x y z k).sN ∧ W.cell? ⟨s, k * 3 + 2, none⟩ = some (qK x y z k).sK := by
  have hc := fun (j : Nat) (v : Value) (hv : [x.sL, x.sN, x.sK, y.sL, y.sN, y.sK, z.sL, z.sN, z.sK][j]? = some v) => cells_get (cs := [_, _, _, _, _, _, _, _, _]) (k := j) h.heap hv
  rcases (show k = 0 ∨ k = 1 ∨ k = 2 by omega) with rfl | rfl | rfl
  · exact ⟨h.ax, hc 0 _ rfl, hc 1 _ rfl, hc 2 _ rfl⟩
  · exact ⟨h.ay, hc 3 _ rfl, hc 4 _ rfl, hc 5 _ rfl⟩
  · exact ⟨h.az, hc 6 _ rfl, hc 7 _ rfl, hc 8 _ rfl⟩
theorem need_le {a : XP} (hf : a.Fine) (p : Nat) : (toP a.s3).needs.getD p 0 ≤ 3 := by
  show (a.N.map Int.toNat).getD p 0 ≤ 3
  rw [List.getD_eq_getElem?_getD, List.getElem?_map]
  cases h : a.N[p]? with
  | none => simp
  | some y =>
    have := hf.nb y (List.mem_of_getElem? h)
    simp
    omega
theorem undef_bool {b : Bool} (h : some undef = some (Value.bool b)) : False := by cases h
def MlI (w : World) (x y z : XP) (s d m0 n0 : Nat) (w1 w2 : Int) (n : Nat) (t : Array Value) (W : World) : Prop :=
  ∃ k : Nat, k ≤ 3 ∧ n = 3 - k ∧ Mq w x y z s W ∧ Slots (o4 (some (.bool false) :: none :: none :: none :: some (iv d) :: none :: o4 (some (iv m0) :: some (iv 0) :: some (iv n0) :: some (iv 0) :: some (vi w1) :: some (vi w2) :: none :: none :: none :: o16 (o16 (o64 (some (.slice (some ⟨s, 0, none⟩) 3 3) :: some (iv 3) :: some (iv k) :: none :: none :: o4 (o4 (o4 (o16 (o64 [])))))))))) t
def MlE (w : World) (t : Array Value) (W : World) : Prop := Below w.heap.size w W ∧ Slots (o4 (some (.bool false) :: none :: none :: none :: o16 (o64 (o64 (o64 []))))) t
noncomputable abbrev code8 : Code := Try.f8.body.getD .skip
set_option maxRecDepth 100000 in
set_option maxHeartbeats 2000000 in
theorem mo_tests {w : World} {a q : XP} {k d : Nat} {w1 w2 : Int} (hf : a.Fine) (hq : q.Fine) (hk3 : k < 3) (hd : d ≤ 1) (hM : MoFacts a q (decide (k = 1)) d) (hwa : waiveA a = (w1, w2)) {w3 w4 : Int} (hwq : waiveA q = (w3, w4)) {Y : World} (hB : Below w.heap.size w Y) {s : Nat} {t : Array Value}
    (hSl : Slots (o4 (some (.bool false) :: none :: none :: none :: some (iv d) :: none :: o4 (some (iv (seatsV (toP a.s3))) :: some (iv 0) :: some (iv (countF a)) :: some (iv 0) :: some (vi w1) :: some (vi w2) :: some (iv k) :: none :: some (iv (seatsV (toP q.s3))) :: some (iv 0) :: some (iv (countF q)) :: some (iv 0) :: some (vi w3) :: some (vi w4) :: none :: none :: none :: o4 (o4 (o16 (o64 (some (.slice (some ⟨s, 0, none⟩) 3 3) :: some (iv 3) :: some (iv k) :: none :: none :: o4 (o4 (o4 (o16 (o64 []))))))))))) t) :
    Exec Try.prog none (sub code8 [1, 1, 1, 1, 1, 1, 1, 1, 1, 1, 1, 0, 1, 0, 0, 1, 1, 0, 0, 1, 1, 1, 1]) t Y (andThen (fun t' Y' => Below Y.heap.size Y Y' ∧ Slots (o4 (some (.bool false) :: none :: none :: none :: some (iv d) :: none :: o4 (some (iv (seatsV (toP a.s3))) :: some (iv 0) :: some (iv (countF a)) :: some (iv 0) :: some (vi w1) :: some (vi w2) :: none :: none :: none :: o16 (o16 (o64 (some (.slice (some ⟨s, 0, none⟩) 3 3) :: some (iv 3) :: some (iv k) :: none :: none :: o4 (o4 (o4 (o16 (o64 [])))))))))) t') fun _ _ _ => False) := by
  obtain ⟨x, hx⟩ := Slots.open_ hSl; simp only [fill, Nat.reduceAdd] at hx; subst hx; clear hSl
  have h1 := hM.up
  have h2 := hM.dn
  have h3 := hM.k
  have h4 := hM.v
  have ia := isP_of_fine hf
  have iq := isP_of_fine hq
  unfold waiveA at hwa hwq
  rw [if_pos ia] at hwa
  rw [if_pos iq] at hwq
  have hwf : canV (toP (a.s3.waive (every a.K.length))) = true → waiveF a.s3 < 1024 := fun h => Nat.lt_of_lt_of_le (waive_facts hf h).lt (by have := hf.k; exact Nat.pow_le_pow_right (n := 2) (by omega) (show a.K.length ≤ 10 by omega))
  have hwg : canV (toP (q.s3.waive (every q.K.length))) = true → waiveF q.s3 < 1024 := fun h => Nat.lt_of_lt_of_le (waive_facts hq h).lt (by have := hq.k; exact Nat.pow_le_pow_right (n := 2) (by omega) (show q.K.length ≤ 10 by omega))
  obtain ⟨ca, hca⟩ : ∃ c, canV (toP (a.s3.waive (every a.K.length))) = c := ⟨_, rfl⟩
  obtain ⟨cq, hcq⟩ : ∃ c, canV (toP (q.s3.waive (every q.K.length))) = c := ⟨_, rfl⟩
  rw [hca] at h4 hwa hwf
  rw [hcq] at h4 hwq hwg
  have hsl : seatsV (toP a.s3) < 1000 := by
    have := (seats_is (toP_Fit (XP.good hf)).ok).1
    obtain ⟨g, hg, e⟩ := this
    rw [← e]
    unfold total
    refine Nat.lt_of_le_of_lt (sumN_le _ fun p hp => Nat.le_trans (hg.le p hp) (show (toP a.s3).needs.getD p 0 ≤ 3 from ?_)) (show sumN (fun _ => 3) (toP a.s3).needs.length < 1000 from ?_)
    · exact need_le hf p
    · have hp6 := (toP_Fit (XP.good hf)).ok.p
      rcases (show (toP a.s3).needs.length = 0 ∨ (toP a.s3).needs.length = 1 ∨ (toP a.s3).needs.length = 2 ∨ (toP a.s3).needs.length = 3 ∨ (toP a.s3).needs.length = 4 ∨ (toP a.s3).needs.length = 5 ∨ (toP a.s3).needs.length = 6 by omega) with h | h | h | h | h | h | h <;> rw [h] <;> decide
  clear hM hca hcq ia iq
  generalize seatsV (toP a.s3) = m0 at *
  generalize seatsV (toP q.s3) = m1 at *
  generalize countF a = n0 at *
  generalize countF q = n1 at *
  generalize waiveF a.s3 = u0 at *
  generalize waiveF q.s3 = u1 at *
  show Exec _ _ (Code.seq (Code.seq _ _) _) _ _ _
  have post1 : ∀ {T : Array Value} {Q : Exit → Array Value → World → Prop}, True := fun {_ _} => trivial
  clear post1
  refine exec_cut (fun t' Y' => Y' = Y ∧ Slots (o4 (some (.bool false) :: none :: none :: none :: some (iv d) :: none :: o4 (some (iv m0) :: some (iv 0) :: some (iv n0) :: some (iv 0) :: some (vi w1) :: some (vi w2) :: none :: none :: o4 (some (vi w3) :: some (vi w4) :: none :: none :: none :: o4 (o4 (o16 (o64 (some (.slice (some ⟨s, 0, none⟩) 3 3) :: some (iv 3) :: some (iv k) :: none :: none :: o4 (o4 (o4 (o16 (o64 [])))))))))))) t') ?_ ?_
  · have hk' : (k : Int) ≠ 1 ∨ (k : Int) = 1 := by omega
    have hw : IntKind.i64.wrap ((m0 : Int) - (d : Int)) = (m0 : Int) - (d : Int) := IntWalk.i64_in _ (by omega)
    clear h4 hwa hwq hwf hwg
    refine exec_seq (exec_region_o fun ds => ?_)
    by_cases hk1 : k = 1
    · obtain ⟨g1, g2⟩ := h2 (decide_eq_true hk1)
      subst hk1
      have f1 : ¬ ((m1 : Int) > (m0 : Int)) := by omega
      have f2 : ¬ ((m1 : Int) < (m0 : Int) - (d : Int)) := by omega
      clear h1 h2 hk' g1 g2
      have H3 := Lib.hid h3
      clear h3
      gi_wp2
      all_goals first | (exfalso; have := H3.out; omega) | (refine eq_mk (Keep.refl _) ?_; refine exec_cond (b := false) (by first | rfl | (show Value.bool _ = _; congr 1; first | exact decide_eq_false (by omega) | (simp only [Bool.or_eq_false_iff, Bool.and_eq_false_iff, beq_eq_false_iff_ne, decide_eq_false_iff_not, ne_eq]; omega))) (fun h => by cases h) (fun _ => exec_skip ?_); exact ⟨rfl, by simp [Slots, Fits]⟩)
    · obtain ⟨g1, g2⟩ := h1 (decide_eq_false hk1)
      have f0 : ¬ ((k : Int) = 1) := by omega
      have f1 : ¬ ((m1 : Int) < (m0 : Int)) := by omega
      have f2 : ¬ ((n1 : Int) < (n0 : Int)) := by omega
      clear h1 h2 hk' g1 g2
      have H3 := Lib.hid h3
      clear h3
      gi_wp2
      all_goals first | (exfalso; have := H3.out; omega) | (refine eq_mk (Keep.refl _) ?_; refine exec_cond (b := false) (by first | rfl | (show Value.bool _ = _; congr 1; first | exact decide_eq_false (by omega) | (simp only [Bool.or_eq_false_iff, Bool.and_eq_false_iff, beq_eq_false_iff_ne, decide_eq_false_iff_not, ne_eq]; omega))) (fun h => by cases h) (fun _ => exec_skip ?_); exact ⟨rfl, by simp [Slots, Fits]⟩)
  · clear h1 h2 h3 x
    rintro t' Y' ⟨rfl, hSl⟩
    obtain ⟨x, hx⟩ := Slots.open_ hSl; simp only [fill, Nat.reduceAdd] at hx; subst hx; clear hSl
    show Exec _ _ (Code.seq _ _) _ _ _
    refine exec_seq (exec_region_o fun ds => ?_)
    cases ca with
    | false =>
      obtain ⟨e1, e2⟩ := Prod.mk.inj hwa
      subst e1 e2
      clear h4 hwa hwq hwf hwg
      gi_wp2
      all_goals try exact (undef_bool ‹some undef = some (Value.bool _)›).elim
      first | refine ⟨trivial, ?_⟩ | skip
      rename_i hK _ _
      refine hK _ _ ?_
      clear hK
      gi_wp2
      all_goals try exact (undef_bool ‹some undef = some (Value.bool _)›).elim
      first | refine ⟨trivial, ?_⟩ | skip
      first | (rename_i hK; refine hK _ _ ?_) | (rename_i hK _; refine hK _ _ ?_) | (rename_i hK _ _; refine hK _ _ ?_) | (rename_i hK _ _ _; refine hK _ _ ?_) | (rename_i hK _ _ _ _; refine hK _ _ ?_)
      gi_wp2
      refine eq_mk (Keep.refl _) ?_
      show Exec _ _ (Code.cond _ _ _) _ _ _
      refine exec_cond (b := false) rfl (fun h => by cases h) (fun _ => exec_skip ?_)
      exact ⟨Below.refl _ _, by simp [Slots, Fits]⟩
    | true =>
      obtain ⟨rfl, hp⟩ := h4 rfl
      obtain ⟨e1, e2⟩ := Prod.mk.inj hwa
      obtain ⟨e3, e4⟩ := Prod.mk.inj hwq
      subst e1 e2 e3 e4
      have s0 := hwf rfl
      have s1 := hwg rfl
      clear h4 hwa hwq hwf hwg
      have f0 : ¬ ((u0 : Int) < 0) := by omega
      have f1 : ¬ ((u1 : Int) < 0) := by omega
      have f2 : ¬ ((pop u1 : Int) > (pop u0 : Int)) := by omega
      clear hp
      gi_wp2_with fail
      refine ⟨trivial, rfl, (callsIn_wide.2 (size30 u1 s1 Y')).mono ?_⟩
      rintro e Y1 ⟨rfl, hy1⟩
      gi_wp2_with fail
      refine ⟨trivial, rfl, (callsIn_wide.2 (size30 u0 s0 Y1)).mono ?_⟩
      rintro e Y2 ⟨rfl, hy2⟩
      have hy := hy1.trans (hy2.mono hy1.size)
      gi_wp2
      refine eq_mk (Keep.of_below hy) ?_
      show Exec _ _ (Code.cond _ _ _) _ _ _
      refine exec_cond (b := false) (by first | rfl | (show Value.bool _ = _; congr 1; first | exact decide_eq_false (by omega) | (simp only [Bool.or_eq_false_iff, Bool.and_eq_false_iff, beq_eq_false_iff_ne, decide_eq_false_iff_not, ne_eq]; omega))) (fun h => by cases h) (fun _ => exec_skip ?_)
      exact ⟨hy, by simp [Slots, Fits]⟩
end Go.Proofs.Ytbdmmikflkpmpaa
end

section
set_option linter.unusedVariables false
set_option linter.unusedSimpArgs false
namespace Go.Proofs.Ytbdmmikflkpmpaa
open Go.RowKit Go.TL Go.Shelf Go.Pn
set_option maxRecDepth 100000 in
set_option maxHeartbeats 2000000 in
theorem mo_round {w : World} {a x y z : XP} {s d k : Nat} {w1 w2 : Int} (hf : a.Fine) (hd : d ≤ 1) (hk3 : k < 3) (hqf : (qK x y z k).Fine) (hM : MoFacts a (qK x y z k) (decide (k = 1)) d) (hwa : waiveA a = (w1, w2)) {W : World} (hV0 : Mq w x y z s W) {t : Array Value}
    (hSl : Slots (o4 (some (.bool false) :: none :: none :: none :: some (iv d) :: none :: o4 (some (iv (seatsV (toP a.s3))) :: some (iv 0) :: some (iv (countF a)) :: some (iv 0) :: some (vi w1) :: some (vi w2) :: none :: none :: none :: o16 (o16 (o64 (some (.slice (some ⟨s, 0, none⟩) 3 3) :: some (iv 3) :: some (iv k) :: none :: none :: o4 (o4 (o4 (o16 (o64 [])))))))))) t) :
    Exec Try.prog none (sub code8 [1, 1, 1, 1, 1, 1, 1, 1, 1, 1, 1, 0, 1, 0, 0, 1, 1, 0, 0]) t W (andThen (fun t' W' => Mq w x y z s W' ∧ Slots (o4 (some (.bool false) :: none :: none :: none :: some (iv d) :: none :: o4 (some (iv (seatsV (toP a.s3))) :: some (iv 0) :: some (iv (countF a)) :: some (iv 0) :: some (vi w1) :: some (vi w2) :: none :: none :: none :: o16 (o16 (o64 (some (.slice (some ⟨s, 0, none⟩) 3 3) :: some (iv 3) :: some (iv k) :: none :: none :: o4 (o4 (o4 (o16 (o64 [])))))))))) t') fun _ _ _ => False) := by
  have hu25 := Try.underlying25
  have hu61 := Try.underlying61
  obtain ⟨haq, q0, q1, q2⟩ := hV0.q hk3
  obtain ⟨q, hq⟩ : ∃ q, qK x y z k = q := ⟨_, rfl⟩
  rw [hq] at haq q0 q1 q2 hqf hM
  clear hq
  obtain ⟨x, hx⟩ := Slots.open_ hSl; simp only [fill, Nat.reduceAdd] at hx; subst hx; clear hSl
  have iq := isP_of_fine hqf
  have e1 : seatsA q = (((seatsV (toP q.s3) : Nat) : Int), 0) := by unfold seatsA; rw [if_pos iq]
  have e2 : countA q = (((countF q : Nat) : Int), 0) := by unfold countA; rw [if_pos iq]
  obtain ⟨w3, w4, e3⟩ : ∃ w3 w4, waiveA q = (w3, w4) := ⟨_, _, rfl⟩
  clear iq
  have hkI : (k : Int) < 3 := by omega
  simp only [XP.sL] at q0
  simp only [XP.sN] at q1
  simp only [XP.sK] at q2
  have hBc : Below W.heap.size W (W.alloc (.cells #[q.sL, q.sN, q.sK] 25)) := (Below.refl W.heap.size W).alloc (Nat.le_refl _) _
  have hg0 : PBx (W.alloc (.cells #[q.sL, q.sN, q.sK] 25)) W.heap.size q := ⟨World.alloc_heap_new _ _, haq.below hBc⟩
  have hV1 := hV0.step hBc
  have hKc := (Keep.refl W).alloc (.cells #[q.sL, q.sN, q.sK] 25)
  simp only [XP.sL, XP.sN, XP.sK] at hg0 hV1 hKc
  clear hBc haq
  show Exec _ _ (Code.seq _ (Code.seq _ _)) _ _ _
  refine exec_seq (exec_region_o fun ds => ?_)
  gi_wp2
  refine eq_mk hKc ?_
  show Exec _ _ (Code.seq _ _) _ _ _
  clear q0 q1 q2 hKc hV0
  generalize (W.alloc (.cells #[.slice q.AL q.L.length q.cL, .slice q.AN q.N.length q.cN, .slice q.AK q.K.length q.cK] 25)) = Y0 at *
  generalize W.heap.size = g at *
  have hV0 := hV1
  clear hV1
  clear W
  refine exec_seq (exec_region_o fun ds => ?_)
  have c0 := cells_get (cs := [_, _, _]) (k := 0) hg0.heap rfl
  have c1 := cells_get (cs := [_, _, _]) (k := 1) hg0.heap rfl
  have c2 := cells_get (cs := [_, _, _]) (k := 2) hg0.heap rfl
  have hcall := Seats_any q Y0 hg0.at_
  rw [e1] at hcall
  gi_wp2_with fail
  refine ⟨trivial, rfl, (callsIn_wide.2 hcall).mono ?_⟩
  rintro e Y1 ⟨rfl, hy⟩
  have hg1 := hg0.keep hy
  have hV1 := hV0.step hy
  have hK := Keep.of_below hy
  clear hy c0 c1 c2 hcall hg0 hV0
  gi_wp2
  refine eq_mk hK ?_
  show Exec _ _ (Code.seq _ _) _ _ _
  clear hK
  clear Y0
  refine exec_seq (exec_region_o fun ds => ?_)
  have c0 := cells_get (cs := [_, _, _]) (k := 0) hg1.heap rfl
  have c1 := cells_get (cs := [_, _, _]) (k := 1) hg1.heap rfl
  have c2 := cells_get (cs := [_, _, _]) (k := 2) hg1.heap rfl
  have hcall := Count_any q Y1 hg1.at_
  rw [e2] at hcall
  gi_wp2_with fail
  refine ⟨trivial, rfl, (callsIn_wide.2 hcall).mono ?_⟩
  rintro e Y2 ⟨rfl, hy⟩
  have hg2 := hg1.keep hy
  have hV2 := hV1.step hy
  have hK := Keep.of_below hy
  clear hy c0 c1 c2 hcall hg1 hV1
  gi_wp2
  refine eq_mk hK ?_
  show Exec _ _ (Code.seq _ _) _ _ _
  clear hK
  clear Y1
  refine exec_seq (exec_region_o fun ds => ?_)
  have c0 := cells_get (cs := [_, _, _]) (k := 0) hg2.heap rfl
  have c1 := cells_get (cs := [_, _, _]) (k := 1) hg2.heap rfl
  have c2 := cells_get (cs := [_, _, _]) (k := 2) hg2.heap rfl
  have hcall := Waive_any q Y2 hg2.at_
  rw [e3] at hcall
  gi_wp2_with fail
  refine ⟨trivial, rfl, (callsIn_wide.2 hcall).mono ?_⟩
  rintro e Y3 ⟨rfl, hy⟩
  have hg3 := hg2.keep hy
  have hV3 := hV2.step hy
  have hK := Keep.of_below hy
  clear hy c0 c1 c2 hcall hg2 hV2
  gi_wp2
  refine eq_mk hK ?_
  show Exec _ _ (Code.seq _ _) _ _ _
  clear hK
  clear Y2
  refine (mo_tests hf hqf hk3 hd hM hwa e3 hV3.below (s := s) (by simp [Slots, Fits])).mono ?_
  intro e t Z hh
  obtain ⟨rfl, hBZ, hSl⟩ := only_normal hh
  exact ⟨hV3.step hBZ, hSl⟩
end Go.Proofs.Ytbdmmikflkpmpaa
end

section
set_option linter.unusedVariables false
set_option linter.unusedSimpArgs false
namespace Go.Proofs.Ytbdmmikflkpmpaa
open Go.RowKit Go.TL Go.Shelf Go.Pn
def MmI (w : World) (a x y z : XP) (s d : Nat) (w1 w2 : Int) (n : Nat) (t : Array Value) (W : World) : Prop :=
  ∃ k : Nat, k ≤ 3 ∧ n = 3 - k ∧ Mq w x y z s W ∧ Slots (o4 (some (.bool false) :: none :: none :: none :: some (iv d) :: none :: o4 (some (iv (seatsV (toP a.s3))) :: some (iv 0) :: some (iv (countF a)) :: some (iv 0) :: some (vi w1) :: some (vi w2) :: none :: none :: none :: o16 (o16 (o64 (some (.slice (some ⟨s, 0, none⟩) 3 3) :: some (iv 3) :: some (iv k) :: none :: none :: o4 (o4 (o4 (o16 (o64 [])))))))))) t
set_option maxRecDepth 100000 in
set_option maxHeartbeats 2000000 in
theorem mo_loop {w : World} {a x y z : XP} {d : Nat} {w1 w2 : Int} (hf : a.Fine) (hd : d ≤ 1) (hx : x.Fine) (hy : y.Fine) (hz : z.Fine) (mx : MoFacts a x false d) (my : MoFacts a y true d) (mz : MoFacts a z false d) (hwa : waiveA a = (w1, w2)) {W : World} {bx by_ bz : Nat} (hB : Below w.heap.size w W) (px : PBx W bx x) (py : PBx W by_ y) (pz : PBx W bz z) {t : Array Value}
    (hSl : Slots (o4 (some (.bool false) :: some (.pointer (some ⟨bx, 0, none⟩)) :: some (.pointer (some ⟨by_, 0, none⟩)) :: some (.pointer (some ⟨bz, 0, none⟩)) :: some (iv d) :: none :: o4 (some (iv (seatsV (toP a.s3))) :: some (iv 0) :: some (iv (countF a)) :: some (iv 0) :: some (vi w1) :: some (vi w2) :: o4 (o64 (o64 (o64 [])))))) t) :
    Exec Try.prog none (sub code8 [1, 1, 1, 1, 1, 1, 1, 1, 1, 1, 1, 0]) t W (andThen (MlE w) fun _ _ _ => False) := by
  have hu25 := Try.underlying25
  have hu61 := Try.underlying61
  have HX := Lib.hid (⟨px, py, pz⟩ : PBx W bx x ∧ PBx W by_ y ∧ PBx W bz z)
  have qf : ∀ k, k < 3 → (qK x y z k).Fine ∧ MoFacts a (qK x y z k) (decide (k = 1)) d := fun k hk => by
    rcases (show k = 0 ∨ k = 1 ∨ k = 2 by omega) with rfl | rfl | rfl
    · exact ⟨hx, mx⟩
    · exact ⟨hy, my⟩
    · exact ⟨hz, mz⟩
  have X0 := px.heap
  have Y0 := py.heap
  have Z0 := pz.heap
  simp only [XP.sL, XP.sN, XP.sK] at X0 Y0 Z0
  have c0 := cells_get (cs := [_, _, _]) (k := 0) X0 rfl
  have c1 := cells_get (cs := [_, _, _]) (k := 1) X0 rfl
  have c2 := cells_get (cs := [_, _, _]) (k := 2) X0 rfl
  have d0 := cells_get (cs := [_, _, _]) (k := 0) Y0 rfl
  have d1 := cells_get (cs := [_, _, _]) (k := 1) Y0 rfl
  have d2 := cells_get (cs := [_, _, _]) (k := 2) Y0 rfl
  have e0 := cells_get (cs := [_, _, _]) (k := 0) Z0 rfl
  have e1 := cells_get (cs := [_, _, _]) (k := 1) Z0 rfl
  have e2 := cells_get (cs := [_, _, _]) (k := 2) Z0 rfl
  have hBc : Below W.heap.size W (W.alloc (.cells #[x.sL, x.sN, x.sK, y.sL, y.sN, y.sK, z.sL, z.sN, z.sK] 25)) := (Below.refl W.heap.size W).alloc (Nat.le_refl _) _
  have hM : Mq w x y z W.heap.size (W.alloc (.cells #[x.sL, x.sN, x.sK, y.sL, y.sN, y.sK, z.sL, z.sN, z.sK] 25)) := ⟨hB.trans (hBc.mono hB.size), World.alloc_heap_new _ _, px.at_.below hBc, py.at_.below hBc, pz.at_.below hBc⟩
  have hKc := (Keep.refl W).alloc (.cells #[x.sL, x.sN, x.sK, y.sL, y.sN, y.sK, z.sL, z.sN, z.sK] 25)
  have HM := Lib.hid hM
  clear hM
  simp only [XP.sL, XP.sN, XP.sK] at hKc
  clear X0 Y0 Z0 px py pz hBc hx hy hz mx my mz
  obtain ⟨x', hx'⟩ := Slots.open_ hSl; simp only [fill, Nat.reduceAdd] at hx'; subst hx'; clear hSl
  show Exec _ _ (Code.seq _ _) _ _ _
  refine exec_seq (exec_region_o fun ds => ?_)
  gi_wp2
  refine eq_mk hKc ?_
  show Exec _ _ (Code.block _ _) _ _ _
  have hM := HM.out
  simp only [XP.sL, XP.sN, XP.sK] at hM
  clear c0 c1 c2 d0 d1 d2 e0 e1 e2 hKc HM HX
  refine exec_block ?_
  refine exec_loop (MmI w a x y z W.heap.size d w1 w2) 3 ⟨0, by omega, rfl, hM, by simp [Slots, Fits]⟩ ?_
  generalize W.heap.size = s at *
  clear hB hM x'
  clear W
  rintro n t W ⟨k, hk, hn, hV, hSl⟩
  have HN := Lib.hid hn
  clear hn
  obtain ⟨x', hx'⟩ := Slots.open_ hSl; simp only [fill, Nat.reduceAdd] at hx'; subst hx'; clear hSl
  show Exec _ _ (Code.seq _ (Code.seq _ _)) _ _ _
  refine exec_seq (exec_region_o fun ds => ?_)
  gi_wp2
  refine eq_mk (Keep.refl _) ?_
  show Exec _ _ (Code.seq (Code.cond _ _ _) _) _ _ _
  refine exec_seq (exec_cond (b := decide (k < 3)) (by first | rfl | (show Value.bool _ = _; congr 1; exact decide_eq_decide.2 (by omega))) (fun hp => exec_skip ?_) (fun hp => exec_exit ?_))
  · have hk3 : k < 3 := of_decide_eq_true hp
    show Exec _ _ (Code.seq (Code.block _ _) _) _ _ _
    refine exec_cut (fun t' W' => Mq w x y z s W' ∧ Slots (o4 (some (.bool false) :: none :: none :: none :: some (iv d) :: none :: o4 (some (iv (seatsV (toP a.s3))) :: some (iv 0) :: some (iv (countF a)) :: some (iv 0) :: some (vi w1) :: some (vi w2) :: none :: none :: none :: o16 (o16 (o64 (some (.slice (some ⟨s, 0, none⟩) 3 3) :: some (iv 3) :: some (iv k) :: none :: none :: o4 (o4 (o4 (o16 (o64 [])))))))))) t') (exec_block ((mo_round hf hd hk3 (qf k hk3).1 (qf k hk3).2 hwa hV (by simp [Slots, Fits])).mono ?_)) ?_
    · intro e t Z hh
      obtain ⟨rfl, hE⟩ := only_normal hh
      exact hE
    · clear hV x'
      clear W
      rintro t' Y ⟨hV, hSl⟩
      obtain ⟨x', hx'⟩ := Slots.open_ hSl; simp only [fill, Nat.reduceAdd] at hx'; subst hx'; clear hSl
      have hw : IntKind.i64.wrap ((k : Int) + 1) = ((k + 1 : Nat) : Int) := by rw [IntWalk.i64_in _ (by omega)]; norm_cast
      refine exec_region_o fun ds => ?_
      gi_wp2
      exact eq_mk (Keep.refl _) ⟨n - 1, by rw [HN.out]; omega, k + 1, by omega, by rw [HN.out]; omega, hV, by simp only [Slots, Fits, and_self]; simp⟩
  · exact ⟨hV.below, by simp [Slots, Fits]⟩
end Go.Proofs.Ytbdmmikflkpmpaa
end

section
set_option linter.unusedVariables false
set_option linter.unusedSimpArgs false
namespace Go.Proofs.Ytbdmmikflkpmpaa
open Go.RowKit Go.TL Go.Shelf Go.Pn
/-- A renumbering of the numbers below n, and the way back. -/
structure Ren (n : Nat) (s i : Nat → Nat) : Prop where
  lt : ∀ k, k < n → s k < n
  ilt : ∀ k, k < n → i k < n
  si : ∀ k, k < n → s (i k) = k
  is : ∀ k, k < n → i (s k) = k
theorem Ren.symm {n : Nat} {s i : Nat → Nat} (h : Ren n s i) : Ren n i s := ⟨h.ilt, h.lt, h.is, h.si⟩
theorem Ren.id (n : Nat) : Ren n (fun k => k) (fun k => k) := ⟨fun _ h => h, fun _ h => h, fun _ _ => rfl, fun _ _ => rfl⟩
theorem Ren.rot (n a : Nat) : Ren n (fun k => (k + a) % n) (fun k => (k + (n - a % n)) % n) := by
  refine ⟨fun k hk => Nat.mod_lt _ (by omega), fun k hk => Nat.mod_lt _ (by omega), fun k hk => ?_, fun k hk => ?_⟩
  · show ((k + (n - a % n)) % n + a) % n = k
    have h1 : a % n < n := Nat.mod_lt _ (by omega)
    rw [Nat.mod_add_mod, show k + (n - a % n) + a = k + n + (a - a % n) by have := Nat.mod_le a n; omega]
    have h2 : a - a % n = n * (a / n) := by have := Nat.mod_add_div a n; omega
    rw [h2, Nat.add_mul_mod_self_left, Nat.add_mod_right, Nat.mod_eq_of_lt hk]
  · show ((k + a) % n + (n - a % n)) % n = k
    have h1 : a % n < n := Nat.mod_lt _ (by omega)
    rw [Nat.mod_add_mod, show k + a + (n - a % n) = k + n + (a - a % n) by have := Nat.mod_le a n; omega]
    have h2 : a - a % n = n * (a / n) := by have := Nat.mod_add_div a n; omega
    rw [h2, Nat.add_mul_mod_self_left, Nat.add_mod_right, Nat.mod_eq_of_lt hk]
theorem Ren.rev (n : Nat) : Ren n (fun k => n - 1 - k) (fun k => n - 1 - k) := by
  refine ⟨fun k hk => ?_, fun k hk => ?_, fun k hk => ?_, fun k hk => ?_⟩ <;> (try simp only) <;> omega
theorem sumN_single (a v n : Nat) : sumN (fun k => if k = a then v else 0) n = if a < n then v else 0 := by
  rw [sumN_upd (fun _ => 0) (fun k => if k = a then v else 0) a v n (fun i _ hne => if_neg hne) (fun _ => by rw [if_pos rfl]; omega), sumN_zero]
  omega
theorem Ren.sum {n : Nat} {s i : Nat → Nat} (h : Ren n s i) (f : Nat → Nat) : sumN (fun k => f (s k)) n = sumN f n := by
  have e1 : sumN (fun k => f (s k)) n = sumN (fun k => sumN (fun j => if j = s k then f j else 0) n) n := sumN_congr _ fun k hk => by
    rw [sumN_congr (g := fun j => if j = s k then f (s k) else 0) n fun j _ => ?_, sumN_single, if_pos (h.lt k hk)]
    by_cases e : j = s k
    · rw [if_pos e, if_pos e, e]
    · rw [if_neg e, if_neg e]
  rw [e1, sumN_swap]
  refine sumN_congr _ fun j hj => ?_
  rw [sumN_congr (g := fun k => if k = i j then f j else 0) n fun k hk => ?_, sumN_single, if_pos (h.ilt j hj)]
  by_cases e : j = s k
  · rw [if_pos e, if_pos (by rw [e, h.is k hk])]
  · rw [if_neg e, if_neg (fun c => e (by rw [c, h.si j hj]))]
/-- The same panels, numbered otherwise. -/
structure Trd (P Q : Pnl) (s si t ti : Nat → Nat) : Prop where
  jl : Q.loads.length = P.loads.length
  pl : Q.needs.length = P.needs.length
  js : Ren P.loads.length s si
  ps : Ren P.needs.length t ti
  ld : ∀ j, j < P.loads.length → Q.loads.getD (s j) 0 = P.loads.getD j 0
  nd : ∀ p, p < P.needs.length → Q.needs.getD (t p) 0 = P.needs.getD p 0
  ft : ∀ p j, p < P.needs.length → j < P.loads.length → (Q.fit.getD (t p) 0).testBit (s j) = (P.fit.getD p 0).testBit j
section
variable {P Q : Pnl} {s si t ti : Nat → Nat}
theorem Trd.symm (h : Trd P Q s si t ti) : Trd Q P si s ti t := by
  refine ⟨h.jl.symm, h.pl.symm, by rw [h.jl]; exact h.js.symm, by rw [h.pl]; exact h.ps.symm, fun j hj => ?_, fun p hp => ?_, fun p j hp hj => ?_⟩
  · rw [h.jl] at hj
    rw [← h.ld _ (h.js.ilt j hj), h.js.si j hj]
  · rw [h.pl] at hp
    rw [← h.nd _ (h.ps.ilt p hp), h.ps.si p hp]
  · rw [h.jl] at hj
    rw [h.pl] at hp
    rw [← h.ft _ _ (h.ps.ilt p hp) (h.js.ilt j hj), h.ps.si p hp, h.js.si j hj]
theorem Trd.cntJ (h : Trd P Q s si t ti) (a : Asg) (p : Nat) : cntJ (fun p j => a (ti p) (si j)) Q.loads.length p = cntJ a P.loads.length (ti p) := by
  unfold Go.Pn.cntJ
  rw [h.jl]
  exact h.js.symm.sum fun j => b1 (a (ti p) j)
theorem Trd.feas (h : Trd P Q s si t ti) {a : Asg} (ha : Feas P a) : Feas Q fun p j => a (ti p) (si j) := by
  refine ⟨fun p j hp hj hb => ?_, fun j hj => ?_⟩
  · have h2 := h.symm
    rw [h.jl] at hj
    rw [h.pl] at hp
    have := ha.fit _ _ (h.ps.ilt p hp) (h.js.ilt j hj) hb
    rw [← h.ft _ _ (h.ps.ilt p hp) (h.js.ilt j hj), h.ps.si p hp, h.js.si j hj] at this
    exact this
  · rw [h.jl] at hj
    have := ha.load _ (h.js.ilt j hj)
    rw [← h.ld _ (h.js.ilt j hj), h.js.si j hj] at this
    refine Nat.le_trans (Nat.le_of_eq ?_) this
    unfold cntP
    rw [h.pl]
    exact h.ps.symm.sum fun p => b1 (a p (si j))
theorem Trd.seats_le (hP : P.Ok) (hQ : Q.Ok) (h : Trd P Q s si t ti) : seatsV P ≤ seatsV Q := by
  obtain ⟨⟨a, ha, ht⟩, _⟩ := seats_is hP
  have h2 := (seats_is hQ).2 _ ⟨h.feas ha.feas, fun p hp => by
    rw [h.pl] at hp
    rw [h.cntJ, ← h.ps.si p hp, h.ps.is _ (h.ps.ilt p hp), h.nd _ (h.ps.ilt p hp)]
    exact ha.le _ (h.ps.ilt p hp)⟩
  have h3 : total Q (fun p j => a (ti p) (si j)) = total P a := by
    unfold total
    rw [h.pl, ← h.ps.symm.sum fun p => Go.Pn.cntJ a P.loads.length p]
    exact sumN_congr _ fun p _ => h.cntJ a p
  omega
theorem Trd.seats (hP : P.Ok) (hQ : Q.Ok) (h : Trd P Q s si t ti) : seatsV P = seatsV Q := Nat.le_antisymm (h.seats_le hP hQ) (h.symm.seats_le hQ hP)
theorem Trd.all (h : Trd P Q s si t ti) : allN P = allN Q := by
  unfold allN
  rw [h.pl, ← h.ps.sum fun p => Q.needs.getD p 0]
  exact sumN_congr _ fun p hp => (h.nd p hp).symm
theorem Trd.can (hP : P.Ok) (hQ : Q.Ok) (h : Trd P Q s si t ti) : canV P = canV Q := by
  unfold canV
  rw [h.seats hP hQ, h.all]
theorem Trd.seating (h : Trd P Q s si t ti) {a : Asg} (ha : Seating P a) : Seating Q fun p j => a (ti p) (si j) :=
  ⟨h.feas ha.feas, fun p hp => by
    rw [h.pl] at hp
    rw [h.cntJ, ha.eq _ (h.ps.ilt p hp), ← h.nd _ (h.ps.ilt p hp), h.ps.si p hp]⟩
theorem Trd.pairF (hP : PFit P) (hQ : PFit Q) (h : Trd P Q s si t ti) {p0 j0 : Nat} (hp0 : p0 < P.needs.length) (hj0 : j0 < P.loads.length) {p j : Nat} (hp : p < P.needs.length) (hj : j < P.loads.length) :
    ((pairF Q (t p0) (s j0)).getD (t p) 0).testBit (s j) = ((pairF P p0 j0).getD p 0).testBit j := by
  have hj6 := hP.ok.j
  have hs6 := h.js.lt j0 hj0
  have l1 := hP.len
  have l2 := hQ.len
  have hq := h.pl
  have ht0 := h.ps.lt p0 hp0
  unfold Proofs.Ytbdmmikflkpmpaa.pairF
  rw [getD_set, getD_set]
  by_cases e : p = p0
  · subst e
    rw [if_pos ⟨rfl, by omega⟩, if_pos ⟨rfl, by omega⟩, clrB_bit _ _ _ (hQ.lt _) (by omega), clrB_bit _ _ _ (hP.lt _) (by omega), h.ft p j hp hj]
    congr 2
    refine decide_eq_decide.2 ⟨fun c => ?_, fun c => by rw [c]⟩
    rw [← h.js.is j0 hj0, c, h.js.is j hj]
  · have e' : t p0 ≠ t p := fun c => e (by rw [← h.ps.is p hp, ← c, h.ps.is p0 hp0])
    rw [if_neg (fun c => e' c.1), if_neg (fun c => e c.1.symm), h.ft p j hp hj]
theorem Trd.pair1 (hP : PFit P) (hQ : PFit Q) (h : Trd P Q s si t ti) {p0 j0 : Nat} (hp0 : p0 < P.needs.length) (hj0 : j0 < P.loads.length) : Trd (pairP1 P p0 j0) (pairP1 Q (t p0) (s j0)) s si t ti :=
  ⟨h.jl, h.pl, h.js, h.ps, h.ld, h.nd, fun p j hp hj => h.pairF hP hQ hp0 hj0 hp hj⟩
theorem Ren.set {n : Nat} {s i : Nat → Nat} (h : Ren n s i) {A B : List Nat} (ha : A.length = n) (hb : B.length = n) (he : ∀ k, k < n → B.getD (s k) 0 = A.getD k 0) {k0 v : Nat} (hk0 : k0 < n) {k : Nat} (hk : k < n) : (B.set (s k0) v).getD (s k) 0 = (A.set k0 v).getD k 0 := by
  have := h.lt k0 hk0
  rw [getD_set, getD_set]
  by_cases e : k = k0
  · subst e
    rw [if_pos ⟨rfl, by omega⟩, if_pos ⟨rfl, by omega⟩]
  · have e' : s k0 ≠ s k := fun c => e (by rw [← h.is k hk, ← c, h.is k0 hk0])
    rw [if_neg (fun c => e' c.1), if_neg (fun c => e c.1.symm), he k hk]
theorem Trd.pair2 (hP : PFit P) (hQ : PFit Q) (h : Trd P Q s si t ti) {p0 j0 : Nat} (hp0 : p0 < P.needs.length) (hj0 : j0 < P.loads.length) : Trd (pairP2 P p0 j0) (pairP2 Q (t p0) (s j0)) s si t ti := by
  have l1 : (pairP2 P p0 j0).loads.length = P.loads.length := List.length_set
  have l2 : (pairP2 P p0 j0).needs.length = P.needs.length := List.length_set
  refine ⟨?_, ?_, by rw [l1]; exact h.js, by rw [l2]; exact h.ps, fun j hj => ?_, fun p hp => ?_, fun p j hp hj => ?_⟩
  · show (Q.loads.set _ _).length = (P.loads.set _ _).length
    rw [List.length_set, List.length_set, h.jl]
  · show (Q.needs.set _ _).length = (P.needs.set _ _).length
    rw [List.length_set, List.length_set, h.pl]
  · rw [l1] at hj
    show (Q.loads.set (s j0) (Q.loads.getD (s j0) 0 - 1)).getD (s j) 0 = (P.loads.set j0 (P.loads.getD j0 0 - 1)).getD j 0
    rw [h.ld j0 hj0]
    exact h.js.set rfl h.jl h.ld hj0 hj
  · rw [l2] at hp
    show (Q.needs.set (t p0) (Q.needs.getD (t p0) 0 - 1)).getD (t p) 0 = (P.needs.set p0 (P.needs.getD p0 0 - 1)).getD p 0
    rw [h.nd p0 hp0]
    exact h.ps.set rfl h.pl h.nd hp0 hp
  · rw [l1] at hj
    rw [l2] at hp
    exact h.pairF hP hQ hp0 hj0 hp hj
theorem pair2_ok {p j : Nat} (hP : P.Ok) : (pairP2 P p j).Ok := ⟨by show (P.loads.set _ _).length ≤ 6; rw [List.length_set]; exact hP.j, by show (P.needs.set _ _).length ≤ 6; rw [List.length_set]; exact hP.p⟩
theorem Trd.pair (hP : PFit P) (hQ : PFit Q) (h : Trd P Q s si t ti) {p0 j0 : Nat} (hp0 : p0 < P.needs.length) (hj0 : j0 < P.loads.length) : pairV P p0 j0 = pairV Q (t p0) (s j0) := by
  unfold pairV
  have e1 : canV (pairP1 P p0 j0) = canV (pairP1 Q (t p0) (s j0)) := Trd.can (P := pairP1 P p0 j0) (Q := pairP1 Q (t p0) (s j0)) ⟨hP.ok.j, hP.ok.p⟩ ⟨hQ.ok.j, hQ.ok.p⟩ (h.pair1 hP hQ hp0 hj0)
  have e2 : canV (pairP2 P p0 j0) = canV (pairP2 Q (t p0) (s j0)) := Trd.can (P := pairP2 P p0 j0) (Q := pairP2 Q (t p0) (s j0)) (pair2_ok hP.ok) (pair2_ok hQ.ok) (h.pair2 hP hQ hp0 hj0)
  rw [e1, e2]
  have : pairB P p0 j0 = pairB Q (t p0) (s j0) := by
    unfold pairB
    rw [h.ft p0 j0 hp0 hj0, h.ld j0 hj0, h.nd p0 hp0]
  rw [this]
end
/-! ### how many seatings -/
theorem le_of_sub {α : Type} [DecidableEq α] : ∀ {A B : List α}, A.Nodup → (∀ x ∈ A, x ∈ B) → A.length ≤ B.length
  | [], _, _, _ => Nat.zero_le _
  | x :: A, B, hn, h => by
    have hx := h x (List.mem_cons_self ..)
    have h2 := le_of_sub (A := A) (B := B.erase x) (List.nodup_cons.1 hn).2 fun y hy => by
      have hne : y ≠ x := fun e => (List.nodup_cons.1 hn).1 (e ▸ hy)
      exact (List.mem_erase_of_ne hne).2 (h y (List.mem_cons_of_mem _ hy))
    rw [List.length_erase_of_mem hx] at h2
    have := List.length_pos_of_mem hx
    simp only [List.length_cons]
    omega
theorem seqs_nodup (n : Nat) : ∀ m, (seqs n m).Nodup
  | 0 => by simp [seqs]
  | m + 1 => by
    show ((List.range (2 ^ n)).flatMap fun s => (seqs n m).map (s :: ·)).Nodup
    unfold List.Nodup
    rw [List.pairwise_flatMap]
    refine ⟨fun s _ => ?_, ?_⟩
    · rw [List.pairwise_map]
      exact (seqs_nodup n m).imp fun hne e => hne (List.cons.inj e).2
    · refine (List.nodup_range (n := 2 ^ n)).imp fun {s s'} hne x hx y hy => ?_
      obtain ⟨u, _, rfl⟩ := List.mem_map.1 hx
      obtain ⟨v, _, rfl⟩ := List.mem_map.1 hy
      exact fun e => hne (List.cons.inj e).1
theorem nodup_map {α β : Type} {f : α → β} : ∀ {l : List α}, l.Nodup → (∀ x ∈ l, ∀ y ∈ l, f x = f y → x = y) → (l.map f).Nodup
  | [], _, _ => List.nodup_nil
  | x :: l, hn, h => by
    rw [List.nodup_cons] at hn
    rw [List.map_cons, List.nodup_cons]
    refine ⟨fun hm => ?_, nodup_map hn.2 fun y hy z hz => h y (List.mem_cons_of_mem _ hy) z (List.mem_cons_of_mem _ hz)⟩
    obtain ⟨y, hy, e⟩ := List.mem_map.1 hm
    exact hn.1 (h y (List.mem_cons_of_mem _ hy) x (List.mem_cons_self ..) e ▸ hy)
theorem seqs_ext {n m : Nat} {u v : List Nat} (hu : u ∈ seqs n m) (hv : v ∈ seqs n m) (h : ∀ p j, p < m → j < n → asg u p j = asg v p j) : u = v := by
  obtain ⟨u1, u2⟩ := (mem_seqs _ _ _).1 hu
  obtain ⟨v1, v2⟩ := (mem_seqs _ _ _).1 hv
  refine List.ext_getElem (by omega) fun p h1 h2 => ?_
  have e1 := u2 _ (List.getElem_mem h1)
  have e2 := v2 _ (List.getElem_mem h2)
  refine Nat.eq_of_testBit_eq fun j => ?_
  by_cases hj : j < n
  · have := h p j (by omega) hj
    unfold asg at this
    rwa [getD_lt h1, getD_lt h2] at this
  · rw [Nat.testBit_lt_two_pow (Nat.lt_of_lt_of_le e1 (Nat.pow_le_pow_right (by omega) (by omega))), Nat.testBit_lt_two_pow (Nat.lt_of_lt_of_le e2 (Nat.pow_le_pow_right (by omega) (by omega)))]
theorem Trd.count_le {P Q : Pnl} {s si t ti : Nat → Nat} (hP : PFit P) (hQ : PFit Q) (h : Trd P Q s si t ti) :
    ((seqs P.loads.length P.needs.length).filter (okL (nf P) P.loads)).length ≤ ((seqs Q.loads.length Q.needs.length).filter (okL (nf Q) Q.loads)).length := by
  have hat : ∀ u, ∀ p j, p < Q.needs.length → j < Q.loads.length → asg (setsOf Q fun p j => asg u (ti p) (si j)) p j = asg u (ti p) (si j) := fun u p j hp hj => setsOf_at Q _ hp hj
  have hm := le_of_sub (A := ((seqs P.loads.length P.needs.length).filter (okL (nf P) P.loads)).map fun u => setsOf Q fun p j => asg u (ti p) (si j))
    (B := (seqs Q.loads.length Q.needs.length).filter (okL (nf Q) Q.loads)) (nodup_map ((seqs_nodup _ _).filter _) fun u hu v hv e => ?_) fun z hz => ?_
  · rwa [List.length_map] at hm
  · refine seqs_ext (List.mem_filter.1 hu).1 (List.mem_filter.1 hv).1 fun p j hp hj => ?_
    have h1 := hat u (t p) (s j) (by rw [h.pl]; exact h.ps.lt p hp) (by rw [h.jl]; exact h.js.lt j hj)
    have h2 := hat v (t p) (s j) (by rw [h.pl]; exact h.ps.lt p hp) (by rw [h.jl]; exact h.js.lt j hj)
    rw [h.ps.is p hp, h.js.is j hj] at h1 h2
    rw [← h1, ← h2, e]
  · obtain ⟨u, hu, rfl⟩ := List.mem_map.1 hz
    have hu' := List.mem_filter.1 hu
    have h1 := (seat_iff hP hu'.1).1 hu'.2
    refine List.mem_filter.2 ⟨setsOf_mem Q _, (seat_iff hQ (setsOf_mem Q _)).2 ?_⟩
    exact seating_congr (h.seating h1) fun p j hp hj => hat u p j hp hj
end Go.Proofs.Ytbdmmikflkpmpaa
end

section
set_option linter.unusedVariables false
set_option linter.unusedSimpArgs false
namespace Go.Proofs.Ytbdmmikflkpmpaa
open Go.RowKit Go.TL Go.Shelf Go.Pn
/-- The same panels, numbered otherwise, with kin in whatever order. -/
structure Tn (a x : S3) (s si t ti : Nat → Nat) : Prop where
  jl : x.1.length = a.1.length
  pl : x.2.1.length = a.2.1.length
  js : Ren a.1.length s si
  ps : Ren a.2.1.length t ti
  ld : ∀ j, j < a.1.length → x.1.getD (s j) 0 = a.1.getD j 0
  nd : ∀ p, p < a.2.1.length → x.2.1.getD (t p) 0 = a.2.1.getD p 0
  kn : ∀ p j, p < a.2.1.length → j < a.1.length → ((s j, t p) ∈ x.2.2 ↔ (j, p) ∈ a.2.2)
theorem rep_bit {n m q j : Nat} (hq : q < n) (hj : j < m) : ((List.replicate n (2 ^ m - 1)).getD q 0).testBit j = true := by
  rw [List.getD_eq_getElem?_getD, List.getElem?_replicate, if_pos hq, Option.getD_some, Nat.testBit_two_pow_sub_one, decide_eq_true hj]
section
variable {a x : S3} {s si t ti : Nat → Nat}
theorem Tn.trd (ha : a.Good) (hx : x.Good) (h : Tn a x s si t ti) : Trd (toP a) (toP x) s si t ti := by
  refine ⟨h.jl, h.pl, h.js, h.ps, h.ld, h.nd, fun p j hp hj => ?_⟩
  have hp' : p < a.2.1.length := hp
  have hj' : j < a.1.length := hj
  have h1 := ha.k1
  have h2 := hx.k1
  have h3 := ha.j
  have h4 := hx.j
  have h5 := h.js.lt j hj'
  have h6 := h.ps.lt p hp'
  show ((kinF (List.replicate x.2.1.length (2 ^ x.1.length - 1)) x.2.2).getD (t p) 0).testBit (s j) = ((kinF (List.replicate a.2.1.length (2 ^ a.1.length - 1)) a.2.2).getD p 0).testBit j
  rw [kinF_bit _ _ (fun k hk => by have := h2 k hk; omega) (fun q => rep_lt (two_lt h4) q) _ _ (by rw [List.length_replicate, h.pl]; exact h6), kinF_bit _ _ (fun k hk => by have := h1 k hk; omega) (fun q => rep_lt (two_lt h3) q) _ _ (by rw [List.length_replicate]; exact hp'), rep_bit (by rw [h.pl]; exact h6) (by rw [h.jl]; exact h5), rep_bit hp' hj', Bool.true_and, Bool.true_and]
  congr 1
  exact decide_eq_decide.2 (h.kn p j hp' hj')
theorem Tn.symm (h : Tn a x s si t ti) : Tn x a si s ti t := by
  refine ⟨h.jl.symm, h.pl.symm, by rw [h.jl]; exact h.js.symm, by rw [h.pl]; exact h.ps.symm, fun j hj => ?_, fun p hp => ?_, fun p j hp hj => ?_⟩
  · rw [h.jl] at hj
    rw [← h.ld _ (h.js.ilt j hj), h.js.si j hj]
  · rw [h.pl] at hp
    rw [← h.nd _ (h.ps.ilt p hp), h.ps.si p hp]
  · rw [h.jl] at hj
    rw [h.pl] at hp
    rw [← h.kn _ _ (h.ps.ilt p hp) (h.js.ilt j hj), h.ps.si p hp, h.js.si j hj]
theorem Tn.loaded (h : Tn a x s si t ti) {j0 n : Nat} (hj0 : j0 < a.1.length) : Tn (a.loaded j0 n) (x.loaded (s j0) n) s si t ti := by
  have l1 : (a.loaded j0 n).1.length = a.1.length := List.length_set
  have l2 : (x.loaded (s j0) n).1.length = x.1.length := List.length_set
  refine ⟨by rw [l1, l2]; exact h.jl, h.pl, by rw [l1]; exact h.js, h.ps, fun j hj => ?_, h.nd, fun p j hp hj => h.kn p j hp (by rwa [l1] at hj)⟩
  rw [l1] at hj
  exact h.js.set rfl h.jl h.ld hj0 hj
theorem map_min_getD (l : List Nat) (n j : Nat) (hj : j < l.length) : (l.map (min n)).getD j 0 = min n (l.getD j 0) := by
  rw [List.getD_eq_getElem?_getD, List.getElem?_map, List.getElem?_eq_getElem hj, getD_lt hj]
  rfl
theorem Tn.atMost (h : Tn a x s si t ti) (n : Nat) : Tn (a.atMost n) (x.atMost n) s si t ti := by
  have l1 : (a.atMost n).1.length = a.1.length := List.length_map ..
  have l2 : (x.atMost n).1.length = x.1.length := List.length_map ..
  refine ⟨by rw [l1, l2]; exact h.jl, h.pl, by rw [l1]; exact h.js, h.ps, fun j hj => ?_, h.nd, fun p j hp hj => h.kn p j hp (by rwa [l1] at hj)⟩
  rw [l1] at hj
  show (x.1.map (min n)).getD (s j) 0 = (a.1.map (min n)).getD j 0
  rw [map_min_getD _ _ _ (by rw [h.jl]; exact h.js.lt j hj), map_min_getD _ _ _ hj, h.ld j hj]
def onT (ti : Nat → Nat) (n w : Nat) : Nat := mkS (fun p => w.testBit (ti p)) n
theorem onT_lt (ti : Nat → Nat) (n w : Nat) : onT ti n w < 2 ^ n := mkS_lt _ _
theorem onT_pop {ti : Nat → Nat} {n w : Nat} {t : Nat → Nat} (h : Ren n t ti) (hn : n ≤ 10) (hw : w < 2 ^ n) : pop (onT ti n w) = pop w := by
  rw [pop_n (onT_lt _ _ _) hn, pop_n hw hn, ← h.symm.sum fun p => b1 (w.testBit p)]
  refine sumN_congr _ fun p hp => ?_
  unfold onT
  rw [mkS_bit, decide_eq_true hp, Bool.true_and]
theorem Tn.only (h : Tn a x s si t ti) (w : Nat) : Tn (a.only w) (x.only (onT ti a.2.1.length w)) s si t ti := by
  have l1 : (a.only w).2.1.length = a.2.1.length := onlyTo_len _ _ _
  have l2 : (x.only (onT ti a.2.1.length w)).2.1.length = x.2.1.length := onlyTo_len _ _ _
  refine ⟨h.jl, by rw [l1, l2]; exact h.pl, h.js, by rw [l1]; exact h.ps, h.ld, fun p hp => ?_, fun p j hp hj => h.kn p j (by rwa [l1] at hp) hj⟩
  rw [l1] at hp
  have h6 := h.ps.lt p hp
  show (onlyTo _ x.2.1 x.2.1.length).getD (t p) 0 = (onlyTo w a.2.1 a.2.1.length).getD p 0
  rw [onlyTo_get, onlyTo_get, h.nd p hp]
  have e : (onT ti a.2.1.length w).testBit (t p) = w.testBit p := by
    unfold onT
    rw [mkS_bit, decide_eq_true h6, Bool.true_and, h.ps.is p hp]
  rw [e]
  have e2 : (t p < x.2.1.length ∧ w.testBit p = false) = (p < a.2.1.length ∧ w.testBit p = false) := by
    apply propext
    rw [h.pl]
    exact ⟨fun c => ⟨hp, c.2⟩, fun c => ⟨h6, c.2⟩⟩
  simp only [e2]
/-- Kin stand in the other order. -/
structure KRev (a x : S3) (s t : Nat → Nat) : Prop where
  len : x.2.2.length = a.2.2.length
  get : ∀ i k, a.2.2[i]? = some k → x.2.2[a.2.2.length - 1 - i]? = some (s k.1, t k.2)
theorem KRev.back (ha : a.Good) (js : Ren a.1.length s si) (ps : Ren a.2.1.length t ti) (h : KRev a x s t) {i j p : Nat} (hj : j < a.1.length) (hp : p < a.2.1.length) (hx : x.2.2[i]? = some (s j, t p)) : i < a.2.2.length ∧ a.2.2[a.2.2.length - 1 - i]? = some (j, p) := by
  have hi := (List.getElem?_eq_some_iff.1 hx).1
  rw [h.len] at hi
  have hk : a.2.2[a.2.2.length - 1 - i]? = some a.2.2[a.2.2.length - 1 - i] := List.getElem?_eq_getElem (by omega)
  have h2 := h.get _ _ hk
  rw [show a.2.2.length - 1 - (a.2.2.length - 1 - i) = i by omega, hx] at h2
  have hm : a.2.2[a.2.2.length - 1 - i] ∈ a.2.2 := List.getElem_mem _
  have b1 := ha.k1 _ hm
  have b2 := ha.k2 _ hm
  generalize a.2.2[a.2.2.length - 1 - i] = k at *
  have h3 := Option.some.inj h2
  refine ⟨hi, ?_⟩
  rw [hk]
  congr 1
  refine Prod.ext ?_ ?_
  · rw [← js.is _ b1, ← (Prod.mk.inj h3).1, js.is _ hj]
  · rw [← ps.is _ b2, ← (Prod.mk.inj h3).2, ps.is _ hp]
theorem KRev.mem (ha : a.Good) (js : Ren a.1.length s si) (ps : Ren a.2.1.length t ti) (h : KRev a x s t) (p j : Nat) (hp : p < a.2.1.length) (hj : j < a.1.length) : (s j, t p) ∈ x.2.2 ↔ (j, p) ∈ a.2.2 := by
  constructor
  · intro hm
    obtain ⟨i, hi, e⟩ := List.getElem_of_mem hm
    exact List.mem_of_getElem? (h.back ha js ps hj hp (i := i) (by rw [List.getElem?_eq_getElem hi, e])).2
  · intro hm
    obtain ⟨i, hi, e⟩ := List.getElem_of_mem hm
    exact List.mem_of_getElem? (h.get i (j, p) (by rw [List.getElem?_eq_getElem hi, e]))
theorem KRev.symm (ha : a.Good) (js : Ren a.1.length s si) (ps : Ren a.2.1.length t ti) (h : KRev a x s t) : KRev x a si ti := by
  refine ⟨h.len.symm, fun i k hk => ?_⟩
  have hi := (List.getElem?_eq_some_iff.1 hk).1
  rw [h.len] at hi ⊢
  have hk0 : a.2.2[a.2.2.length - 1 - i]? = some a.2.2[a.2.2.length - 1 - i] := List.getElem?_eq_getElem (by omega)
  have h2 := h.get _ _ hk0
  rw [show a.2.2.length - 1 - (a.2.2.length - 1 - i) = i by omega, hk] at h2
  have hm : a.2.2[a.2.2.length - 1 - i] ∈ a.2.2 := List.getElem_mem _
  have b1 := ha.k1 _ hm
  have b2 := ha.k2 _ hm
  rw [hk0]
  generalize a.2.2[a.2.2.length - 1 - i] = k0 at *
  have h3 := Option.some.inj h2
  rw [h3]
  congr 1
  exact Prod.ext (js.is _ b1).symm (ps.is _ b2).symm
theorem Tn.waive (ha : a.Good) (h : Tn a x s si t ti) (hk : KRev a x s t) (w : Nat) : Tn (a.waive w) (x.waive (onT (fun i => a.2.2.length - 1 - i) a.2.2.length w)) s si t ti := by
  refine ⟨h.jl, h.pl, h.js, h.ps, h.ld, h.nd, fun p j hp hj => ?_⟩
  show _ ∈ waiveK _ x.2.2 ↔ _ ∈ waiveK w a.2.2
  rw [waiveK_mem, waiveK_mem]
  constructor
  · rintro ⟨i, hi, hx⟩
    obtain ⟨h1, h2⟩ := hk.back ha h.js h.ps hj hp hx
    unfold onT at hi
    rw [mkS_bit, decide_eq_true h1, Bool.true_and] at hi
    exact ⟨_, hi, h2⟩
  · rintro ⟨i, hi, hx⟩
    have hil := (List.getElem?_eq_some_iff.1 hx).1
    refine ⟨a.2.2.length - 1 - i, ?_, hk.get _ _ hx⟩
    unfold onT
    rw [mkS_bit, decide_eq_true (by omega), Bool.true_and]
    show w.testBit (a.2.2.length - 1 - (a.2.2.length - 1 - i)) = false
    rw [show a.2.2.length - 1 - (a.2.2.length - 1 - i) = i by omega]
    exact hi
end
/-! ### what is told -/
section
variable {a x : XP} {s si t ti : Nat → Nat}
theorem s3_jl (a : XP) : a.s3.1.length = a.L.length := by simp [XP.s3]
theorem s3_pl (a : XP) : a.s3.2.1.length = a.N.length := by simp [XP.s3]
theorem tn_can {u v : S3} (hf : S3.Good u) (hx : S3.Good v) (h : Tn u v s si t ti) : canV (toP u) = canV (toP v) := (h.trd hf hx).can (toP_Fit hf).ok (toP_Fit hx).ok
theorem tn_count (hf : a.Fine) (hx : x.Fine) (h : Tn a.s3 x.s3 s si t ti) : countF a ≤ countF x := by
  have h2 := (h.trd (XP.good hf) (XP.good hx)).count_le (toP_Fit (XP.good hf)) (toP_Fit (XP.good hx))
  rw [count_is hf, count_is hx, ← s3_jl a, ← s3_pl a, ← s3_jl x, ← s3_pl x]
  exact h2
theorem tn_short (hf : a.Fine) (hx : x.Fine) (h : Tn a.s3 x.s3 s si t ti) {u : Nat} (hu : shortF a.s3 = some u) : ∃ v, shortF x.s3 = some v ∧ pop v ≤ pop u ∧ v < 2 ^ x.N.length := by
  have hp6 := hf.p
  have hx6 := hx.p
  have e1 := s3_pl a
  have e2 := s3_pl x
  obtain ⟨h1, h2, _⟩ := bySize_min (by rw [e1]; omega) hu
  have h3 : canV (toP (x.s3.only (onT ti a.s3.2.1.length u))) = false := by
    rw [← tn_can ((XP.good hf).only _) ((XP.good hx).only _) (h.only u)]
    simpa using h2
  have hpl := h.pl
  cases hv : shortF x.s3 with
  | none =>
    have := List.find?_eq_none.1 hv (onT ti a.s3.2.1.length u) ((mem_bySize_iff (by rw [e2]; omega)).2 (by rw [hpl]; exact onT_lt _ _ _))
    rw [h3] at this
    simp at this
  | some v =>
    obtain ⟨h4, _, h6⟩ := bySize_min (by rw [e2]; omega) hv
    refine ⟨v, rfl, ?_, by rw [← e2]; exact h4⟩
    have h7 := onT_pop h.ps (by omega) h1
    rcases h6 (onT ti a.s3.2.1.length u) (by rw [hpl]; exact onT_lt _ _ _) (by rw [h3]; rfl) with h | h <;> omega
theorem tn_waive (hf : a.Fine) (hx : x.Fine) (h : Tn a.s3 x.s3 s si t ti) (hk : KRev a.s3 x.s3 s t) (hc : canV (toP (a.s3.waive (every a.K.length))) = true) :
    canV (toP (x.s3.waive (every x.K.length))) = true ∧ pop (waiveF x.s3) ≤ pop (waiveF a.s3) := by
  have hk10 := hf.k
  refine waive_le hf hx (fun w hw hcw => ⟨_, ?_, Nat.le_of_eq (onT_pop (Ren.rev a.s3.2.2.length) (by rw [s3_kin_len]; omega) (by rw [s3_kin_len]; exact hw)), ?_⟩) hc
  · rw [← s3_kin_len x, hk.len]
    exact onT_lt _ _ _
  · rw [← tn_can (s3_waive (XP.good hf) w) (s3_waive (XP.good hx) _) (h.waive (XP.good hf) hk w)]
    exact hcw
/-- What is told of panels and of the same ones, numbered otherwise. -/
structure TuFacts (a x : XP) (s t : Nat → Nat) : Prop where
  count : countF a = countF x
  seats : seatsV (toP a.s3) = seatsV (toP x.s3)
  can : canV (toP a.s3) = canV (toP x.s3)
  busy : busyF a.s3 = busyF x.s3
  spare : ∀ j, j < a.L.length → (spareF a.s3 a.L.length).testBit j = (spareF x.s3 x.L.length).testBit (s j)
  short : (shortF a.s3 = none ∧ shortF x.s3 = none) ∨ ∃ u v, shortF a.s3 = some u ∧ shortF x.s3 = some v ∧ pop u = pop v ∧ u < 2 ^ a.N.length ∧ v < 2 ^ x.N.length
  waive : canV (toP (a.s3.waive (every a.K.length))) = canV (toP (x.s3.waive (every x.K.length)))
  waived : canV (toP (a.s3.waive (every a.K.length))) = true → pop (waiveF a.s3) = pop (waiveF x.s3)
  pair : ∀ p j, p < a.N.length → j < a.L.length → pairV (toP a.s3) p j = pairV (toP x.s3) (t p) (s j)
theorem tu_facts (hf : a.Fine) (hx : x.Fine) (h : Tn a.s3 x.s3 s si t ti) (hk : KRev a.s3 x.s3 s t) : TuFacts a x s t := by
  have ga := XP.good hf
  have gx := XP.good hx
  have fa := toP_Fit ga
  have fx := toP_Fit gx
  have hT := h.trd ga gx
  have hkb := hk.symm ga h.js h.ps
  refine ⟨Nat.le_antisymm (tn_count hf hx h) (tn_count hx hf h.symm), hT.seats fa.ok fx.ok, hT.can fa.ok fx.ok, ?_, fun j hj => ?_, ?_, ?_, fun hc => ?_, fun p j hp hj => ?_⟩
  · unfold busyF
    congr 1
    congr 1
    funext n
    exact tn_can (s3_atMost ga n) (s3_atMost gx n) (h.atMost n)
  · have hjl := h.jl
    rw [s3_jl, s3_jl] at hjl
    have hj' : j < a.s3.1.length := by rw [s3_jl]; exact hj
    have hs := h.js.lt j hj'
    rw [s3_jl] at hs
    unfold spareF
    rw [mkS_bit, mkS_bit, decide_eq_true hj, decide_eq_true (by omega), Bool.true_and, Bool.true_and]
    exact tn_can (s3_loaded ga j 0 (by omega)) (s3_loaded gx (s j) 0 (by omega)) (h.loaded hj')
  · cases hu : shortF a.s3 with
    | none =>
      cases hv : shortF x.s3 with
      | none => exact .inl ⟨rfl, rfl⟩
      | some v =>
        obtain ⟨u, h1, _⟩ := tn_short hx hf h.symm hv
        rw [hu] at h1
        cases h1
    | some u =>
      obtain ⟨v, h1, h2, h3⟩ := tn_short hf hx h hu
      obtain ⟨u', h4, h5, h6⟩ := tn_short hx hf h.symm h1
      rw [hu] at h4
      cases h4
      exact .inr ⟨u, v, rfl, h1, Nat.le_antisymm h5 h2, h6, h3⟩
  · cases h1 : canV (toP (a.s3.waive (every a.K.length))) with
    | true => exact (tn_waive hf hx h hk h1).1.symm
    | false =>
      cases h2 : canV (toP (x.s3.waive (every x.K.length))) with
      | false => rfl
      | true =>
        have := (tn_waive hx hf h.symm hkb h2).1
        rw [h1] at this
        cases this
  · have h2 := tn_waive hf hx h hk hc
    exact Nat.le_antisymm (tn_waive hx hf h.symm hkb h2.1).2 h2.2
  · exact hT.pair fa fx (by show p < a.s3.2.1.length; rw [s3_pl]; exact hp) (by show j < a.s3.1.length; rw [s3_jl]; exact hj)
end
end Go.Proofs.Ytbdmmikflkpmpaa
end

section
set_option linter.unusedVariables false
set_option linter.unusedSimpArgs false
namespace Go.Proofs.Ytbdmmikflkpmpaa
open Go.RowKit Go.TL Go.Shelf Go.Pn
theorem toNat_getD (l : List Int) (j : Nat) : (l.map Int.toNat).getD j 0 = (l.getD j 0).toNat := by
  rw [List.getD_eq_getElem?_getD, List.getD_eq_getElem?_getD, List.getElem?_map]
  cases l[j]? <;> rfl
theorem mo_xx {a : XP} (hf : a.Fine) {Z : World} (ha : a.At Z) {L' : List Int} (hlen : L'.length = a.L.length) (hmono : ∀ j, j < a.L.length → a.L.getD j 0 ≤ L'.getD j 0) (hin : ∀ y ∈ L', 0 ≤ y ∧ y ≤ 6) {bx gL cL : Nat} {cu : List Value} (hb : Z.heap[bx]? = some (.cells #[.slice (some ⟨gL, 0, none⟩) a.L.length cL, a.sN, a.sK] 25 (0, 0))) (hg : Z.heap[gL]? = some (.cells cu.toArray 3 (0, 0))) (hp : Pre cu (L'.map vi)) (d : Nat) :
    ({ a with AL := some ⟨gL, 0, none⟩, cL := cL, L := L' } : XP).Fine ∧ MoFacts a { a with AL := some ⟨gL, 0, none⟩, cL := cL, L := L' } false d ∧ PBx Z bx { a with AL := some ⟨gL, 0, none⟩, cL := cL, L := L' } := by
  have hx : ({ a with AL := some ⟨gL, 0, none⟩, cL := cL, L := L' } : XP).Fine := ⟨by show L'.length ≤ 6; rw [hlen]; exact hf.j, hf.p, hf.k, hin, hf.nb, fun y hy => by
    have := hf.kb y hy
    show (0 ≤ y.1 ∧ y.1 < (L'.length : Int)) ∧ _
    rw [hlen]
    exact this⟩
  refine ⟨hx, more_up hf hx (wid_s3 (XP.good hf) (XP.good hx) ?_ rfl (fun j hj => ?_) (fun k hk => hk)) rfl (.inl rfl) d, ⟨?_, ⟨rowV_pre hg hp, ha.n, ha.k, ?_, ha.n4, ha.k4⟩⟩⟩
  · show (L'.map Int.toNat).length = (a.L.map Int.toNat).length
    rw [List.length_map, List.length_map, hlen]
  · show (a.L.map Int.toNat).getD j 0 ≤ (L'.map Int.toNat).getD j 0
    rw [toNat_getD, toNat_getD]
    have hj' : j < a.L.length := by rw [← s3_jl]; exact hj
    have := hmono j hj'
    omega
  · rw [hb]
    show some (Obj.cells #[.slice (some ⟨gL, 0, none⟩) a.L.length cL, a.sN, a.sK] 25 (0, 0)) = some (Obj.cells #[.slice (some ⟨gL, 0, none⟩) L'.length cL, a.sN, a.sK] 25 (0, 0))
    rw [hlen]
  · show L'.length ≤ 40
    rw [hlen]
    exact ha.l4
theorem mo_yy {a : XP} (hf : a.Fine) {Z : World} (ha : a.At Z) {N' : List Int} {d : Nat} (hmn : MoN a N' d) {by_ gN cN : Nat} {cu : List Value} (hb : Z.heap[by_]? = some (.cells #[a.sL, .slice (some ⟨gN, 0, none⟩) a.N.length cN, a.sK] 25 (0, 0))) (hg : Z.heap[gN]? = some (.cells cu.toArray 3 (0, 0))) (hp : Pre cu (N'.map vi)) :
    ({ a with AN := some ⟨gN, 0, none⟩, cN := cN, N := N' } : XP).Fine ∧ MoFacts a { a with AN := some ⟨gN, 0, none⟩, cN := cN, N := N' } true d ∧ PBx Z by_ { a with AN := some ⟨gN, 0, none⟩, cN := cN, N := N' } := by
  have hlen : N'.length = a.N.length := by
    rcases hmn with ⟨h, _⟩ | ⟨r, _, _, h, _⟩
    · rw [h]
    · rw [h, List.length_set]
  have hin : ∀ y ∈ N', 0 ≤ y ∧ y ≤ 3 := by
    rcases hmn with ⟨h, _⟩ | ⟨r, hr, h0, h, _⟩
    · rw [h]; exact hf.nb
    · intro y hy
      rw [h] at hy
      rcases List.mem_or_eq_of_mem_set hy with h | h
      · exact hf.nb y h
      · have := hf.nb _ (List.mem_of_getElem? (getDI a.N hr))
        omega
  have hx : ({ a with AN := some ⟨gN, 0, none⟩, cN := cN, N := N' } : XP).Fine := ⟨hf.j, by show N'.length ≤ 6; rw [hlen]; exact hf.p, hf.k, hf.lb, hin, fun y hy => by
    have := hf.kb y hy
    show _ ∧ 0 ≤ y.2 ∧ y.2 < (N'.length : Int)
    rw [hlen]
    exact this⟩
  refine ⟨hx, ?_, ⟨?_, ⟨ha.l, rowV_pre hg hp, ha.k, ha.l4, ?_, ha.k4⟩⟩⟩
  · rcases hmn with ⟨h, h2⟩ | ⟨r, hr, h0, h, h2⟩
    · subst h2
      refine more_same hf hx ?_
      show (_, N'.map Int.toNat, _) = _
      rw [h]
      rfl
    · subst h2
      refine more_dn hf hx rfl rfl (r := r) ?_ hr (Nat.le_refl _)
      show N'.map Int.toNat = (a.N.map Int.toNat).set r ((a.N.map Int.toNat).getD r 0 - 1)
      rw [h, List.map_set, toNat_getD]
      congr 1
      omega
  · rw [hb]
    show some (Obj.cells #[a.sL, .slice (some ⟨gN, 0, none⟩) a.N.length cN, a.sK] 25 (0, 0)) = some (Obj.cells #[a.sL, .slice (some ⟨gN, 0, none⟩) N'.length cN, a.sK] 25 (0, 0))
    rw [hlen]
  · show N'.length ≤ 40
    rw [hlen]
    exact ha.n4
theorem mo_zz {a z : XP} (hf : a.Fine) (hz : z.Fine) (hs : z.s3 = a.s3 ∨ ∃ r, r < a.K.length ∧ z.s3 = a.s3.waive (2 ^ r)) (d : Nat) : MoFacts a z false d := by
  rcases hs with h | ⟨r, hr, h⟩
  · refine more_up hf hz ?_ (by rw [h]) (.inl (by rw [h])) d
    rw [h]
    exact ⟨rfl, rfl, fun _ _ => Nat.le_refl _, fun _ _ _ _ h => h⟩
  · refine more_up hf hz (wid_s3 (XP.good hf) (XP.good hz) (by rw [h]; rfl) (by rw [h]; rfl) (fun j _ => by rw [h]; exact Nat.le_refl _) fun k hk => ?_) (by rw [h]; rfl) (.inr ⟨r, hr, h⟩) d
    rw [h] at hk
    obtain ⟨i, _, hi⟩ := waiveK_mem.1 hk
    exact List.mem_of_getElem? hi
set_option maxRecDepth 100000 in
set_option maxHeartbeats 4000000 in
theorem more_law (a : XP) (m : Nat) (w : World) (h : a.Row w) (hm : m < 256) : Calls Try.prog 8 #[a.val, .int .u8 (m : Int)] w fun e w' => e = .returned (.bool true) ∧ Below w.heap.size w w' := by
  have hu25 := Try.underlying25
  have hu22 := Try.underlying22
  have hu23 := Try.underlying23
  have hmf : ∀ fn first cap w, (Instr.makeFunc fn first cap).run Try.prog w = .ok (.func fn first cap) w := fun _ _ _ _ => rfl
  refine calls_of_exec Try.func8 rfl ?_
  simp only [Try.ntmps8, List.size_toArray, List.length_cons, List.length_nil, Nat.reduceAdd, Nat.reduceSub, Array.replicate_succ, Array.replicate_zero, List.push_toArray, List.append_toArray, List.nil_append, List.cons_append]
  simp only [XP.val]
  refine exec_seq (exec_region_o fun ds => ?_)
  gi_wp2
  refine eq_mk ((Keep.refl w).alloc _) ?_
  show Exec _ _ (Code.seq _ _) _ (w.alloc (.cells #[a.sL, a.sN, a.sK] 25)) _
  have hB := (Below.refl w.heap.size w).alloc (Nat.le_refl _) (.cells #[a.sL, a.sN, a.sK] 25)
  have hh : (w.alloc (.cells #[a.sL, a.sN, a.sK] 25)).heap[w.heap.size]? = some (.cells #[a.sL, a.sN, a.sK] 25 (0, 0)) := World.alloc_heap_new _ _
  have hR := h.below hB
  generalize w.alloc (.cells #[a.sL, a.sN, a.sK] 25) = W0 at *
  have c0 := cells_get (cs := [_, _, _]) (k := 0) hh rfl
  have c1 := cells_get (cs := [_, _, _]) (k := 1) hh rfl
  have c2 := cells_get (cs := [_, _, _]) (k := 2) hh rfl
  obtain ⟨hv, hhv⟩ : ∃ b, heavyB a 5 5 10 = b := ⟨_, rfl⟩
  have hvy : Calls Try.prog 13 #[.agg #[a.sL, a.sN, a.sK], .int .i64 5, .int .i64 5, .int .i64 10] W0 fun e w' => e = .returned (.bool (heavyB a 5 5 10)) ∧ Below W0.heap.size W0 w' := heavy13 a 5 5 10 W0 hR
  rw [hhv] at hvy
  refine exec_seq (exec_seq (exec_region_o fun ds => ?_))
  gi_wp2_with fail
  refine ⟨trivial, rfl, (callsIn_wide.2 hvy).mono ?_⟩
  rintro e X0 ⟨rfl, hx⟩
  have hhX := (hx.block _ (heap_lt hh)).trans hh
  have hRX := hR.below hx
  have hBX := hB.trans (hx.mono hB.size)
  have hK := Keep.of_below hx
  clear hx hvy c0 c1 c2 hh hR hB
  have HR := Lib.hid h
  clear h
  cases hv with
  | true =>
    gi_wp2
    first | refine ⟨trivial, ?_⟩ | skip
    rename_i hKK
    refine hKK _ _ ?_
    gi_wp2
    refine eq_mk hK ?_
    show Exec _ _ (Code.cond _ _ _) _ _ _
    refine exec_cond (b := true) rfl (fun _ => ?_) (fun h => by cases h)
    refine exec_seq (exec_region_o fun ds => ?_)
    gi_wp2_with fail
    refine ⟨trivial, rfl, (callsIn_wide.2 (alive14 X0)).mono ?_⟩
    rintro e Y ⟨rfl, hy⟩
    have hBY := hBX.trans (hy.mono hBX.size)
    gi_wp2
    refine eq_mk (Keep.of_below hy) ?_
    show Exec _ _ _ _ _ _
    exact exec_ret ⟨.inr rfl, fun W' hG => ⟨.bool true, by simp [results, Try.f8, go_sem], rfl, hBY.trans (hG.below (Nat.le_refl _) hBY.size)⟩⟩
  | false =>
    have hsm : a.small = true := by
      cases hs : a.small with
      | true => rfl
      | false => rw [heavyB, hs] at hhv; cases hhv
    have h3 : (a.L.length ≤ 40 ∧ a.N.length ≤ 40) ∧ a.K.length ≤ 40 := by simpa [XP.small] using hsm
    have ha : a.At w := HR.out.at_ h3.1.1 h3.1.2 h3.2
    have hX0 : PBx X0 w.heap.size a := ⟨hhX, hRX.at_ h3.1.1 h3.1.2 h3.2⟩
    clear hhv hsm h3 hhX hRX HR
    have c0 := cells_get (cs := [_, _, _]) (k := 0) hX0.heap rfl
    have c1 := cells_get (cs := [_, _, _]) (k := 1) hX0.heap rfl
    have c2 := cells_get (cs := [_, _, _]) (k := 2) hX0.heap rfl
    have hp := panels22 a X0 hX0.at_
    cases hq : a.isP with
    | false =>
      rw [hq] at hp
      clear hq
      gi_wp2_with fail
      refine ⟨trivial, rfl, (callsIn_wide.2 hp).mono ?_⟩
      rintro e X1 ⟨rfl, hx1⟩
      have hBX1 := hBX.trans (hx1.mono hBX.size)
      have hK1 := hK.trans (Keep.of_below hx1)
      clear hx1 c0 c1 c2 hp ha
      gi_wp2
      refine eq_mk hK1 ?_
      show Exec _ _ (Code.cond _ _ _) _ _ _
      refine exec_cond (b := true) rfl (fun _ => ?_) (fun h => by cases h)
      refine exec_seq (exec_region_o fun ds => ?_)
      gi_wp2_with fail
      refine ⟨trivial, rfl, (callsIn_wide.2 (alive14 X1)).mono ?_⟩
      rintro e Y ⟨rfl, hy⟩
      have hBY := hBX1.trans (hy.mono hBX1.size)
      gi_wp2
      refine eq_mk (Keep.of_below hy) ?_
      show Exec _ _ _ _ _ _
      exact exec_ret ⟨.inr rfl, fun W' hG => ⟨.bool true, by simp [results, Try.f8, go_sem], rfl, hBY.trans (hG.below (Nat.le_refl _) hBY.size)⟩⟩
    | true =>
      have hf := a.fine hq
      rw [hq] at hp
      gi_wp2_with fail
      refine ⟨trivial, rfl, (callsIn_wide.2 hp).mono ?_⟩
      rintro e X1 ⟨rfl, hx1⟩
      have hBX1 := hBX.trans (hx1.mono hBX.size)
      have hK1 := hK.trans (Keep.of_below hx1)
      have hX1 := hX0.keep hx1
      clear hx1 c0 c1 c2 hp hX0 hBX hK
      gi_wp2
      refine eq_mk hK1 ?_
      show Exec _ _ (Code.cond _ _ _) _ _ _
      clear hK1
      clear X0 W0
      refine exec_cond (b := false) rfl (fun h => by cases h) (fun _ => exec_skip ?_)
      show Exec _ _ (Code.seq (sub code8 [1, 1, 0]) (Code.seq (sub code8 [1, 1, 1, 0]) (Code.seq _ (Code.seq (sub code8 [1, 1, 1, 1, 1, 0]) (Code.seq (sub code8 [1, 1, 1, 1, 1, 1, 0]) (Code.seq (sub code8 [1, 1, 1, 1, 1, 1, 1, 0]) (Code.seq _ (Code.seq _ (Code.seq _ (Code.seq (sub code8 [1, 1, 1, 1, 1, 1, 1, 1, 1, 1, 1, 0]) _)))))))))) _ _ _
      have hT : Tr w X1 X1 [(w.heap.size, .cells #[a.sL, a.sN, a.sK] 25 (0, 0))] := (Tr.start hBX1).push hX1.heap (Nat.le_refl _) (fun p hp => by cases hp)
      clear hX1 hBX1
      refine exec_seq ((mo_r3 (v1 := .int .u8 (m : Int)) hT _ (by simp [Slots, Fits])).mono ?_)
      intro e t X2 hh2
      obtain ⟨rfl, bx, by_, bz, hT2, hSl⟩ := only_normal hh2
      clear hh2 hT
      clear X1
      refine exec_seq ((mo_r4 ha hT2 _ hSl).mono ?_)
      clear hSl
      clear t
      intro e t X3 hh2
      obtain ⟨rfl, gL, cL, cuL, gN, cN, cuN, hT3, hpL, hpN, hSl⟩ := only_normal hh2
      clear hh2 hT2
      clear X2
      obtain ⟨x, hx⟩ := Slots.open_ hSl; simp only [fill, Nat.reduceAdd] at hx; subst hx; clear hSl
      refine exec_seq (exec_region_o fun ds => ?_)
      gi_wp2
      refine eq_mk (Keep.refl _) ?_
      show Exec _ _ (Code.seq _ _) _ _ _
      refine exec_seq ((mo_x hf ha hm hT3 hpL (by simp [Slots, Fits])).mono ?_)
      clear x
      intro e t X4 hh2
      obtain ⟨rfl, cuL', L', hT4, hpL', hlen, hmono, hin, hSl⟩ := only_normal hh2
      clear hh2 hT3 hpL
      clear X3 cuL
      refine exec_seq ((mo_y hf ha hm hT4 hpN hSl).mono ?_)
      clear hSl
      clear t
      intro e t X5 hh2
      obtain ⟨rfl, cuN', N', d, hT5, hpN', hmn, hSl⟩ := only_normal hh2
      clear hh2 hT4 hpN
      clear X4 cuN
      refine exec_seq ((mo_z hf ha hm hT5 hSl).mono ?_)
      clear hSl
      clear t
      intro e t Z0 hh2
      obtain ⟨rfl, z, hT6, haz, hzf, hzs, hSl⟩ := only_normal hh2
      clear hh2 hT5
      clear X5
      have haZ := ha.below hT6.below
      have hBZ := hT6.below
      have hd1 : d ≤ 1 := by rcases hmn with h | ⟨r, _, _, _, h⟩ <;> omega
      have pa0 : PBx Z0 w.heap.size a := ⟨hT6.get 0 rfl, haZ⟩
      obtain ⟨hxf, hxm, px⟩ := mo_xx hf haZ hlen hmono hin (hT6.get 1 rfl) (hT6.get 4 rfl) hpL' d
      obtain ⟨hyf, hym, py⟩ := mo_yy hf haZ hmn (hT6.get 2 rfl) (hT6.get 5 rfl) hpN'
      have pz : PBx Z0 bz z := ⟨hT6.get 3 rfl, haz⟩
      have hzm := mo_zz hf hzf hzs d
      generalize ({ a with AL := some ⟨gL, 0, none⟩, cL := cL, L := L' } : XP) = x at *
      generalize ({ a with AN := some ⟨gN, 0, none⟩, cN := cN, N := N' } : XP) = y at *
      clear hT6 haZ haz hzs hmn hpN' hpL' hlen hmono hin ha
      obtain ⟨x', hx'⟩ := Slots.open_ hSl; simp only [fill, Nat.reduceAdd] at hx'; subst hx'; clear hSl
      have e1 : seatsA a = (((seatsV (toP a.s3) : Nat) : Int), 0) := by unfold seatsA; rw [if_pos hq]
      have e2 : countA a = (((countF a : Nat) : Int), 0) := by unfold countA; rw [if_pos hq]
      obtain ⟨w1, w2, e3⟩ : ∃ w1 w2, waiveA a = (w1, w2) := ⟨_, _, rfl⟩
      refine exec_seq (exec_region_o fun ds => ?_)
      have c0 := cells_get (cs := [_, _, _]) (k := 0) pa0.heap rfl
      have c1 := cells_get (cs := [_, _, _]) (k := 1) pa0.heap rfl
      have c2 := cells_get (cs := [_, _, _]) (k := 2) pa0.heap rfl
      have hcall := Seats_any a Z0 pa0.at_
      rw [e1] at hcall
      gi_wp2_with fail
      refine ⟨trivial, rfl, (callsIn_wide.2 hcall).mono ?_⟩
      rintro e Z1 ⟨rfl, hy⟩
      have pa1 := pa0.keep hy
      replace px := px.keep hy
      replace py := py.keep hy
      replace pz := pz.keep hy
      replace hBZ := hBZ.trans (hy.mono hBZ.size)
      have hK := Keep.of_below hy
      clear hy c0 c1 c2 hcall pa0
      gi_wp2
      refine eq_mk hK ?_
      show Exec _ _ (Code.seq _ _) _ _ _
      clear hK
      clear Z0
      refine exec_seq (exec_region_o fun ds => ?_)
      have c0 := cells_get (cs := [_, _, _]) (k := 0) pa1.heap rfl
      have c1 := cells_get (cs := [_, _, _]) (k := 1) pa1.heap rfl
      have c2 := cells_get (cs := [_, _, _]) (k := 2) pa1.heap rfl
      have hcall := Count_any a Z1 pa1.at_
      rw [e2] at hcall
      gi_wp2_with fail
      refine ⟨trivial, rfl, (callsIn_wide.2 hcall).mono ?_⟩
      rintro e Z2 ⟨rfl, hy⟩
      have pa2 := pa1.keep hy
      replace px := px.keep hy
      replace py := py.keep hy
      replace pz := pz.keep hy
      replace hBZ := hBZ.trans (hy.mono hBZ.size)
      have hK := Keep.of_below hy
      clear hy c0 c1 c2 hcall pa1
      gi_wp2
      refine eq_mk hK ?_
      show Exec _ _ (Code.seq _ _) _ _ _
      clear hK
      clear Z1
      refine exec_seq (exec_region_o fun ds => ?_)
      have c0 := cells_get (cs := [_, _, _]) (k := 0) pa2.heap rfl
      have c1 := cells_get (cs := [_, _, _]) (k := 1) pa2.heap rfl
      have c2 := cells_get (cs := [_, _, _]) (k := 2) pa2.heap rfl
      have hcall := Waive_any a Z2 pa2.at_
      rw [e3] at hcall
      gi_wp2_with fail
      refine ⟨trivial, rfl, (callsIn_wide.2 hcall).mono ?_⟩
      rintro e Z3 ⟨rfl, hy⟩
      have pa3 := pa2.keep hy
      replace px := px.keep hy
      replace py := py.keep hy
      replace pz := pz.keep hy
      replace hBZ := hBZ.trans (hy.mono hBZ.size)
      have hK := Keep.of_below hy
      clear hy c0 c1 c2 hcall pa2
      gi_wp2
      refine eq_mk hK ?_
      show Exec _ _ (Code.seq _ _) _ _ _
      clear hK
      clear Z2
      refine exec_seq ((mo_loop hf hd1 hxf hyf hzf hxm hym hzm e3 hBZ px py pz (by simp [Slots, Fits])).mono ?_)
      intro e t Z hh2
      obtain ⟨rfl, hBW, hSl⟩ := only_normal hh2
      clear hh2
      obtain ⟨x, hx⟩ := Slots.open_ hSl; simp only [fill, Nat.reduceAdd] at hx; subst hx; clear hSl
      refine exec_seq (exec_region_o fun ds => ?_)
      gi_wp2_with fail
      refine ⟨trivial, rfl, (callsIn_wide.2 (alive14 Z)).mono ?_⟩
      rintro e Y ⟨rfl, hy⟩
      have hBY := hBW.trans (hy.mono hBW.size)
      gi_wp2
      refine eq_mk (Keep.of_below hy) ?_
      show Exec _ _ _ _ _ _
      exact exec_ret ⟨.inr rfl, fun W' hG => ⟨.bool true, by simp [results, Try.f8, go_sem], rfl, hBY.trans (hG.below (Nat.le_refl _) hBY.size)⟩⟩
end Go.Proofs.Ytbdmmikflkpmpaa
end

section
namespace Go.Proofs.Ytbdmmikflkpmpaa
open Go.RowKit
theorem bounds_u8 {n : Int} (h : (Lit.int .u8 n).wf = true) : 0 ≤ n ∧ n < 256 := by
  have h2 : IntKind.u8.min ≤ n ∧ n ≤ IntKind.u8.max := by simpa [Lit.wf] using h
  have h3 : IntKind.u8.min = 0 := rfl
  have h4 : IntKind.u8.max + 1 = 256 := rfl
  omega
theorem more_row (a : XP) (n : Int) (w : World) (h : a.Row w) (hn : (Lit.int .u8 n).wf = true) : Calls Try.prog 8 #[a.val, .int .u8 n] w fun e w' => e = .returned (.bool true) ∧ Below w.heap.size w w' := by
  have hb := bounds_u8 hn
  obtain ⟨m, rfl⟩ : ∃ m : Nat, n = m := ⟨n.toNat, by omega⟩
  exact more_law a m w h (by omega)
end Go.Proofs.Ytbdmmikflkpmpaa
namespace Go.Proofs.Ytbdmmikflkpmpaa.panelMore
open Go.ChangeShapes Go.WideShapes Go.ChangeAt Go.RowKit
open Go.ChangeMaps (open_string shut_string)
set_option linter.unusedVariables false
theorem own : ownKnob Try.prog.godebug = none := by kernel_rfl
theorem laidOut : laidOutB Try.prog = true := by kernel_rfl
set_option maxRecDepth 100000 in
theorem lifted (os : Os) (started : os.Started) (H : Type) (enc : TypeId × Value → H) :
    ReturnsInHanded {} Try.checked os 8 .any (Rows.panelMoreSpec.pre6 enc Try.prog Try.f8 Rows.panelMoreRow.domain false) (Rows.panelMoreSpec.post enc Try.prog Try.f8 false true false false) := by
  refine returnsInHanded_of_change_sized (C := Try.checked) own started (by kernel_rfl) Try.func8
    (ChangeSpec.witness6 (enc := enc) (C := Try.checked) false ⟨#[], #[.agg #[.slice none 0 0, .slice none 0 0, .slice none 0 0], .int .u8 0], []⟩ 8 (by kernel_rfl) (by kernel_rfl) (by kernel_rfl) (by kernel_rfl)) ?_
  intro W base args ds gs before hval0 hW hcnd hsz0 _
  have hsz : (DataW.weightsEach Try.prog (Try.f8.params.toList ++ Rows.panelMoreSpec.plain.varTypes Try.prog) (ds ++ gs)).all (· ≤ reachBytes) = true := hsz0
  have hval : ∀ (j : Nat) t v, Try.f8.params[j]? = some t → args[j]? = some v → Value.okWide Try.prog W .any base t v := hval0
  have hW' := hW
  obtain ⟨p, q, hA0, hV, rfl, hfz, hnd⟩ := hW
  have hA : DataW.TrodAll enc Try.prog W 0 (fun _ => true) true Try.f8.params.toList args.toList ds p := hA0
  rw [Try.params8] at hA hval hsz
  obtain ⟨v0, vs0, d0, ds0, p0, q0, hargs, rfl, rfl, h0, r0⟩ := trodAll_cons hA
  obtain ⟨v1, vs1, d1, ds1, p1, q1, rfl, rfl, rfl, h1, r1⟩ := trodAll_cons r0
  obtain ⟨rfl, rfl, rfl⟩ := trodAll_nil r1
  obtain rfl : args = #[v0, v1] := by cases args; simp_all
  obtain ⟨rfl, rfl⟩ := trodVars_none hV
  have k0 := h0
  have lt0 : ∀ x ∈ p0, x.block < W.heap.size := by obtain ⟨m, hm⟩ := k0; exact DataW.trod_lt m _ _ _ hm
  obtain ⟨F0, rfl, hF0⟩ := xp_open (hval 0 25 v0 rfl rfl) h0
  obtain ⟨a1, rfl, rfl, rfl, w1⟩ := open_int Try.underlying5 (hval 1 5 v1 rfl rfl) h1
  clear hA0 hval0 hsz0 hsz
  refine (more_row F0 a1 W hF0 w1).mono fun e W' ⟨he, bel⟩ => ?_
  subst he
  exact ⟨_, rfl, _, _, _, [], _, [], hW', trodAll_mk1 (shut_bool Try.underlying4 _), (trodAll_cons_mk (Below.trod laidOut (by kernel_rfl) (of_decide_eq_true (by kernel_rfl)) k0 bel lt0) (trodAll_cons_mk (shut_int Try.underlying5 w1) trodAll_mk0)), rfl, bel.frame _, fun h => by cases h⟩
theorem over : Rows.panelMoreRow.holds Try.pinned (OpenSpec.ofChange Rows.panelMoreSpec) :=
  OpenClaim.holds_of_wide 8 Try.f8 rfl rfl rfl rfl rfl rfl rfl ⟨rfl, rfl, rfl, rfl, rfl⟩ rfl rfl rfl rfl rfl (by kernel_rfl) Try.func8 (by kernel_rfl)
    (of_decide_eq_true (by kernel_rfl)) (by unfold Func.isWrapper; first | (rw [if_pos (by decide +kernel)]; kernel_rfl) | (rw [if_neg (by decide +kernel)]; exact ⟨rfl, rfl⟩))
    (fun os started H enc _ => lifted os started H enc)
theorem proved : Rows.PanelMoreSaid := over
#print axioms proved
end Go.Proofs.Ytbdmmikflkpmpaa.panelMore
namespace Go.Proofs.Ytbdmmikflkpmpaa
/-- The row, under a short name, for the claim. -/
theorem panelMore_holds : Rows.PanelMoreSaid := panelMore.proved
end Go.Proofs.Ytbdmmikflkpmpaa
end
