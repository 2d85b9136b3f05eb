/- Parts of the proof: Panels: the document: lists of sets in memory. Panels: the document: all seatings: a round. Panels: the document: all seatings. Panels: the document: the need of one plot is changed. Panels: the document: seats: whether a set can sit, and how many sit then. Panels: the document: all seatings, whether there is one. Panels: the document: a sitting, and how many there are. Panels: the document: seats. Panels: the document: panels with pairs waived. Panels: with other loads, by the law. Panels: the document: panels with smaller loads. Panels: who can be spared, in plain words. Panels: the document: the fewest panels for the busiest. Panels: the document: panels of some plots alone. Panels: the document: the plots that fall short, plain law. -/
import Derived.Test.YtbdmmikflkpmpaaProg
import Derived.Test.YtbdmmikflkpmpaaFI1
import Derived.Test.YtbdmmikflkpmpaaFI4
import Derived.Maps.AppendAt
import Derived.Test.YtbdmmikflkpmpaaFI2
import Derived.WalkKit
import Derived.WalkSpells
import Derived.WalkLawsBesides
import Derived.Outline
import Derived.OwnWalkIn
import Derived.TacticsInMore
import Derived.LoopNIn
import Derived.LoopIn
import Derived.Shelf.RegionOpen
import Derived.Deep.QuietTactic
import Derived.BigQuiet
import Derived.Lib.Hide
import Derived.Test.YtbdmmikflkpmpaaFI3
set_option linter.unusedVariables false
set_option linter.unusedSimpArgs false
section
namespace Go.Proofs.Ytbdmmikflkpmpaa
open Go.RowKit Go.TL Go.Shelf Go.Pn
theorem info22q : ∃ i0, Try.prog.info? 22 = some i0 ∧ i0.zero = some (.slice none 0 0) ∧ i0.size = 1 ∧ i0.bytes = 24 := by
  have h : (Try.prog.info? 22).map (fun i => (i.zero, i.size, i.bytes)) = some (some (.slice none 0 0), 1, 24) := by kernel_rfl
  cases e : Try.prog.info? 22 with
  | none => rw [e] at h; cases h
  | some i0 =>
    rw [e] at h
    have := Option.some.inj h
    simp only [Prod.mk.injEq] at this
    exact ⟨i0, rfl, this.1, this.2.1, this.2.2⟩
def LL (W : World) (base : Nat) (v : Value) (ls : List (List Nat)) : Prop :=
  ∃ vals : List Value, W.ownsRow base 22 1 v ls.length vals ∧ ∀ (i : Nat) (l : List Nat), ls[i]? = some l → ∃ A c, vals[i]? = some (.slice A l.length c) ∧ RowV W A (l.map iv) ∧ ∀ ad, A = some ad → l ≠ [] → v.ownBlock ≠ some ad.block
theorem LL.grow {W W' : World} {n base : Nat} {v : Value} {ls : List (List Nat)} (h : LL W base v ls) (hG : Grow n W W') : LL W' base v ls := by
  obtain ⟨vals, h1, h2⟩ := h
  exact ⟨vals, own_grow h1 hG, fun i l hl => by
    obtain ⟨A, c, e1, e2, e3⟩ := h2 i l hl
    exact ⟨A, c, e1, e2.grow hG, e3⟩⟩
theorem LL.below {W W' : World} {base : Nat} {v : Value} {ls : List (List Nat)} (h : LL W base v ls) (hb : Below W.heap.size W W') : LL W' base v ls := h.grow (Grow.of_below (B := 0) hb)
theorem LL.nil (W : World) (base : Nat) : LL W base (.slice none 0 0) [] := ⟨[], World.ownsRow_nil _ _ _ _, fun i l h => by simp at h⟩
theorem row_far {W W' : World} {A : Option Addr} {vs : List Value} {row : Option Nat} (h : RowV W A vs) (hg : W.grownBy W' row) (hne : ∀ ad, A = some ad → vs ≠ [] → row ≠ some ad.block) : RowV W' A vs := fun i v hv => by
  obtain ⟨ad, e, hc⟩ := h i v hv
  refine ⟨ad, e, hg.cell hc fun c => hne ad e (fun e2 => by rw [e2] at hv; simp at hv) ?_⟩
  rw [← c]
  congr 1
  unfold Addr.add
  split <;> rfl
theorem row_lt {W : World} {A : Option Addr} {vs : List Value} (h : RowV W A vs) (hne : vs ≠ []) {ad : Addr} (e : A = some ad) : ad.block < W.heap.size := by
  cases vs with
  | nil => exact absurd rfl hne
  | cons v vs =>
    obtain ⟨ad', e', hc⟩ := h 0 v rfl
    rw [e] at e'
    cases e'
    have h0 : ad.add 0 = ad := by simp [Addr.add]
    rw [h0] at hc
    unfold World.cell? at hc
    cases ho : W.heap[ad.block]? with
    | none => simp [ho] at hc
    | some o => exact heap_lt ho
theorem gb_below {W W' : World} (row : Option Nat) (h : Below W.heap.size W W') : W.grownBy W' row := ⟨h.os, h.tape, h.output, h.size, fun j hj _ => h.block j hj⟩
theorem gb_trans {w W X : World} {f : Option Nat} (h : w.grownBy W f) (k : W.grownBy X f) : w.grownBy X f :=
  ⟨k.os.trans h.os, k.tape.trans h.tape, k.output.trans h.output, Nat.le_trans h.size k.size, fun j hj hne => (k.block j (Nat.lt_of_lt_of_le hj h.size) hne).trans (h.block j hj hne)⟩
theorem gb_grow {w W W' : World} {row : Option Nat} (h : w.grownBy W row) (hG : Grow w.heap.size W W') : w.grownBy W' row :=
  ⟨hG.os.trans h.os, hG.tape.trans h.tape, hG.output.trans h.output, Nat.le_trans h.size hG.size, fun k hk hne => by
    have h1 := h.block k hk hne
    rw [Array.getElem?_eq_getElem hk] at h1 ⊢
    exact hG.same k _ h1 (.inl hk)⟩
theorem LL.push {W : World} {base : Nat} {v : Value} {ls : List (List Nat)} (h : LL W base v ls) {A : Option Addr} {b : List Nat} {cb : Nat} (hr : RowV W A (b.map iv)) (hne : ∀ ad, A = some ad → b ≠ [] → v.ownBlock ≠ some ad.block) (hl : ls.length ≤ 2 ^ 41) (hb : base ≤ W.heap.size) :
    ∃ v' W', (Builtin.append_ #[85, 85] 85 #[v, .slice (some ⟨W.heap.size, 0, none⟩) 1 1]).run Try.prog (W.alloc (.cells #[.slice A b.length cb] 22)) = .ok v' W' ∧ LL W' base v' (ls ++ [b]) ∧ W.grownBy W' v.ownBlock ∧ (v'.ownBlock = v.ownBlock ∨ ∃ q, v'.ownBlock = some q ∧ W.heap.size ≤ q) ∧ Keep W W' := by
  obtain ⟨i0, hi0, hz0, hz1, hz2⟩ := info22q
  obtain ⟨vals, ho, hrows⟩ := h
  have ha := (Below.refl W.heap.size W).alloc (Nat.le_refl _) (.cells #[.slice A b.length cb] 22)
  obtain ⟨v', W', hrun, hown, hg, _, hat⟩ := run_append_own_at (P := Try.prog) (w := W.alloc (.cells #[.slice A b.length cb] 22)) base 85 85 22 i0 (.slice none 0 0) 1 24 Try.underlying85 hi0 hz0 hz1 hz2 rfl (by decide) v ls.length vals (ho.alloc _) ⟨W.heap.size, 0, none⟩ 1 1 [.slice A b.length cb] rfl (by
    intro j y hj
    match j, hj with
    | 0, hj =>
      cases hj
      exact cells_get (cs := [.slice A b.length cb]) (k := 0) (World.alloc_heap_new _ _) rfl) (by
    intro y hy
    simp at hy
    subst hy
    rfl) (by unfold maxLen; omega) (by omega) (by rw [World.size_alloc]; omega)
  have hvl := ho.1
  rw [Nat.mul_one] at hvl
  have hgW : W.grownBy W' v.ownBlock := gb_trans (gb_below _ ha) hg
  have hvq : v'.ownBlock = v.ownBlock ∨ ∃ q, v'.ownBlock = some q ∧ W.heap.size ≤ q := by
    rcases hat with h | h
    · exact .inl h
    · exact .inr ⟨_, h, ha.size⟩
  refine ⟨v', W', hrun, ⟨vals ++ [.slice A b.length cb], by rw [List.length_append]; exact hown, fun i l hil => ?_⟩, hgW, hvq, ?_⟩
  · rw [List.getElem?_append] at hil
    split at hil
    · rename_i hlt
      obtain ⟨A1, c1, e1, e2, e3⟩ := hrows i l hil
      refine ⟨A1, c1, by rw [List.getElem?_append_left (by omega)]; exact e1, row_far e2 hgW (fun ad e hn => e3 ad e (fun c => hn (by rw [c]; rfl))), fun ad e hn => ?_⟩
      rcases hvq with h | ⟨q, h, hq⟩
      · rw [h]; exact e3 ad e hn
      · rw [h]
        intro c
        have := row_lt e2 (by simpa using hn) e
        have := Option.some.inj c
        omega
    · rename_i hlt
      have hi0 : i = ls.length := by
        have := (List.getElem?_eq_some_iff.1 hil).1
        simp only [List.length_cons, List.length_nil] at this
        omega
      subst hi0
      simp only [Nat.sub_self, List.getElem?_cons_zero, Option.some.injEq] at hil
      subst hil
      refine ⟨A, cb, by rw [List.getElem?_append_right (by omega), hvl, Nat.sub_self]; rfl, row_far hr hgW (fun ad e hn => hne ad e (fun c => hn (by rw [c]; rfl))), fun ad e hn => ?_⟩
      rcases hvq with h | ⟨q, h, hq⟩
      · rw [h]; exact hne ad e hn
      · rw [h]
        intro c
        have := row_lt hr (by simpa using hn) e
        have := Option.some.inj c
        omega
  · refine ((Keep.refl W).alloc _).grown hg fun j o hj ho' => ?_
    rcases ho.2 with ⟨rfl, _⟩ | ⟨g, cap, cur, rfl, _, hg', _⟩
    · simp [Value.ownBlock] at hj
    · simp only [Value.ownBlock, Option.some.injEq] at hj
      subst hj
      rw [(ha.block _ (heap_lt hg')).trans hg'] at ho'
      cases ho'
      rfl
theorem Tr.app_nat {W V X : World} {l : List (Nat × Obj)} (h : Tr W V X l) (i : Nat) {z : Nat} (hi : l[i]? = some (z, .cells #[] 3 (0, 0))) {A : Option Addr} {L : List Nat} {n c : Nat} (hr : RowV X A (L.map iv)) (hl : L.length ≤ 1000) (hn : n = L.length) (ty : TypeId) :
    ∃ (g c' : Nat) (cur : List Value) (Y : World), (Builtin.append_ #[22, 22] ty #[.slice (some ⟨z, 0, none⟩) 0 0, .slice A n c]).run Try.prog X = .ok (.slice (some ⟨g, 0, none⟩) n c') Y ∧ Tr W V Y (l.set i (g, .cells cur.toArray 3 (0, 0))) ∧ Y.ownsRow W.heap.size 3 1 (.slice (some ⟨g, 0, none⟩) n c') n (L.map iv) ∧ Below X.heap.size X Y := by
  subst hn
  obtain ⟨i0, hi0, hz0, hz1, hz2⟩ := info3q
  have hzz := h.get i hi
  have hge := h.ge _ (List.mem_of_getElem? hi)
  cases L with
  | nil =>
    refine ⟨z, 0, [], X, ?_, ?_, ⟨rfl, .inr ⟨z, 0, #[], rfl, hge, hzz, Nat.le_refl _, by unfold maxLen; omega, rfl, rfl⟩⟩, Below.refl _ _⟩
    · have hs : Src Try.prog i0.size 22 (.slice A 0 c) 0 [] X := by
        cases A with
        | none => exact Src.ofNil X Try.underlying22 c
        | some a => exact Src.ofSlice X Try.underlying22 a 0 c [] (by simp) (fun j u hu => by simp at hu) (fun u hu => by cases hu)
      exact run_append_nothing X 22 22 ty 3 i0 Try.underlying22 hi0 (some ⟨z, 0, none⟩) 0 0 (Nat.le_refl _) _ hs
    · have : l.set i (z, .cells [].toArray 3 (0, 0)) = l := by
        refine List.ext_getElem? fun j => ?_
        rw [List.getElem?_set]
        split
        · rename_i e
          subst e
          rw [if_pos (List.getElem?_eq_some_iff.1 hi).1, hi]
        · rfl
      rw [this]
      exact h
  | cons y L =>
    obtain ⟨a, rfl, _⟩ := hr 0 _ rfl
    obtain ⟨v', Y, hrun, hown, hgr⟩ := run_append_arg_grows (P := Try.prog) X 22 ty 3 i0 (.int .i64 0) 1 8 Try.underlying22 hi0 hz0 hz1 hz2 rfl (by decide) ⟨z, 0, none⟩ 0 0 [] rfl (fun j u h => by simp at h) a (y :: L).length c ((y :: L).map iv) (by simp) (fun j u hj => by obtain ⟨_, e, hc⟩ := hr j u hj; cases e; exact hc) (by simp) (by unfold maxLen; omega) (by omega)
    rw [Nat.zero_add, List.nil_append] at hown
    have hown' := hown.mono h.below.size
    rcases hown.2 with ⟨_, h0⟩ | ⟨g, cap, cur, rfl, hge2, hg, hnc, _, hsz, htk⟩
    · simp at h0
    · have hB : Below X.heap.size X Y := (Below.refl _ X).grown hgr (Nat.le_refl _) (fun q e => by cases e)
      have hT := h.step hB
      have hne : ∀ p ∈ l, p.1 ≠ g := fun p hp => by have := h.lt p hp; omega
      exact ⟨g, cap, cur.toList, Y, hrun, hT.put hT.below hT.keep hi (Nat.le_trans h.below.size hge2) (.inr hne) (fun p hp _ => hT.at_ p hp) (by simpa using hg), hown', hB⟩
theorem Tr.app_one {W V X : World} {l : List (Nat × Obj)} {g k1 : Nat} (h : Tr W V X ((g, .cells #[iv k1] 3 (0, 0)) :: l)) {n : Nat} {v : Value} {K : List Nat} (hn : n = K.length) (ho : X.ownsRow W.heap.size 3 1 v n (K.map iv)) (hne : ∀ p ∈ l, v.ownBlock ≠ some p.1) (h1000 : n ≤ 1000) :
    ∃ g2 c2 Y, (Builtin.append_ #[22, 22] 22 #[v, .slice (some ⟨g, 0, none⟩) 1 1]).run Try.prog X = .ok (.slice (some ⟨g2, 0, none⟩) (n + 1) c2) Y ∧ Tr W V Y l ∧ Y.ownsRow W.heap.size 3 1 (.slice (some ⟨g2, 0, none⟩) (n + 1) c2) (n + 1) ((K ++ [k1]).map iv) := by
  subst hn
  obtain ⟨i0, hi0, hz0, hz1, hz2⟩ := info3q
  have hcg := h.get 0 rfl
  obtain ⟨v', Y, hrun, hown, hgr, _, hat⟩ := run_append_own_at (P := Try.prog) (w := X) W.heap.size 22 22 3 i0 (.int .i64 0) 1 8 Try.underlying22 hi0 hz0 hz1 hz2 rfl (by decide) v K.length (K.map iv) ho ⟨g, 0, none⟩ 1 1 [iv k1] rfl (by
    intro j y hj
    match j, hj with
    | 0, hj =>
      cases hj
      exact cells_get (cs := [iv k1]) (k := 0) hcg rfl) (by
    intro y hy
    simp at hy
    subst hy
    rfl) (by unfold maxLen; omega) (by omega) h.below.size
  have hbq : ∀ q, v.ownBlock = some q → W.heap.size ≤ q := fun q e => (ho.lt q e).1
  obtain ⟨g2, c2, rfl⟩ : ∃ g2 c2, v' = .slice (some ⟨g2, 0, none⟩) (K.length + 1) c2 := by
    rcases hown.2 with ⟨_, h0⟩ | ⟨g2, c2, _, e, _⟩
    · omega
    · exact ⟨g2, c2, e⟩
  refine ⟨g2, c2, Y, hrun, ⟨h.below.grown hgr h.below.size fun q e => hbq q e, h.keep.grown hgr fun j o hj ho' => ?_, fun p hp => h.ge p (List.mem_cons_of_mem _ hp), fun p hp => ?_, (List.nodup_cons.1 h.nd).2⟩, ?_⟩
  · rcases ho.2 with ⟨rfl, _⟩ | ⟨g, cap, cur, rfl, _, hg', _⟩
    · simp [Value.ownBlock] at hj
    · simp only [Value.ownBlock, Option.some.injEq] at hj
      subst hj
      rw [hg'] at ho'
      cases ho'
      rfl
  · exact (hgr.block _ (h.lt p (List.mem_cons_of_mem _ hp)) (Ne.symm (hne p hp))).trans (h.at_ p (List.mem_cons_of_mem _ hp))
  · rw [List.map_append]
    exact hown
theorem seatF_len (a : XP) (most r : Nat) (b : List Nat) (out : List (List Nat)) : (seatF a most r b out).length ≤ max most out.length := by
  rw [seatF_eq]
  split
  · exact Nat.le_max_right _ _
  · rw [List.length_take]
    omega
end Go.Proofs.Ytbdmmikflkpmpaa
end

section
namespace Go.Proofs.Ytbdmmikflkpmpaa
open Go.RowKit Go.TL Go.Shelf Go.Pn
def s62_0t : It := ⟨(Op.load 25 (Operand.tmp 4)), some 40, 25, true, none⟩
def s62_2t : It := ⟨(Op.move (Operand.tmp 1)), some 42, 22, true, none⟩
def s62_4t : It := ⟨(Op.move (Operand.tmp 10)), some 44, 3, true, none⟩
def s62_7t : It := ⟨(Op.move (Operand.tmp 2)), some 47, 3, true, none⟩
def s62_8t : It := ⟨(Op.move (Operand.tmp 3)), some 48, 85, true, none⟩
def s62_1 : It := ⟨(Op.buildSlice 22 0 #[]), some 41, 22, false, none⟩
def s62_3 : It := ⟨(Op.call { callee := (Callee.builtin Builtin.append), args := #[(Operand.tmp 41), (Operand.tmp 42)], argTypes := #[22, 22] }), some 43, 22, false, none⟩
def s62_5 : It := ⟨(Op.buildSlice 22 1 #[(0, (Operand.tmp 44))]), some 45, 22, false, none⟩
def s62_6 : It := ⟨(Op.call { callee := (Callee.builtin Builtin.append), args := #[(Operand.tmp 43), (Operand.tmp 45)], argTypes := #[22, 22] }), some 46, 22, false, none⟩
def s62_9 : It := ⟨(Op.call { callee := (Callee.value (Operand.func 62)), args := #[(Operand.tmp 40), (Operand.tmp 46), (Operand.tmp 47), (Operand.tmp 48)], argTypes := #[25, 22, 3, 85] }), some 49, 85, false, none⟩
def s62_10 : It := ⟨(Op.assign (Operand.tmp 49)), some 3, 85, false, none⟩
set_option maxRecDepth 100000 in
set_option maxHeartbeats 4000000 in
theorem seat_r10 {W : World} {a : XP} {A : Option Addr} {l : List Nat} {cb most p s : Nat} {v : Value} {R : Value → World → World → Prop} (hl : l.length ≤ 1000) (hr : RowV W A (l.map iv)) (hc0 : W.cell? ⟨p, 0, none⟩ = some a.sL) (hc1 : W.cell? ⟨p, 1, none⟩ = some a.sN) (hc2 : W.cell? ⟨p, 2, none⟩ = some a.sK)
    (hrec : ∀ (X : World) (g c : Nat), Below W.heap.size W X → W.heap.size ≤ g → RowV X (some ⟨g, 0, none⟩) ((l ++ [s]).map iv) → Calls Try.prog 62 #[.agg #[a.sL, a.sN, a.sK], .slice (some ⟨g, 0, none⟩) (l.length + 1) c, iv most, v] X fun e Z => ∃ v', e = .returned v' ∧ R v' X Z ∧ Keep X Z)
    {t : Array Value} (hSl : Slots (none :: some (.slice A l.length cb) :: some (iv most) :: some (v) :: some (.pointer (some ⟨p, 0, none⟩)) :: o4 (some (iv l.length) :: some (iv s) :: o4 (o4 (o16 (o16 []))))) t) :
    Exec Try.prog none (sub (Try.f62.body.getD .skip) [1, 1, 1, 1, 0, 1, 0, 0, 1, 0, 0, 1, 0]) t W (andThen (fun t' W' => ∃ v2 X, Below W.heap.size W X ∧ R v2 X W' ∧ Slots (none :: some (.slice A l.length cb) :: some (iv most) :: some (v2) :: some (.pointer (some ⟨p, 0, none⟩)) :: o4 (some (iv l.length) :: some (iv s) :: o4 (o4 (o16 (o16 []))))) t') fun _ _ _ => False) := by
  have hu25 := Try.underlying25
  have hu22 := Try.underlying22
  have hT0 : Tr W W W.drew [] := (Tr.start (Below.refl _ _)).drew
  refine region_tree2 (c := (sub (Try.f62.body.getD .skip) [1, 1, 1, 1, 0, 1, 0, 0, 1, 0, 0, 1, 0])) (id := 10) 9 2 (.one 0 true (.one 2 true (.one 4 true (.one 7 true (.one 8 true (.two 1 5 (.two 3 5 (.one 5 false (.one 6 false (.nil))) (.one 3 false (.one 6 false (.nil)))) (.one 1 false (.one 3 false (.one 6 false (.nil)))))))))) (.one 9 false (.one 10 false (.nil))) (Opq ((regOps (sub (Try.f62.body.getD .skip) [1, 1, 1, 1, 0, 1, 0, 0, 1, 0, 0, 1, 0])).toList.take 9).toArray) (Opq (regOps (sub (Try.f62.body.getD .skip) [1, 1, 1, 1, 0, 1, 0, 0, 1, 0, 0, 1, 0]))) rfl rfl rfl (by kernel_rfl) (by kernel_rfl) (by kernel_rfl) (by kernel_rfl) (by kernel_rfl) (by kernel_rfl) (by kernel_rfl) (by kernel_rfl) (by kernel_rfl) (by kernel_rfl) (by kernel_rfl) [0, 0, 0, 6, 0, 16, 40, 0, 0] [0, 0, 0, 6, 0, 16, 40, 0, 0, 449, 1023] (by kernel_rfl) (by kernel_rfl) (by kernel_rfl) (by kernel_rfl) (fun W' => W'.cell? ⟨p, 0, none⟩ = some a.sL ∧ W'.cell? ⟨p, 1, none⟩ = some a.sN ∧ W'.cell? ⟨p, 2, none⟩ = some a.sK) fun ds Q' Qh hQn hQT => ?_
  have F0 : Fr (none :: some (.slice A l.length cb) :: some (iv most) :: some (v) :: some (.pointer (some ⟨p, 0, none⟩)) :: o4 (some (iv l.length) :: some (iv s) :: o4 (o4 (o16 (o16 []))))) ds { tmps := t, defers := ds } := Fr.start hSl
  clear hSl
  generalize ({ tmps := t, defers := ds } : Act) = a0 at *
  generalize W.drew = X0 at *
  refine tr_take s62_0t (.agg #[a.sL, a.sN, a.sK]) (by kernel_rfl) rfl rfl (fun wq hq => ?_) ⟨(Grow.of_below (B := 0) hT0.below).cell hc0, (Grow.of_below (B := 0) hT0.below).cell hc1, (Grow.of_below (B := 0) hT0.below).cell hc2⟩ ?_; (focus (have e4 : a0.eval (.tmp 4) = (.pointer (some ⟨p, 0, none⟩)) := F0.ev 4 (by kernel_rfl); generalize a0.eval = ev at e4 ⊢; simp [go_sem, mkO, s62_0t, e4, hu25, hq.1, hq.2.1, hq.2.2]; done))
  refine F0.next 40 (.agg #[a.sL, a.sN, a.sK]) fun a1 F1 => ?_
  clear F0
  refine tr_take s62_2t (.slice A l.length cb) (by kernel_rfl) rfl rfl (fun wq hq => ?_) ⟨(Grow.of_below (B := 0) hT0.below).cell hc0, (Grow.of_below (B := 0) hT0.below).cell hc1, (Grow.of_below (B := 0) hT0.below).cell hc2⟩ ?_; (focus (have e1 : a1.eval (.tmp 1) = (.slice A l.length cb) := F1.ev 1 (by kernel_rfl); generalize a1.eval = ev at e1 ⊢; simp [go_sem, mkO, s62_2t, e1]; done))
  refine F1.next 42 (.slice A l.length cb) fun a2 F2 => ?_
  clear F1 a1
  refine tr_take s62_4t (iv s) (by kernel_rfl) rfl rfl (fun wq hq => ?_) ⟨(Grow.of_below (B := 0) hT0.below).cell hc0, (Grow.of_below (B := 0) hT0.below).cell hc1, (Grow.of_below (B := 0) hT0.below).cell hc2⟩ ?_; (focus (have e10 : a2.eval (.tmp 10) = (iv s) := F2.ev 10 (by kernel_rfl); generalize a2.eval = ev at e10 ⊢; simp [go_sem, mkO, s62_4t, e10]; done))
  refine F2.next 44 (iv s) fun a3 F3 => ?_
  clear F2 a2
  refine tr_take s62_7t (iv most) (by kernel_rfl) rfl rfl (fun wq hq => ?_) ⟨(Grow.of_below (B := 0) hT0.below).cell hc0, (Grow.of_below (B := 0) hT0.below).cell hc1, (Grow.of_below (B := 0) hT0.below).cell hc2⟩ ?_; (focus (have e2 : a3.eval (.tmp 2) = (iv most) := F3.ev 2 (by kernel_rfl); generalize a3.eval = ev at e2 ⊢; simp [go_sem, mkO, s62_7t, e2]; done))
  refine F3.next 47 (iv most) fun a4 F4 => ?_
  clear F3 a3
  refine tr_take s62_8t (v) (by kernel_rfl) rfl rfl (fun wq hq => ?_) ⟨(Grow.of_below (B := 0) hT0.below).cell hc0, (Grow.of_below (B := 0) hT0.below).cell hc1, (Grow.of_below (B := 0) hT0.below).cell hc2⟩ ?_; (focus (have e3 : a4.eval (.tmp 3) = (v) := F4.ev 3 (by kernel_rfl); generalize a4.eval = ev at e3 ⊢; simp [go_sem, mkO, s62_8t, e3]; done))
  refine F4.next 48 (v) fun a5 F5 => ?_
  clear F4 a4
  refine ⟨?_, ?_⟩
  · have hT1 : Tr W W (X0.alloc (.cells #[] 3)) [(X0.heap.size, .cells #[] 3 (0, 0))] := hT0.alloc (.cells #[] 3)
    refine tr_make s62_1 (.slice (some ⟨X0.heap.size, 0, none⟩) 0 0) (X0.alloc (.cells #[] 3)) (by kernel_rfl) rfl rfl ?_ ⟨(Grow.of_below (B := 0) hT1.below).cell hc0, (Grow.of_below (B := 0) hT1.below).cell hc1, (Grow.of_below (B := 0) hT1.below).cell hc2⟩ ?_; (focus (simp [go_sem, mkO, s62_1, hu22]; done))
    obtain ⟨zC, hgzC⟩ : ∃ b, X0.heap.size = b := ⟨_, rfl⟩
    simp only [hgzC] at hT1 ⊢
    generalize X0.alloc (.cells #[] 3) = X1 at *
    clear hgzC hT0
    clear X0
    refine F5.next 41 (.slice (some ⟨zC, 0, none⟩) 0 0) fun a6 F6 => ?_
    clear F5 a5
    refine ⟨?_, ?_⟩
    · obtain ⟨gC, cC, cuC, X2, hrun, hTa, hoC, hba⟩ := hT1.app_nat 0 rfl (A := A) (L := l) (n := l.length) (c := cb) (hr.below hT1.below) hl rfl 22
      have hT2 : Tr W W X2 [(gC, .cells (cuC).toArray 3 (0, 0))] := hTa
      clear hTa
      refine tr_make s62_3 (.slice (some ⟨gC, 0, none⟩) l.length cC) X2 (by kernel_rfl) rfl rfl (exec_append _ _ 22 rfl (F6.ev 41 (by kernel_rfl)) (F6.ev 42 (by kernel_rfl)) hrun) ⟨(Grow.of_below (B := 0) hT2.below).cell hc0, (Grow.of_below (B := 0) hT2.below).cell hc1, (Grow.of_below (B := 0) hT2.below).cell hc2⟩ ?_
      clear hrun hba hT1
      clear X1
      refine F6.next 43 (.slice (some ⟨gC, 0, none⟩) l.length cC) fun a7 F7 => ?_
      clear F6 a6
      have hT3 : Tr W W (X2.alloc (.cells #[iv s] 3)) [(X2.heap.size, .cells #[iv s] 3 (0, 0)), (gC, .cells (cuC).toArray 3 (0, 0))] := hT2.alloc (.cells #[iv s] 3)
      refine tr_make s62_5 (.slice (some ⟨X2.heap.size, 0, none⟩) 1 1) (X2.alloc (.cells #[iv s] 3)) (by kernel_rfl) rfl rfl ?_ ⟨(Grow.of_below (B := 0) hT3.below).cell hc0, (Grow.of_below (B := 0) hT3.below).cell hc1, (Grow.of_below (B := 0) hT3.below).cell hc2⟩ ?_; (focus (have e44 : a7.eval (.tmp 44) = (iv s) := F7.ev 44 (by kernel_rfl); generalize a7.eval = ev at e44 ⊢; simp [go_sem, mkO, s62_5, e44, hu22]; done))
      replace hoC := World.ownsRow.alloc hoC (.cells #[iv s] 3)
      obtain ⟨gs, hggs⟩ : ∃ b, X2.heap.size = b := ⟨_, rfl⟩
      simp only [hggs] at hT3 ⊢
      generalize X2.alloc (.cells #[iv s] 3) = X3 at *
      clear hggs hT2
      clear X2
      refine F7.next 45 (.slice (some ⟨gs, 0, none⟩) 1 1) fun a8 F8 => ?_
      clear F7 a7
      obtain ⟨gD, cD, X4, hrun, hTa, hoD⟩ := (hT3.drop (m := [(gs, .cells #[iv s] 3 (0, 0))]) (List.Sublist.cons_cons _ (List.nil_sublist _))).app_one rfl hoC (fun p hp => by cases hp) hl
      have hT4 : Tr W W X4 [] := hTa
      have hgD := (hoD.lt gD rfl).1
      obtain ⟨_, _, e, hrD⟩ := row_of_own hoD
      cases e
      clear hTa hoC hoD
      refine tr_make s62_6 (.slice (some ⟨gD, 0, none⟩) (l.length + 1) cD) X4 (by kernel_rfl) rfl rfl (exec_append _ _ 22 rfl (F8.ev 43 (by kernel_rfl)) (F8.ev 45 (by kernel_rfl)) hrun) ⟨(Grow.of_below (B := 0) hT4.below).cell hc0, (Grow.of_below (B := 0) hT4.below).cell hc1, (Grow.of_below (B := 0) hT4.below).cell hc2⟩ ?_
      clear hrun hT3
      clear X3
      refine F8.next 46 (.slice (some ⟨gD, 0, none⟩) (l.length + 1) cD) fun a9 F9 => ?_
      clear F8 a8
      refine hQT _ _ ?_
      refine tr_call s62_9 (f := 62) (args := #[.agg #[a.sL, a.sN, a.sK], .slice (some ⟨gD, 0, none⟩) (l.length + 1) cD, iv most, v]) (by kernel_rfl) rfl rfl ?_ ?_
      · (have e40 : a9.eval (.tmp 40) = (.agg #[a.sL, a.sN, a.sK]) := F9.ev 40 (by kernel_rfl); have e46 : a9.eval (.tmp 46) = (.slice (some ⟨gD, 0, none⟩) (l.length + 1) cD) := F9.ev 46 (by kernel_rfl); have e47 : a9.eval (.tmp 47) = (iv most) := F9.ev 47 (by kernel_rfl); have e48 : a9.eval (.tmp 48) = (v) := F9.ev 48 (by kernel_rfl); have ef : ∀ f, a9.eval (.func f) = .func (.func f) #[] #[] := fun _ => rfl; generalize a9.eval = ev at e40 e46 e47 e48 ef ⊢; simp [go_sem, mkO, s62_9, ef, e40, e46, e47, e48]; done)
      refine (hrec X4 gD cD hT4.below hgD hrD).mono ?_
      rintro e X5 ⟨v2, rfl, hR, hKz⟩
      have hKK := hT4.keep.trans hKz
      have hBX := hT4.below
      refine .inl ⟨_, rfl, trivial, ?_⟩
      refine F9.next 49 (v2) fun a10 F10 => ?_
      clear F9 a9
      refine tr_make s62_10 (v2) X5 (by kernel_rfl) rfl rfl ?_ trivial ?_; (focus (have e49 : a10.eval (.tmp 49) = (v2) := F10.ev 49 (by kernel_rfl); generalize a10.eval = ev at e49 ⊢; simp [go_sem, mkO, s62_10, e49]; done))
      refine F10.next 3 (v2) fun a11 F11 => ?_
      clear F10 a10
      exact F11.out hQn hKK ⟨v2, X4, hBX, hR, F11.fin [40, 41, 42, 43, 44, 45, 46, 47, 48, 49] (by kernel_rfl)⟩
    · have hT2 : Tr W W (X1.alloc (.cells #[iv s] 3)) [(X1.heap.size, .cells #[iv s] 3 (0, 0)), (zC, .cells #[] 3 (0, 0))] := hT1.alloc (.cells #[iv s] 3)
      refine tr_make s62_5 (.slice (some ⟨X1.heap.size, 0, none⟩) 1 1) (X1.alloc (.cells #[iv s] 3)) (by kernel_rfl) rfl rfl ?_ ⟨(Grow.of_below (B := 0) hT2.below).cell hc0, (Grow.of_below (B := 0) hT2.below).cell hc1, (Grow.of_below (B := 0) hT2.below).cell hc2⟩ ?_; (focus (have e44 : a6.eval (.tmp 44) = (iv s) := F6.ev 44 (by kernel_rfl); generalize a6.eval = ev at e44 ⊢; simp [go_sem, mkO, s62_5, e44, hu22]; done))
      obtain ⟨gs, hggs⟩ : ∃ b, X1.heap.size = b := ⟨_, rfl⟩
      simp only [hggs] at hT2 ⊢
      generalize X1.alloc (.cells #[iv s] 3) = X2 at *
      clear hggs hT1
      clear X1
      refine F6.next 45 (.slice (some ⟨gs, 0, none⟩) 1 1) fun a7 F7 => ?_
      clear F6 a6
      obtain ⟨gC, cC, cuC, X3, hrun, hTa, hoC, hba⟩ := hT2.app_nat 1 rfl (A := A) (L := l) (n := l.length) (c := cb) (hr.below hT2.below) hl rfl 22
      have hT3 : Tr W W X3 [(gs, .cells #[iv s] 3 (0, 0)), (gC, .cells (cuC).toArray 3 (0, 0))] := hTa
      clear hTa
      refine tr_make s62_3 (.slice (some ⟨gC, 0, none⟩) l.length cC) X3 (by kernel_rfl) rfl rfl (exec_append _ _ 22 rfl (F7.ev 41 (by kernel_rfl)) (F7.ev 42 (by kernel_rfl)) hrun) ⟨(Grow.of_below (B := 0) hT3.below).cell hc0, (Grow.of_below (B := 0) hT3.below).cell hc1, (Grow.of_below (B := 0) hT3.below).cell hc2⟩ ?_
      clear hrun hba hT2
      clear X2
      refine F7.next 43 (.slice (some ⟨gC, 0, none⟩) l.length cC) fun a8 F8 => ?_
      clear F7 a7
      obtain ⟨gD, cD, X4, hrun, hTa, hoD⟩ := (hT3.drop (m := [(gs, .cells #[iv s] 3 (0, 0))]) (List.Sublist.cons_cons _ (List.nil_sublist _))).app_one rfl hoC (fun p hp => by cases hp) hl
      have hT4 : Tr W W X4 [] := hTa
      have hgD := (hoD.lt gD rfl).1
      obtain ⟨_, _, e, hrD⟩ := row_of_own hoD
      cases e
      clear hTa hoC hoD
      refine tr_make s62_6 (.slice (some ⟨gD, 0, none⟩) (l.length + 1) cD) X4 (by kernel_rfl) rfl rfl (exec_append _ _ 22 rfl (F8.ev 43 (by kernel_rfl)) (F8.ev 45 (by kernel_rfl)) hrun) ⟨(Grow.of_below (B := 0) hT4.below).cell hc0, (Grow.of_below (B := 0) hT4.below).cell hc1, (Grow.of_below (B := 0) hT4.below).cell hc2⟩ ?_
      clear hrun hT3
      clear X3
      refine F8.next 46 (.slice (some ⟨gD, 0, none⟩) (l.length + 1) cD) fun a9 F9 => ?_
      clear F8 a8
      refine hQT _ _ ?_
      refine tr_call s62_9 (f := 62) (args := #[.agg #[a.sL, a.sN, a.sK], .slice (some ⟨gD, 0, none⟩) (l.length + 1) cD, iv most, v]) (by kernel_rfl) rfl rfl ?_ ?_
      · (have e40 : a9.eval (.tmp 40) = (.agg #[a.sL, a.sN, a.sK]) := F9.ev 40 (by kernel_rfl); have e46 : a9.eval (.tmp 46) = (.slice (some ⟨gD, 0, none⟩) (l.length + 1) cD) := F9.ev 46 (by kernel_rfl); have e47 : a9.eval (.tmp 47) = (iv most) := F9.ev 47 (by kernel_rfl); have e48 : a9.eval (.tmp 48) = (v) := F9.ev 48 (by kernel_rfl); have ef : ∀ f, a9.eval (.func f) = .func (.func f) #[] #[] := fun _ => rfl; generalize a9.eval = ev at e40 e46 e47 e48 ef ⊢; simp [go_sem, mkO, s62_9, ef, e40, e46, e47, e48]; done)
      refine (hrec X4 gD cD hT4.below hgD hrD).mono ?_
      rintro e X5 ⟨v2, rfl, hR, hKz⟩
      have hKK := hT4.keep.trans hKz
      have hBX := hT4.below
      refine .inl ⟨_, rfl, trivial, ?_⟩
      refine F9.next 49 (v2) fun a10 F10 => ?_
      clear F9 a9
      refine tr_make s62_10 (v2) X5 (by kernel_rfl) rfl rfl ?_ trivial ?_; (focus (have e49 : a10.eval (.tmp 49) = (v2) := F10.ev 49 (by kernel_rfl); generalize a10.eval = ev at e49 ⊢; simp [go_sem, mkO, s62_10, e49]; done))
      refine F10.next 3 (v2) fun a11 F11 => ?_
      clear F10 a10
      exact F11.out hQn hKK ⟨v2, X4, hBX, hR, F11.fin [40, 41, 42, 43, 44, 45, 46, 47, 48, 49] (by kernel_rfl)⟩
  · have hT1 : Tr W W (X0.alloc (.cells #[iv s] 3)) [(X0.heap.size, .cells #[iv s] 3 (0, 0))] := hT0.alloc (.cells #[iv s] 3)
    refine tr_make s62_5 (.slice (some ⟨X0.heap.size, 0, none⟩) 1 1) (X0.alloc (.cells #[iv s] 3)) (by kernel_rfl) rfl rfl ?_ ⟨(Grow.of_below (B := 0) hT1.below).cell hc0, (Grow.of_below (B := 0) hT1.below).cell hc1, (Grow.of_below (B := 0) hT1.below).cell hc2⟩ ?_; (focus (have e44 : a5.eval (.tmp 44) = (iv s) := F5.ev 44 (by kernel_rfl); generalize a5.eval = ev at e44 ⊢; simp [go_sem, mkO, s62_5, e44, hu22]; done))
    obtain ⟨gs, hggs⟩ : ∃ b, X0.heap.size = b := ⟨_, rfl⟩
    simp only [hggs] at hT1 ⊢
    generalize X0.alloc (.cells #[iv s] 3) = X1 at *
    clear hggs hT0
    clear X0
    refine F5.next 45 (.slice (some ⟨gs, 0, none⟩) 1 1) fun a6 F6 => ?_
    clear F5 a5
    have hT2 : Tr W W (X1.alloc (.cells #[] 3)) [(X1.heap.size, .cells #[] 3 (0, 0)), (gs, .cells #[iv s] 3 (0, 0))] := hT1.alloc (.cells #[] 3)
    refine tr_make s62_1 (.slice (some ⟨X1.heap.size, 0, none⟩) 0 0) (X1.alloc (.cells #[] 3)) (by kernel_rfl) rfl rfl ?_ ⟨(Grow.of_below (B := 0) hT2.below).cell hc0, (Grow.of_below (B := 0) hT2.below).cell hc1, (Grow.of_below (B := 0) hT2.below).cell hc2⟩ ?_; (focus (simp [go_sem, mkO, s62_1, hu22]; done))
    obtain ⟨zC, hgzC⟩ : ∃ b, X1.heap.size = b := ⟨_, rfl⟩
    simp only [hgzC] at hT2 ⊢
    generalize X1.alloc (.cells #[] 3) = X2 at *
    clear hgzC hT1
    clear X1
    refine F6.next 41 (.slice (some ⟨zC, 0, none⟩) 0 0) fun a7 F7 => ?_
    clear F6 a6
    obtain ⟨gC, cC, cuC, X3, hrun, hTa, hoC, hba⟩ := hT2.app_nat 0 rfl (A := A) (L := l) (n := l.length) (c := cb) (hr.below hT2.below) hl rfl 22
    have hT3 : Tr W W X3 [(gC, .cells (cuC).toArray 3 (0, 0)), (gs, .cells #[iv s] 3 (0, 0))] := hTa
    clear hTa
    refine tr_make s62_3 (.slice (some ⟨gC, 0, none⟩) l.length cC) X3 (by kernel_rfl) rfl rfl (exec_append _ _ 22 rfl (F7.ev 41 (by kernel_rfl)) (F7.ev 42 (by kernel_rfl)) hrun) ⟨(Grow.of_below (B := 0) hT3.below).cell hc0, (Grow.of_below (B := 0) hT3.below).cell hc1, (Grow.of_below (B := 0) hT3.below).cell hc2⟩ ?_
    clear hrun hba hT2
    clear X2
    refine F7.next 43 (.slice (some ⟨gC, 0, none⟩) l.length cC) fun a8 F8 => ?_
    clear F7 a7
    obtain ⟨gD, cD, X4, hrun, hTa, hoD⟩ := (hT3.drop (m := [(gs, .cells #[iv s] 3 (0, 0))]) (List.Sublist.cons _ (List.Sublist.refl _))).app_one rfl hoC (fun p hp => by cases hp) hl
    have hT4 : Tr W W X4 [] := hTa
    have hgD := (hoD.lt gD rfl).1
    obtain ⟨_, _, e, hrD⟩ := row_of_own hoD
    cases e
    clear hTa hoC hoD
    refine tr_make s62_6 (.slice (some ⟨gD, 0, none⟩) (l.length + 1) cD) X4 (by kernel_rfl) rfl rfl (exec_append _ _ 22 rfl (F8.ev 43 (by kernel_rfl)) (F8.ev 45 (by kernel_rfl)) hrun) ⟨(Grow.of_below (B := 0) hT4.below).cell hc0, (Grow.of_below (B := 0) hT4.below).cell hc1, (Grow.of_below (B := 0) hT4.below).cell hc2⟩ ?_
    clear hrun hT3
    clear X3
    refine F8.next 46 (.slice (some ⟨gD, 0, none⟩) (l.length + 1) cD) fun a9 F9 => ?_
    clear F8 a8
    refine hQT _ _ ?_
    refine tr_call s62_9 (f := 62) (args := #[.agg #[a.sL, a.sN, a.sK], .slice (some ⟨gD, 0, none⟩) (l.length + 1) cD, iv most, v]) (by kernel_rfl) rfl rfl ?_ ?_
    · (have e40 : a9.eval (.tmp 40) = (.agg #[a.sL, a.sN, a.sK]) := F9.ev 40 (by kernel_rfl); have e46 : a9.eval (.tmp 46) = (.slice (some ⟨gD, 0, none⟩) (l.length + 1) cD) := F9.ev 46 (by kernel_rfl); have e47 : a9.eval (.tmp 47) = (iv most) := F9.ev 47 (by kernel_rfl); have e48 : a9.eval (.tmp 48) = (v) := F9.ev 48 (by kernel_rfl); have ef : ∀ f, a9.eval (.func f) = .func (.func f) #[] #[] := fun _ => rfl; generalize a9.eval = ev at e40 e46 e47 e48 ef ⊢; simp [go_sem, mkO, s62_9, ef, e40, e46, e47, e48]; done)
    refine (hrec X4 gD cD hT4.below hgD hrD).mono ?_
    rintro e X5 ⟨v2, rfl, hR, hKz⟩
    have hKK := hT4.keep.trans hKz
    have hBX := hT4.below
    refine .inl ⟨_, rfl, trivial, ?_⟩
    refine F9.next 49 (v2) fun a10 F10 => ?_
    clear F9 a9
    refine tr_make s62_10 (v2) X5 (by kernel_rfl) rfl rfl ?_ trivial ?_; (focus (have e49 : a10.eval (.tmp 49) = (v2) := F10.ev 49 (by kernel_rfl); generalize a10.eval = ev at e49 ⊢; simp [go_sem, mkO, s62_10, e49]; done))
    refine F10.next 3 (v2) fun a11 F11 => ?_
    clear F10 a10
    exact F11.out hQn hKK ⟨v2, X4, hBX, hR, F11.fin [40, 41, 42, 43, 44, 45, 46, 47, 48, 49] (by kernel_rfl)⟩
end Go.Proofs.Ytbdmmikflkpmpaa
end

section
namespace Go.Proofs.Ytbdmmikflkpmpaa
open Go.RowKit Go.TL Go.Shelf Go.Pn
theorem LL.shape {W : World} {base : Nat} {v : Value} {ls : List (List Nat)} (h : LL W base v ls) : ∃ A c, v = .slice A ls.length c := by
  obtain ⟨vals, ho, _⟩ := h
  rcases ho.2 with ⟨e, e2⟩ | ⟨g, cap, cur, e, _⟩
  · exact ⟨none, 0, by rw [e, e2]⟩
  · exact ⟨_, _, e⟩
theorem LL.lt {W : World} {base : Nat} {v : Value} {ls : List (List Nat)} (h : LL W base v ls) {q : Nat} (e : v.ownBlock = some q) : base ≤ q ∧ q < W.heap.size := by
  obtain ⟨vals, ho, _⟩ := h
  exact ho.lt q e
theorem LL.keep {W W' : World} {base : Nat} {v : Value} {ls : List (List Nat)} (h : LL W base v ls) (hg : W.grownBy W' v.ownBlock) : Keep W W' := by
  obtain ⟨vals, ho, _⟩ := h
  refine (Keep.refl W).grown hg fun j o hj ho' => ?_
  rcases ho.2 with ⟨rfl, _⟩ | ⟨g, cap, cur, rfl, _, hg', _⟩
  · simp [Value.ownBlock] at hj
  · simp only [Value.ownBlock, Option.some.injEq] at hj
    subst hj
    rw [hg'] at ho'
    cases ho'
    rfl
def OwnR (w : World) (v v' : Value) : Prop := v'.ownBlock = v.ownBlock ∨ ∃ q, v'.ownBlock = some q ∧ w.heap.size ≤ q
theorem gb_via {w Y Z : World} {v v' : Value} (h : w.grownBy Y v.ownBlock) (hv : OwnR w v v') (k : Y.grownBy Z v'.ownBlock) : w.grownBy Z v.ownBlock :=
  ⟨k.os.trans h.os, k.tape.trans h.tape, k.output.trans h.output, Nat.le_trans h.size k.size, fun j hj hne => (k.block j (Nat.lt_of_lt_of_le hj h.size) (fun c => by
    rcases hv with e | ⟨q, e, hq⟩
    · exact hne (c.trans e)
    · rw [e] at c
      have := Option.some.inj c
      omega)).trans (h.block j hj hne)⟩
def SR (w0 : World) (a : XP) (most r : Nat) (l : List Nat) (out : List (List Nat)) (v : Value) (w : World) (v' : Value) (W' : World) : Prop :=
  LL W' w0.heap.size v' (seatF a most r l out) ∧ w.grownBy W' v.ownBlock ∧ OwnR w v v'
def upTo (a : XP) (most r : Nat) (l : List Nat) (out : List (List Nat)) (s : Nat) : List (List Nat) := (List.range s).foldl (fun o s => if fitsF a l l.length s then seatF a most r (l ++ [s]) o else o) out
theorem upTo_succ (a : XP) (most r : Nat) (l : List Nat) (out : List (List Nat)) (s : Nat) : upTo a most r l out (s + 1) = if fitsF a l l.length s then seatF a most r (l ++ [s]) (upTo a most r l out s) else upTo a most r l out s := by
  unfold upTo
  rw [List.range_succ, List.foldl_append]
  rfl
theorem upTo_len (a : XP) (most r : Nat) (l : List Nat) (out : List (List Nat)) : ∀ s, (upTo a most r l out s).length ≤ max most out.length
  | 0 => Nat.le_max_right _ _
  | s + 1 => by
    have ih := upTo_len a most r l out s
    rw [upTo_succ]
    split
    · have := seatF_len a most r (l ++ [s]) (upTo a most r l out s)
      omega
    · exact ih
def SeL (w0 w : World) (a : XP) (most r : Nat) (l : List Nat) (out : List (List Nat)) (v : Value) (o : List (List Nat)) (vs : Value) (Y : World) : Prop :=
  LL Y w0.heap.size vs o ∧ w.grownBy Y v.ownBlock ∧ OwnR w v vs ∧ vs.ownBlock ≠ some w.heap.size ∧ Y.heap[w.heap.size]? = some (.cells #[a.sL, a.sN, a.sK] 25 (0, 0))
theorem SeL.below {w0 w : World} {a : XP} {most r : Nat} {l : List Nat} {out o : List (List Nat)} {v vs : Value} {Y Z : World} (h : SeL w0 w a most r l out v o vs Y) (hb : Below Y.heap.size Y Z) : SeL w0 w a most r l out v o vs Z :=
  ⟨h.1.below hb, gb_trans h.2.1 (gb_below _ hb), h.2.2.1, h.2.2.2.1, (hb.block _ (heap_lt h.2.2.2.2)).trans h.2.2.2.2⟩
def SeLI (w0 w : World) (a : XP) (most r : Nat) (l : List Nat) (out : List (List Nat)) (v : Value) (A : Option Addr) (cb : Nat) (m : Nat) (t : Array Value) (Y : World) : Prop :=
  ∃ (s : Nat) (vs : Value), s ≤ 2 ^ a.L.length ∧ m = 2 ^ a.L.length - s ∧ SeL w0 w a most r l out v (upTo a most r l out s) vs Y ∧ Slots (none :: some (.slice A l.length cb) :: some (vi most) :: some (vs) :: some (.pointer (some ⟨w.heap.size, 0, none⟩)) :: o4 (some (iv l.length) :: some (iv s) :: o4 (o4 (o16 (o16 []))))) t
theorem w_below {w0 w Z : World} {row : Option Nat} (hw : Below w0.heap.size w0 w) (h : ∀ q, row = some q → w0.heap.size ≤ q) (hg : w.grownBy Z row) : Below w0.heap.size w0 Z :=
  hw.grown hg hw.size h
set_option maxRecDepth 100000 in
set_option maxHeartbeats 4000000 in
theorem seat62 {w0 : World} {a : XP} (hf : a.Fine) (ha0 : a.At w0) (most : Nat) (hm : most ≤ 2 ^ 40) : ∀ (r : Nat) (l : List Nat), l.length + r = a.N.length → (∀ x ∈ l, x < 2 ^ a.L.length) → ∀ (out : List (List Nat)) (w : World) (v : Value) (A : Option Addr) (cb : Nat), Below w0.heap.size w0 w → LL w w0.heap.size v out → out.length ≤ 2 ^ 40 → RowV w A (l.map iv) → (∀ ad, A = some ad → l ≠ [] → v.ownBlock ≠ some ad.block) →
    Calls Try.prog 62 #[a.val, .slice A l.length cb, vi most, v] w fun e W' => ∃ v', e = .returned v' ∧ SR w0 a most r l out v w v' W' := by
  intro r
  induction r with
  | zero =>
    intro l hlr hlx out w v A cb hw hL hol hr hne
    have hu25 := Try.underlying25
    have hu22 := Try.underlying22
    have hu85 := Try.underlying85
    have hj6 := hf.j
    have hp6 := hf.p
    have hl6 : l.length ≤ 6 := by omega
    obtain ⟨Ao, co, rfl⟩ := hL.shape
    have hvp : (Value.slice Ao out.length co).ownBlock ≠ some w.heap.size := fun c => by have := (hL.lt c).2; omega
    have hvb : ∀ q, (Value.slice Ao out.length co).ownBlock = some q → w0.heap.size ≤ q := fun q c => (hL.lt c).1
    refine calls_of_exec Try.func62 rfl ?_
    simp only [Try.ntmps62, List.size_toArray, List.length_cons, List.length_nil, Nat.reduceAdd, Nat.reduceSub, Array.replicate_succ, Array.replicate_zero, List.push_toArray, List.append_toArray, List.nil_append, List.cons_append]
    simp only [XP.val]
    refine exec_seq (exec_region_o fun ds => ?_)
    gi_wp2
    refine eq_mk ((Keep.refl w).alloc _) ?_
    show Exec _ _ (Code.seq _ _) _ (w.alloc (.cells #[a.sL, a.sN, a.sK] 25)) _
    have hB := (Below.refl w.heap.size w).alloc (Nat.le_refl _) (.cells #[a.sL, a.sN, a.sK] 25)
    have hX : (w.alloc (.cells #[a.sL, a.sN, a.sK] 25)).heap[w.heap.size]? = some (.cells #[a.sL, a.sN, a.sK] 25 (0, 0)) := World.alloc_heap_new _ _
    have hLX := hL.below hB
    generalize w.alloc (.cells #[a.sL, a.sN, a.sK] 25) = X at *
    have HNE := Lib.hid hne
    have HVB := Lib.hid hvb
    have HLX := Lib.hid hlx
    clear hne hvb hlx
    refine exec_seq (exec_region_o fun ds => ?_)
    gi_wp2
    refine eq_mk (Keep.refl _) ?_
    show Exec _ _ (Code.seq (Code.seq _ _) _) _ _ _
    refine exec_seq (exec_seq (exec_region_o fun ds => ?_))
    gi_wp2
    refine eq_mk (Keep.refl _) ?_
    show Exec _ _ (Code.cond _ _ _) _ _ _
    refine exec_cond (b := decide (most ≤ out.length)) (by first | rfl | (show Value.bool _ = _; congr 1; exact decide_eq_decide.2 (by omega))) (fun hp => ?_) (fun hp => exec_skip ?_)
    · have hmo := of_decide_eq_true hp
      refine exec_seq (exec_region_o fun ds => ?_)
      gi_wp2
      refine eq_mk (Keep.refl _) ?_
      exact exec_ret ⟨.inr rfl, fun W' hG => ⟨.slice Ao out.length co, by simp [results, Try.f62, go_sem], ⟨_, rfl, by
        show LL _ _ _ _ ∧ _ ∧ _
        rw [seatF_eq, if_pos hmo]
        exact ⟨hLX.grow hG, gb_grow (gb_below _ hB) hG, .inl rfl⟩⟩⟩⟩
    have hmo : ¬ most ≤ out.length := of_decide_eq_false hp
    clear hp
    have hh := hX
    simp only [XP.sN] at hh
    have c1 := cells_get (cs := [_, _, _]) (k := 1) hh rfl
    clear hh
    show Exec _ _ (Code.seq (Code.seq _ _) _) _ _ _
    refine exec_seq (exec_seq (exec_region_o fun ds => ?_))
    gi_wp2
    refine eq_mk (Keep.refl _) ?_
    show Exec _ _ (Code.cond _ _ _) _ _ _
    clear c1
    refine exec_cond (b := true) (by first | rfl | (show Value.bool _ = _; congr 1; first | exact decide_eq_true (by omega) | (simp; omega))) (fun hp => ?_) (fun h => by cases h)
    obtain ⟨v', X', hrun, hLY, hgY, hoY, hK⟩ := hLX.push (cb := cb) (hr.below hB) HNE.out (by omega) (Nat.le_trans hw.size hB.size)
    refine exec_seq (exec_region_o fun ds => ?_)
    show (Code.region _ _ _).wpIn _ _ _ _ _ _
    gi_wp2_with (gi_at_builtin; refine wpListIn_app rfl _ _ 85 rfl rfl rfl hrun ?_)
    refine eq_mk hK ?_
    exact exec_ret ⟨.inr rfl, fun W' hG => ⟨v', by simp [results, Try.f62, go_sem], by
      show LL _ _ _ _ ∧ _ ∧ _
      unfold seatF
      rw [if_neg hmo]
      refine ⟨hLY.grow hG, gb_grow (gb_trans (gb_below _ hB) hgY) hG, ?_⟩
      rcases hoY with h | ⟨q, h, hq⟩
      · exact .inl h
      · exact .inr ⟨q, h, Nat.le_trans hB.size hq⟩⟩⟩
  | succ r ih =>
    intro l hlr hlx out w v A cb hw hL hol hr hne
    have hu25 := Try.underlying25
    have hu22 := Try.underlying22
    have hu85 := Try.underlying85
    have hj6 := hf.j
    have hp6 := hf.p
    have hl6 : l.length ≤ 6 := by omega
    obtain ⟨Ao, co, rfl⟩ := hL.shape
    have hvp : (Value.slice Ao out.length co).ownBlock ≠ some w.heap.size := fun c => by have := (hL.lt c).2; omega
    have hvb : ∀ q, (Value.slice Ao out.length co).ownBlock = some q → w0.heap.size ≤ q := fun q c => (hL.lt c).1
    refine calls_of_exec Try.func62 rfl ?_
    simp only [Try.ntmps62, List.size_toArray, List.length_cons, List.length_nil, Nat.reduceAdd, Nat.reduceSub, Array.replicate_succ, Array.replicate_zero, List.push_toArray, List.append_toArray, List.nil_append, List.cons_append]
    simp only [XP.val]
    refine exec_seq (exec_region_o fun ds => ?_)
    gi_wp2
    refine eq_mk ((Keep.refl w).alloc _) ?_
    show Exec _ _ (Code.seq _ _) _ (w.alloc (.cells #[a.sL, a.sN, a.sK] 25)) _
    have hB := (Below.refl w.heap.size w).alloc (Nat.le_refl _) (.cells #[a.sL, a.sN, a.sK] 25)
    have hX : (w.alloc (.cells #[a.sL, a.sN, a.sK] 25)).heap[w.heap.size]? = some (.cells #[a.sL, a.sN, a.sK] 25 (0, 0)) := World.alloc_heap_new _ _
    have hLX := hL.below hB
    generalize w.alloc (.cells #[a.sL, a.sN, a.sK] 25) = X at *
    have HNE := Lib.hid hne
    have HVB := Lib.hid hvb
    have HLX := Lib.hid hlx
    clear hne hvb hlx
    refine exec_seq (exec_region_o fun ds => ?_)
    gi_wp2
    refine eq_mk (Keep.refl _) ?_
    show Exec _ _ (Code.seq (Code.seq _ _) _) _ _ _
    refine exec_seq (exec_seq (exec_region_o fun ds => ?_))
    gi_wp2
    refine eq_mk (Keep.refl _) ?_
    show Exec _ _ (Code.cond _ _ _) _ _ _
    refine exec_cond (b := decide (most ≤ out.length)) (by first | rfl | (show Value.bool _ = _; congr 1; exact decide_eq_decide.2 (by omega))) (fun hp => ?_) (fun hp => exec_skip ?_)
    · have hmo := of_decide_eq_true hp
      refine exec_seq (exec_region_o fun ds => ?_)
      gi_wp2
      refine eq_mk (Keep.refl _) ?_
      exact exec_ret ⟨.inr rfl, fun W' hG => ⟨.slice Ao out.length co, by simp [results, Try.f62, go_sem], ⟨_, rfl, by
        show LL _ _ _ _ ∧ _ ∧ _
        rw [seatF_eq, if_pos hmo]
        exact ⟨hLX.grow hG, gb_grow (gb_below _ hB) hG, .inl rfl⟩⟩⟩⟩
    have hmo : ¬ most ≤ out.length := of_decide_eq_false hp
    clear hp
    have hh := hX
    simp only [XP.sN] at hh
    have c1 := cells_get (cs := [_, _, _]) (k := 1) hh rfl
    clear hh
    show Exec _ _ (Code.seq (Code.seq _ _) _) _ _ _
    refine exec_seq (exec_seq (exec_region_o fun ds => ?_))
    gi_wp2
    refine eq_mk (Keep.refl _) ?_
    show Exec _ _ (Code.cond _ _ _) _ _ _
    clear c1
    refine exec_cond (b := false) (by first | rfl | (show Value.bool _ = _; congr 1; first | exact decide_eq_false (by omega) | (simp; omega))) (fun h => by cases h) (fun _ => exec_skip ?_)
    show Exec _ _ (Code.seq (Code.seq _ _) _) _ _ _
    refine exec_seq (exec_seq (exec_region_o fun ds => ?_))
    gi_wp2
    refine eq_mk (Keep.refl _) ?_
    show Exec _ _ (Code.block _ _) _ _ _
    refine exec_block ?_
    refine exec_loop (SeLI w0 w a most r l out (.slice Ao out.length co) A cb) (2 ^ a.L.length) ⟨0, .slice Ao out.length co, Nat.zero_le _, rfl, ⟨hLX, gb_below _ hB, .inl rfl, hvp, hX⟩, by simp [Slots, Fits]⟩ ?_
    rintro m t Y ⟨s, vs, hs, hm, hSe, hSl⟩
    obtain ⟨o, ho⟩ : ∃ o, upTo a most r l out s = o := ⟨_, rfl⟩
    have hon := upTo_len a most r l out s
    have hsu := upTo_succ a most r l out s
    rw [ho] at hSe hon hsu
    have HO := Lib.hid ho
    have HN := Lib.hid hm
    have HSU := Lib.hid hsu
    have HIH := Lib.hid ih
    clear ho hm hsu ih
    obtain ⟨As, cs, rfl⟩ := hSe.1.shape
    have hXb := hSe.2.2.2.2
    have hcall := power99 a.L.length (by omega) Y
    have hP10 : 2 ^ a.L.length ≤ 2 ^ 10 := Nat.pow_le_pow_right (by omega) (by omega)
    have HLX : RowKit.Hid (∀ x ∈ l, x < 2 ^ a.L.length) := HLX
    obtain ⟨P, hP⟩ : ∃ P, 2 ^ a.L.length = P := ⟨_, rfl⟩
    rw [hP] at hs hcall hP10 HN HLX
    have HP := Lib.hid hP
    clear hP
    have HSE := Lib.hid hSe
    clear hSe
    obtain ⟨x, hx⟩ := Slots.open_ hSl; simp only [fill, Nat.reduceAdd] at hx; subst hx; clear hSl
    have hh := hXb
    simp only [XP.sL] at hh
    have c0 := cells_get (cs := [_, _, _]) (k := 0) hh rfl
    clear hh
    show Exec _ _ (Code.seq (Code.seq _ _) (Code.seq _ _)) _ _ _
    refine exec_seq (exec_seq (exec_region_o fun ds => ?_))
    gi_wp2_with fail
    refine ⟨trivial, rfl, (callsIn_wide.2 hcall).mono ?_⟩
    rintro e Z ⟨rfl, hz⟩
    have hSeZ := Lib.hid (HSE.out.below hz)
    clear hcall c0
    gi_wp2
    refine eq_mk (Keep.of_below hz) ?_
    show Exec _ _ (Code.cond _ _ _) _ _ _
    refine exec_cond (b := decide (s < P)) (by first | rfl | (show Value.bool _ = _; congr 1; exact decide_eq_decide.2 (by omega))) (fun hp => exec_skip ?_) (fun hp => exec_exit ?_)
    · have hsP := of_decide_eq_true hp
      clear hp
      have hwZ := w_below hw HVB.out hSeZ.out.2.1
      have hrZ := row_far hr hSeZ.out.2.1 (fun ad e hn => HNE.out ad e (by simpa using hn))
      have hcall := fits111 a hf l hl6 (fun x hx => Nat.lt_of_lt_of_le (HLX.out x hx) (by omega)) A cb l.length s (by omega) (by omega) Z (ha0.below hwZ) hrZ
      have hXZ := hSeZ.out.2.2.2.2
      obtain ⟨q, hq⟩ : ∃ q, fitsF a l l.length s = q := ⟨_, rfl⟩
      rw [hq] at hcall
      have HQ := Lib.hid hq
      have HWZ := Lib.hid hwZ
      have HRZ := Lib.hid hrZ
      clear hq hwZ hrZ
      have HEND : RowKit.Hid (∀ (v2 : Value) (Z2 : World), SeL w0 w a most r l out (.slice Ao out.length co) (upTo a most r l out (s + 1)) v2 Z2 → ∀ t, Slots (none :: some (.slice A l.length cb) :: some (vi most) :: some (v2) :: some (.pointer (some ⟨w.heap.size, 0, none⟩)) :: o4 (some (iv l.length) :: some (iv s) :: o4 (o4 (o16 (o16 []))))) t → Exec Try.prog none (sub (Try.f62.body.getD .skip) [1, 1, 1, 1, 0, 1, 0, 0, 1, 1]) t Z2 (fun e t' W' => e = .normal ∧ ∃ m', m' < m ∧ SeLI w0 w a most r l out (.slice Ao out.length co) A cb m' t' W')) := Lib.hid (by
        intro v2 Z2 hS2 t hSl
        have hw : IntKind.i64.wrap ((s : Int) + 1) = ((s + 1 : Nat) : Int) := by rw [IntWalk.i64_in _ (by omega)]; norm_cast
        have HS2 := Lib.hid hS2
        clear hS2 hcall
        obtain ⟨x, hx⟩ := Slots.open_ hSl; simp only [fill, Nat.reduceAdd] at hx; subst hx; clear hSl
        show Exec _ _ (Code.region _ _ _) _ _ _
        refine exec_region_o fun ds => ?_
        gi_wp2
        refine eq_mk (Keep.refl _) ?_
        exact ⟨rfl, m - 1, by have := HN.out; omega, s + 1, v2, by rw [HP.out]; omega, by rw [HP.out]; have := HN.out; omega, HS2.out, by simp [Slots, Fits]; try omega⟩)
      have c0 := cells_get (cs := [_, _, _]) (k := 0) hXZ rfl
      have c1 := cells_get (cs := [_, _, _]) (k := 1) hXZ rfl
      have c2 := cells_get (cs := [_, _, _]) (k := 2) hXZ rfl
      show Exec _ _ (Code.seq (Code.block _ _) _) _ _ _
      refine exec_seq (exec_block (exec_seq (exec_region_o fun ds => ?_)))
      gi_wp2_with fail
      refine ⟨trivial, rfl, (callsIn_wide.2 hcall).mono ?_⟩
      rintro e Z2 ⟨rfl, hz2⟩
      have hSe2 := Lib.hid (hSeZ.out.below hz2)
      have HW2 := Lib.hid (HWZ.out.trans (hz2.mono HWZ.out.size))
      have HR2 := Lib.hid (HRZ.out.below hz2)
      clear hcall c0 c1 c2
      gi_wp2
      refine eq_mk (Keep.of_below hz2) ?_
      show Exec _ _ (Code.cond _ _ _) _ _ _
      cases q with
      | false =>
        refine exec_cond (b := false) rfl (fun h => by cases h) (fun _ => exec_skip ?_)
        show Exec Try.prog none (sub (Try.f62.body.getD .skip) [1, 1, 1, 1, 0, 1, 0, 0, 1, 1]) _ _ _
        refine (HEND.out _ Z2 (by rw [HSU.out, HQ.out]; exact hSe2.out) _ (by simp [Slots, Fits])).mono ?_
        rintro e t W ⟨rfl, h⟩
        exact h
      | true =>
        refine exec_cond (b := true) rfl (fun _ => ?_) (fun h => by cases h)
        have hX2 := hSe2.out.2.2.2.2
        have d0 := cells_get (cs := [_, _, _]) (k := 0) hX2 rfl
        have d1 := cells_get (cs := [_, _, _]) (k := 1) hX2 rfl
        have d2 := cells_get (cs := [_, _, _]) (k := 2) hX2 rfl
        show Exec Try.prog none (sub (Try.f62.body.getD .skip) [1, 1, 1, 1, 0, 1, 0, 0, 1, 0, 0, 1, 0]) _ _ _
        refine (seat_r10 (W := Z2) (a := a) (A := A) (l := l) (cb := cb) (most := most) (p := w.heap.size) (s := s) (v := .slice As o.length cs) (R := fun v' X Z => SR w0 a most r (l ++ [s]) o (.slice As o.length cs) X v' Z) (by omega) HR2.out d0 d1 d2 (fun X g c hbX hg hrow => ?_) (by simp [Slots, Fits])).mono ?_
        · have hLX2 := hSe2.out.1.below hbX
          have hi := HIH.out (l ++ [s]) (by rw [List.length_append]; simp only [List.length_cons, List.length_nil]; omega) (fun x hx => by
            rw [HP.out]
            rcases List.mem_append.1 hx with h | h
            · exact HLX.out x h
            · rw [List.mem_singleton.1 h]; exact hsP) o X (.slice As o.length cs) (some ⟨g, 0, none⟩) c (HW2.out.trans (hbX.mono HW2.out.size)) hLX2 (by omega) hrow (fun ad e _ h => by
            cases e
            have := (hSe2.out.1.lt h).2
            simp only at this
            omega)
          rw [List.length_append] at hi
          refine hi.mono ?_
          rintro e Z3 ⟨v', rfl, hS⟩
          exact ⟨v', rfl, hS, hLX2.keep hS.2.1⟩
        · intro e t W hh
          obtain ⟨rfl, v2, X3, hb3, hS3, hSl⟩ := only_normal hh
          have h2 := hSe2.out
          refine (HEND.out v2 W (by
            rw [HSU.out, HQ.out, if_pos rfl]
            refine ⟨hS3.1, gb_via (gb_trans h2.2.1 (gb_below _ hb3)) h2.2.2.1 hS3.2.1, ?_, ?_, ?_⟩
            · rcases hS3.2.2 with e | ⟨q, e, hq⟩
              · rcases h2.2.2.1 with e2 | ⟨q2, e2, hq2⟩
                · exact .inl (e.trans e2)
                · exact .inr ⟨q2, e.trans e2, hq2⟩
              · exact .inr ⟨q, e, Nat.le_trans (Nat.le_trans h2.2.1.size hb3.size) hq⟩
            · rcases hS3.2.2 with e | ⟨q, e, hq⟩
              · rw [e]; exact h2.2.2.2.1
              · rw [e]
                intro c
                have := Option.some.inj c
                have := heap_lt h2.2.2.2.2
                have := hb3.size
                omega
            · have hlt := heap_lt h2.2.2.2.2
              exact (hS3.2.1.block _ (Nat.lt_of_lt_of_le hlt hb3.size) (fun e => h2.2.2.2.1 e.symm)).trans ((hb3.block _ hlt).trans h2.2.2.2.2)) t hSl).mono ?_
          rintro e t W ⟨rfl, h⟩
          exact h
    · have hsP : s = P := by have := of_decide_eq_false hp; omega
      show Exec _ _ (Code.seq _ _) _ _ _
      refine exec_seq (exec_region_o fun ds => ?_)
      gi_wp2
      refine eq_mk (Keep.refl _) ?_
      exact exec_ret ⟨.inr rfl, fun W' hG => ⟨.slice As o.length cs, by simp [results, Try.f62, go_sem], by
        show LL _ _ _ _ ∧ _ ∧ _
        have he : seatF a most (r + 1) l out = o := by
          unfold seatF
          rw [if_neg hmo]
          have := HO.out
          rw [hsP, ← HP.out] at this
          exact this
        rw [he]
        exact ⟨hSeZ.out.1.grow hG, gb_grow hSeZ.out.2.1 hG, hSeZ.out.2.2.1⟩⟩⟩
end Go.Proofs.Ytbdmmikflkpmpaa
end

section
namespace Go.Proofs.Ytbdmmikflkpmpaa
open Go.RowKit Go.TL Go.Shelf Go.Pn
theorem row_take {X : World} {A : Option Addr} {l : List Nat} (h : RowV X A (l.map iv)) (n : Nat) : RowV X A ((l.take n).map iv) := fun i v hv => by
  refine h i v ?_
  rw [List.getElem?_map] at hv ⊢
  obtain ⟨u, hu, rfl⟩ := Option.map_eq_some_iff.1 hv
  rw [List.getElem?_take] at hu
  split at hu
  · rw [hu]
    rfl
  · cases hu
theorem row_drop {X : World} {ad : Addr} {l : List Nat} {c n : Nat} {A : Option Addr} (h : RowV X (some ad) (l.map iv)) (hA : (if c = n then some ad else some (ad.add n)) = A) (hc : l.length ≤ c) : RowV X A ((l.drop n).map iv) := fun i v hv => by
  rw [List.getElem?_map] at hv
  obtain ⟨u, hu, rfl⟩ := Option.map_eq_some_iff.1 hv
  rw [List.getElem?_drop] at hu
  obtain ⟨ad', e, hcl⟩ := h (n + i) (iv u) (by rw [List.getElem?_map, hu]; rfl)
  cases e
  have hlt := (List.getElem?_eq_some_iff.1 hu).1
  rw [if_neg (by omega)] at hA
  exact ⟨ad.add n, hA.symm, by rw [Addr.add_add]; exact hcl⟩
theorem Tr.own_ne {W V X : World} {l : List (Nat × Obj)} {g : Nat} {o : Obj} (h : Tr W V X ((g, o) :: l)) (n c : Nat) : ∀ p ∈ l, (Value.slice (some ⟨g, 0, none⟩) n c).ownBlock ≠ some p.1 := by
  intro p hp e
  have : g = p.1 := by simpa [Value.ownBlock] using e
  subst this
  exact (List.nodup_cons.1 h.nd).1 (List.mem_map.2 ⟨p, hp, rfl⟩)
theorem Tr.app_oneN {W V X : World} {l : List (Nat × Obj)} {g k1 : Nat} (h : Tr W V X ((g, .cells #[iv k1] 3 (0, 0)) :: l)) {n : Nat} {v : Value} {K : List Nat} (hn : n = K.length) (ho : X.ownsRow W.heap.size 3 1 v n (K.map iv)) (hne : ∀ p ∈ l, v.ownBlock ≠ some p.1) (h1000 : n ≤ 1000) :
    ∃ g2 c2 Y, (Builtin.append_ #[22, 22] 22 #[v, .slice (some ⟨g, 0, none⟩) 1 1]).run Try.prog X = .ok (.slice (some ⟨g2, 0, none⟩) (n + 1) c2) Y ∧ Tr W V Y l ∧ Y.ownsRow W.heap.size 3 1 (.slice (some ⟨g2, 0, none⟩) (n + 1) c2) (n + 1) ((K ++ [k1]).map iv) ∧ ∀ p ∈ l, p.1 ≠ g2 := by
  subst hn
  obtain ⟨i0, hi0, hz0, hz1, hz2⟩ := info3q
  have hcg := h.get 0 rfl
  obtain ⟨v', Y, hrun, hown, hgr, _, hat⟩ := run_append_own_at (P := Try.prog) (w := X) W.heap.size 22 22 3 i0 (.int .i64 0) 1 8 Try.underlying22 hi0 hz0 hz1 hz2 rfl (by decide) v K.length (K.map iv) ho ⟨g, 0, none⟩ 1 1 [iv k1] rfl (by
    intro j y hj
    match j, hj with
    | 0, hj =>
      cases hj
      exact cells_get (cs := [iv k1]) (k := 0) hcg rfl) (by
    intro y hy
    simp at hy
    subst hy
    rfl) (by unfold maxLen; omega) (by omega) h.below.size
  have hbq : ∀ q, v.ownBlock = some q → W.heap.size ≤ q := fun q e => (ho.lt q e).1
  obtain ⟨g2, c2, rfl⟩ : ∃ g2 c2, v' = .slice (some ⟨g2, 0, none⟩) (K.length + 1) c2 := by
    rcases hown.2 with ⟨_, h0⟩ | ⟨g2, c2, _, e, _⟩
    · omega
    · exact ⟨g2, c2, e⟩
  refine ⟨g2, c2, Y, hrun, ⟨h.below.grown hgr h.below.size fun q e => hbq q e, h.keep.grown hgr fun j o hj ho' => ?_, fun p hp => h.ge p (List.mem_cons_of_mem _ hp), fun p hp => ?_, (List.nodup_cons.1 h.nd).2⟩, ?_, fun p hp e => ?_⟩
  · rcases ho.2 with ⟨rfl, _⟩ | ⟨g, cap, cur, rfl, _, hg', _⟩
    · simp [Value.ownBlock] at hj
    · simp only [Value.ownBlock, Option.some.injEq] at hj
      subst hj
      rw [hg'] at ho'
      cases ho'
      rfl
  · exact (hgr.block _ (h.lt p (List.mem_cons_of_mem _ hp)) (Ne.symm (hne p hp))).trans (h.at_ p (List.mem_cons_of_mem _ hp))
  · rw [List.map_append]
    exact hown
  · subst e
    rcases hat with h2 | h2
    · exact hne p hp h2.symm
    · have := h.lt p (List.mem_cons_of_mem _ hp)
      simp only [Value.ownBlock, Option.some.injEq] at h2
      omega
theorem Tr.app_rest {W V X : World} {l : List (Nat × Obj)} (h : Tr W V X l) {n : Nat} {v : Value} {K : List Nat} (hn : n = K.length) (h0 : 0 < n) (ho : X.ownsRow W.heap.size 3 1 v n (K.map iv)) (hne : ∀ p ∈ l, v.ownBlock ≠ some p.1) {A : Option Addr} {L : List Nat} {m c : Nat} (hm : m = L.length) (hr : RowV X A (L.map iv)) (h1000 : n + m ≤ 1000) :
    ∃ g2 c2 Y, (Builtin.append_ #[22, 22] 22 #[v, .slice A m c]).run Try.prog X = .ok (.slice (some ⟨g2, 0, none⟩) (n + m) c2) Y ∧ Tr W V Y l ∧ Y.ownsRow W.heap.size 3 1 (.slice (some ⟨g2, 0, none⟩) (n + m) c2) (n + m) ((K ++ L).map iv) ∧ ∀ p ∈ l, p.1 ≠ g2 := by
  subst hn hm
  obtain ⟨i0, hi0, hz0, hz1, hz2⟩ := info3q
  have hbq : ∀ q, v.ownBlock = some q → W.heap.size ≤ q := fun q e => (ho.lt q e).1
  cases L with
  | nil =>
    rcases ho.2 with ⟨_, hz⟩ | ⟨g, cap, cur, rfl, hge, hg, hnc, hrest⟩
    · omega
    · have hs : Src Try.prog i0.size 22 (.slice A 0 c) 0 [] X := by
        cases A with
        | none => exact Src.ofNil X Try.underlying22 c
        | some a => exact Src.ofSlice X Try.underlying22 a 0 c [] (by simp) (fun j u hu => by simp at hu) (fun u hu => by cases hu)
      refine ⟨g, cap, X, run_append_nothing X 22 22 22 3 i0 Try.underlying22 hi0 (some ⟨g, 0, none⟩) K.length cap hnc _ hs, h, by simpa using ho, fun p hp e => ?_⟩
      exact hne p hp (by simp [Value.ownBlock, e])
  | cons y L =>
    obtain ⟨a, rfl, _⟩ := hr 0 _ rfl
    obtain ⟨v', Y, hrun, hown, hgr, _, hat⟩ := run_append_own_at (P := Try.prog) (w := X) W.heap.size 22 22 3 i0 (.int .i64 0) 1 8 Try.underlying22 hi0 hz0 hz1 hz2 rfl (by decide) v K.length (K.map iv) ho a (y :: L).length c ((y :: L).map iv) (by simp) (fun j u hj => by obtain ⟨_, e, hc⟩ := hr j u hj; cases e; exact hc) (by
      intro u hu
      obtain ⟨z, _, rfl⟩ := List.mem_map.1 hu
      rfl) (by unfold maxLen; omega) (by omega) h.below.size
    obtain ⟨g2, c2, rfl⟩ : ∃ g2 c2, v' = .slice (some ⟨g2, 0, none⟩) (K.length + (y :: L).length) c2 := by
      rcases hown.2 with ⟨_, h0⟩ | ⟨g2, c2, _, e, _⟩
      · omega
      · exact ⟨g2, c2, e⟩
    refine ⟨g2, c2, Y, hrun, ⟨h.below.grown hgr h.below.size fun q e => hbq q e, h.keep.grown hgr fun j o hj ho' => ?_, fun p hp => h.ge p hp, fun p hp => ?_, h.nd⟩, ?_, fun p hp e => ?_⟩
    · rcases ho.2 with ⟨rfl, _⟩ | ⟨g, cap, cur, rfl, _, hg', _⟩
      · simp [Value.ownBlock] at hj
      · simp only [Value.ownBlock, Option.some.injEq] at hj
        subst hj
        rw [hg'] at ho'
        cases ho'
        rfl
    · exact (hgr.block _ (h.lt p hp) (Ne.symm (hne p hp))).trans (h.at_ p hp)
    · rw [List.map_append]
      exact hown
    · subst e
      rcases hat with h2 | h2
      · exact hne p hp h2.symm
      · have := h.lt p hp
        simp only [Value.ownBlock, Option.some.injEq] at h2
        omega
def c9_1t : It := ⟨(Op.fieldAddr 25 (Operand.tmp 2) 1), some 26, 0, true, none⟩
def c9_2t : It := ⟨(Op.load 22 (Operand.tmp 26)), some 27, 22, true, none⟩
def c9_3t : It := ⟨(Op.move (Operand.tmp 5)), some 28, 3, true, none⟩
def c9_4t : It := ⟨(Op.slice 22 (Operand.tmp 27) none (some (Operand.tmp 28)) none), some 29, 22, true, none⟩
def c9_6t : It := ⟨(Op.move (Operand.tmp 7)), some 31, 3, true, none⟩
def c9_10t : It := ⟨(Op.fieldAddr 25 (Operand.tmp 2) 1), some 35, 0, true, none⟩
def c9_11t : It := ⟨(Op.load 22 (Operand.tmp 35)), some 36, 22, true, none⟩
def c9_12t : It := ⟨(Op.move (Operand.tmp 5)), some 37, 3, true, none⟩
def c9_13t : It := ⟨(Op.binOp BinOp.add 3 (Operand.tmp 37) (Operand.const (Value.int IntKind.i64 1)) 3), some 38, 3, true, none⟩
def c9_14t : It := ⟨(Op.slice 22 (Operand.tmp 36) (some (Operand.tmp 38)) none none), some 39, 22, true, none⟩
def c9_0 : It := ⟨(Op.buildSlice 22 0 #[]), some 25, 22, false, none⟩
def c9_5 : It := ⟨(Op.call { callee := (Callee.builtin Builtin.append), args := #[(Operand.tmp 25), (Operand.tmp 29)], argTypes := #[22, 22] }), some 30, 22, false, none⟩
def c9_7 : It := ⟨(Op.call { callee := (Callee.value (Operand.func 30)), args := #[(Operand.tmp 31)], argTypes := #[3] }), some 32, 3, false, none⟩
def c9_8 : It := ⟨(Op.buildSlice 22 1 #[(0, (Operand.tmp 32))]), some 33, 22, false, none⟩
def c9_9 : It := ⟨(Op.call { callee := (Callee.builtin Builtin.append), args := #[(Operand.tmp 30), (Operand.tmp 33)], argTypes := #[22, 22] }), some 34, 22, false, none⟩
def c9_15 : It := ⟨(Op.call { callee := (Callee.builtin Builtin.append), args := #[(Operand.tmp 34), (Operand.tmp 39)], argTypes := #[22, 22] }), some 40, 22, false, none⟩
def c9_16 : It := ⟨(Op.fieldAddr 25 (Operand.tmp 8) 1), some 41, 0, false, none⟩
def c9_17 : It := ⟨(Op.store 22 (Operand.tmp 41) (Operand.tmp 40)), none, 0, false, none⟩
set_option maxRecDepth 100000 in
set_option maxHeartbeats 4000000 in
theorem seats_r9 {w W : World} {a : XP} {A A2 : Option Addr} {b b8 cb n m s v6 : Nat} {ad : Addr} (hf : a.Fine) (ha : a.At w) (hA : a.AN = some ad) (hmm : a.N.length - (n + 1) = m) (hn : n < a.N.length) (hc : a.N.length ≤ a.cN) (hs : s < 1024) (hA2 : (if a.cN = n + 1 then some ad else some (ad.add (n + 1))) = A2) (hT : Tr w W W [(b, .cells #[a.sL, a.sN, a.sK] 25 (0, 0)), (b8, .cells #[a.sL, a.sN, a.sK] 25 (0, 0))]) {t : Array Value} (hSl : Slots (none :: some (.slice A n cb) :: some (.pointer (some ⟨b, 0, none⟩)) :: none :: none :: some (iv n) :: some (iv v6) :: some (iv s) :: some (.pointer (some ⟨b8, 0, none⟩)) :: none :: none :: o4 (o4 (o4 (o16 (o16 (o16 [])))))) t) :
    Exec Try.prog none (sub (Try.f102.body.getD .skip) [1, 1, 1, 1, 0, 1, 0, 0, 1, 0, 0, 1, 0]) t W (andThen (fun t' W' => ∃ gE cE, Tr w W' W' [(b, .cells #[a.sL, a.sN, a.sK] 25 (0, 0)), (b8, .cells #[a.sL, .slice (some ⟨gE, 0, none⟩) (n + 1 + m) cE, a.sK] 25 (0, 0))] ∧ W'.ownsRow w.heap.size 3 1 (.slice (some ⟨gE, 0, none⟩) (n + 1 + m) cE) (n + 1 + m) (((a.s3.2.1.take n ++ [pop s]) ++ a.s3.2.1.drop (n + 1)).map iv) ∧ Slots (none :: some (.slice A n cb) :: some (.pointer (some ⟨b, 0, none⟩)) :: none :: none :: some (iv n) :: some (iv v6) :: some (iv s) :: some (.pointer (some ⟨b8, 0, none⟩)) :: none :: none :: o4 (o4 (o4 (o16 (o16 (o16 [])))))) t') fun _ _ _ => False) := by
  have hu25 := Try.underlying25
  have hu22 := Try.underlying22
  obtain ⟨i0, hi0, hz0, hz1, hz2⟩ := info3q
  have hp6 := hf.p
  have hNl : a.s3.2.1.length = a.N.length := by simp [XP.s3]
  have hrow : ∀ Y, Below w.heap.size w Y → RowV Y (some ad) (a.s3.2.1.map iv) := fun Y hY => by
    have := (XP.np_at (ha.below hY) hf).n
    show RowV Y (some ad) _
    rw [← hA]
    exact this
  have hnc : (n : Int) ≤ (a.cN : Int) := by omega
  have hlo : (n : Int) + 1 ≤ (a.N.length : Int) := by omega
  have hlo0 : (0 : Int) ≤ (n : Int) + 1 := by omega
  have had : ad.add (n + 1) = ⟨ad.block, ad.off + (n + 1), none⟩ := by simp [Addr.add]
  have hA2s := hA2
  rw [had] at hA2s
  have hc0 : ¬ a.cN = 0 := by omega
  have had0 : ad.add 0 = ad := by simp [Addr.add]
  have hw : IntKind.i64.wrap ((n : Int) + 1) = ((n + 1 : Nat) : Int) := by rw [IntWalk.i64_in _ (by omega)]; norm_cast
  have hT0 := hT.again.drew
  refine region_tree2 (c := (sub (Try.f102.body.getD .skip) [1, 1, 1, 1, 0, 1, 0, 0, 1, 0, 0, 1, 0])) (id := 9) 16 2 (.one 1 true (.one 2 true (.one 3 true (.one 4 true (.one 6 true (.one 10 true (.one 11 true (.one 12 true (.one 13 true (.one 14 true (.one 0 false (.one 5 false (.one 7 false (.one 8 false (.one 9 false (.one 15 false (.nil))))))))))))))))) (.one 16 false (.one 17 false (.nil))) (Opq ((regOps (sub (Try.f102.body.getD .skip) [1, 1, 1, 1, 0, 1, 0, 0, 1, 0, 0, 1, 0])).toList.take 16).toArray) (Opq (regOps (sub (Try.f102.body.getD .skip) [1, 1, 1, 1, 0, 1, 0, 0, 1, 0, 0, 1, 0]))) rfl rfl rfl (by kernel_rfl) (by kernel_rfl) (by kernel_rfl) (by kernel_rfl) (by kernel_rfl) (by kernel_rfl) (by kernel_rfl) (by kernel_rfl) (by kernel_rfl) (by kernel_rfl) (by kernel_rfl) [0, 0, 2, 0, 12, 17, 0, 96, 128, 416, 0, 1024, 0, 4096, 10240, 16896] [0, 0, 2, 0, 12, 17, 0, 96, 128, 416, 0, 1024, 0, 4096, 10240, 16896, 65535, 131071] (by kernel_rfl) (by kernel_rfl) (by kernel_rfl) (by kernel_rfl) (fun W' => W'.cell? ⟨b, 1, none⟩ = some (a.sN)) fun ds Q' Qh hQn hQT => ?_
  have F0 : Fr (none :: some (.slice A n cb) :: some (.pointer (some ⟨b, 0, none⟩)) :: none :: none :: some (iv n) :: some (iv v6) :: some (iv s) :: some (.pointer (some ⟨b8, 0, none⟩)) :: none :: none :: o4 (o4 (o4 (o16 (o16 (o16 [])))))) ds { tmps := t, defers := ds } := Fr.start hSl
  clear hSl
  generalize ({ tmps := t, defers := ds } : Act) = a0 at *
  generalize W.drew = X0 at *
  refine tr_take c9_1t (.pointer (some ⟨b, 1, none⟩)) (by kernel_rfl) rfl rfl (fun wq hq => ?_) (hT0.cell 0 rfl rfl) ?_; (focus (have e2 : a0.eval (.tmp 2) = (.pointer (some ⟨b, 0, none⟩)) := F0.ev 2 (by kernel_rfl); generalize a0.eval = ev at e2 ⊢; simp [go_sem, mkO, c9_1t, e2, hu25]; done))
  refine F0.next 26 (.pointer (some ⟨b, 1, none⟩)) fun a1 F1 => ?_
  clear F0
  refine tr_take c9_2t (.slice (some ad) a.N.length a.cN) (by kernel_rfl) rfl rfl (fun wq hq => ?_) (hT0.cell 0 rfl rfl) ?_; (focus (have e26 : a1.eval (.tmp 26) = (.pointer (some ⟨b, 1, none⟩)) := F1.ev 26 (by kernel_rfl); generalize a1.eval = ev at e26 ⊢; simp [go_sem, mkO, c9_2t, e26, hq, XP.sN, hA]; done))
  refine F1.next 27 (.slice (some ad) a.N.length a.cN) fun a2 F2 => ?_
  clear F1 a1
  refine tr_take c9_3t (iv n) (by kernel_rfl) rfl rfl (fun wq hq => ?_) (hT0.cell 0 rfl rfl) ?_; (focus (have e5 : a2.eval (.tmp 5) = (iv n) := F2.ev 5 (by kernel_rfl); generalize a2.eval = ev at e5 ⊢; simp [go_sem, mkO, c9_3t, e5]; done))
  refine F2.next 28 (iv n) fun a3 F3 => ?_
  clear F2 a2
  refine tr_take c9_4t (.slice (some ad) n a.cN) (by kernel_rfl) rfl rfl (fun wq hq => ?_) (hT0.cell 0 rfl rfl) ?_; (focus (have e27 : a3.eval (.tmp 27) = (.slice (some ad) a.N.length a.cN) := F3.ev 27 (by kernel_rfl); have e28 : a3.eval (.tmp 28) = (iv n) := F3.ev 28 (by kernel_rfl); generalize a3.eval = ev at e27 e28 ⊢; simp [go_sem, mkO, c9_4t, e27, e28, hu22, hi0, hz1, hnc, hc0, had0]; done))
  refine F3.next 29 (.slice (some ad) n a.cN) fun a4 F4 => ?_
  clear F3 a3
  refine tr_take c9_6t (iv s) (by kernel_rfl) rfl rfl (fun wq hq => ?_) (hT0.cell 0 rfl rfl) ?_; (focus (have e7 : a4.eval (.tmp 7) = (iv s) := F4.ev 7 (by kernel_rfl); generalize a4.eval = ev at e7 ⊢; simp [go_sem, mkO, c9_6t, e7]; done))
  refine F4.next 31 (iv s) fun a5 F5 => ?_
  clear F4 a4
  refine tr_take c9_10t (.pointer (some ⟨b, 1, none⟩)) (by kernel_rfl) rfl rfl (fun wq hq => ?_) (hT0.cell 0 rfl rfl) ?_; (focus (have e2 : a5.eval (.tmp 2) = (.pointer (some ⟨b, 0, none⟩)) := F5.ev 2 (by kernel_rfl); generalize a5.eval = ev at e2 ⊢; simp [go_sem, mkO, c9_10t, e2, hu25]; done))
  refine F5.next 35 (.pointer (some ⟨b, 1, none⟩)) fun a6 F6 => ?_
  clear F5 a5
  refine tr_take c9_11t (.slice (some ad) a.N.length a.cN) (by kernel_rfl) rfl rfl (fun wq hq => ?_) (hT0.cell 0 rfl rfl) ?_; (focus (have e35 : a6.eval (.tmp 35) = (.pointer (some ⟨b, 1, none⟩)) := F6.ev 35 (by kernel_rfl); generalize a6.eval = ev at e35 ⊢; simp [go_sem, mkO, c9_11t, e35, hq, XP.sN, hA]; done))
  refine F6.next 36 (.slice (some ad) a.N.length a.cN) fun a7 F7 => ?_
  clear F6 a6
  refine tr_take c9_12t (iv n) (by kernel_rfl) rfl rfl (fun wq hq => ?_) (hT0.cell 0 rfl rfl) ?_; (focus (have e5 : a7.eval (.tmp 5) = (iv n) := F7.ev 5 (by kernel_rfl); generalize a7.eval = ev at e5 ⊢; simp [go_sem, mkO, c9_12t, e5]; done))
  refine F7.next 37 (iv n) fun a8 F8 => ?_
  clear F7 a7
  refine tr_take c9_13t (iv (n + 1)) (by kernel_rfl) rfl rfl (fun wq hq => ?_) (hT0.cell 0 rfl rfl) ?_; (focus (have e37 : a8.eval (.tmp 37) = (iv n) := F8.ev 37 (by kernel_rfl); have ec : ∀ c, a8.eval (.const c) = c := fun _ => rfl; generalize a8.eval = ev at e37 ec ⊢; simp [go_sem, mkO, c9_13t, ec, e37, hw]; done))
  refine F8.next 38 (iv (n + 1)) fun a9 F9 => ?_
  clear F8 a8
  refine tr_take c9_14t (.slice A2 m (a.cN - (n + 1))) (by kernel_rfl) rfl rfl (fun wq hq => ?_) (hT0.cell 0 rfl rfl) ?_; (focus (have e36 : a9.eval (.tmp 36) = (.slice (some ad) a.N.length a.cN) := F9.ev 36 (by kernel_rfl); have e38 : a9.eval (.tmp 38) = (iv (n + 1)) := F9.ev 38 (by kernel_rfl); generalize a9.eval = ev at e36 e38 ⊢; simp [go_sem, mkO, c9_14t, e36, e38, hu22, hi0, hz1, hlo0, hlo, hA2s, hmm]; done))
  refine F9.next 39 (.slice A2 m (a.cN - (n + 1))) fun a10 F10 => ?_
  clear F9 a9
  have hT1 : Tr w W (X0.alloc (.cells #[] 3)) [(X0.heap.size, .cells #[] 3 (0, 0)), (b, .cells #[a.sL, a.sN, a.sK] 25 (0, 0)), (b8, .cells #[a.sL, a.sN, a.sK] 25 (0, 0))] := hT0.alloc (.cells #[] 3)
  refine tr_make c9_0 (.slice (some ⟨X0.heap.size, 0, none⟩) 0 0) (X0.alloc (.cells #[] 3)) (by kernel_rfl) rfl rfl ?_ (hT1.cell 1 rfl rfl) ?_; (focus (simp [go_sem, mkO, c9_0, hu22]; done))
  obtain ⟨zC, hgzC⟩ : ∃ b, X0.heap.size = b := ⟨_, rfl⟩
  simp only [hgzC] at hT1 ⊢
  generalize X0.alloc (.cells #[] 3) = X1 at *
  clear hgzC hT0
  clear X0
  refine F10.next 25 (.slice (some ⟨zC, 0, none⟩) 0 0) fun a11 F11 => ?_
  clear F10 a10
  obtain ⟨gC, cC, cuC, X2, hrun, hTa, hoC, hba⟩ := hT1.app_nat 0 rfl (A := some ad) (L := a.s3.2.1.take n) (n := n) (c := a.cN) (row_take (hrow _ hT1.below) n) (by rw [List.length_take]; omega) (by rw [List.length_take]; omega) 22
  have hT2 : Tr w W X2 [(gC, .cells (cuC).toArray 3 (0, 0)), (b, .cells #[a.sL, a.sN, a.sK] 25 (0, 0)), (b8, .cells #[a.sL, a.sN, a.sK] 25 (0, 0))] := hTa
  clear hTa
  refine tr_make c9_5 (.slice (some ⟨gC, 0, none⟩) n cC) X2 (by kernel_rfl) rfl rfl (exec_append _ _ 22 rfl (F11.ev 25 (by kernel_rfl)) (F11.ev 29 (by kernel_rfl)) hrun) (hT2.cell 1 rfl rfl) ?_
  clear hrun hba hT1
  clear X1
  refine F11.next 30 (.slice (some ⟨gC, 0, none⟩) n cC) fun a12 F12 => ?_
  clear F11 a11
  refine tr_call c9_7 (f := 30) (args := #[iv s]) (by kernel_rfl) rfl rfl ?_ ?_
  · (have e31 : a12.eval (.tmp 31) = (iv s) := F12.ev 31 (by kernel_rfl); have ef : ∀ f, a12.eval (.func f) = .func (.func f) #[] #[] := fun _ => rfl; generalize a12.eval = ev at e31 ef ⊢; simp [go_sem, mkO, c9_7, ef, e31]; done)
  refine (size30 s hs X2).mono ?_
  rintro e X3 ⟨rfl, hy⟩
  have hT3 := hT2.step hy
  replace hoC := own_grow hoC (Grow.of_below (B := 0) hy)
  refine .inl ⟨_, rfl, (hT3.cell 1 rfl rfl), ?_⟩
  clear hy hT2
  clear X2
  refine F12.next 32 (iv (pop s)) fun a13 F13 => ?_
  clear F12 a12
  have hT4 : Tr w W (X3.alloc (.cells #[iv (pop s)] 3)) [(X3.heap.size, .cells #[iv (pop s)] 3 (0, 0)), (gC, .cells (cuC).toArray 3 (0, 0)), (b, .cells #[a.sL, a.sN, a.sK] 25 (0, 0)), (b8, .cells #[a.sL, a.sN, a.sK] 25 (0, 0))] := hT3.alloc (.cells #[iv (pop s)] 3)
  refine tr_make c9_8 (.slice (some ⟨X3.heap.size, 0, none⟩) 1 1) (X3.alloc (.cells #[iv (pop s)] 3)) (by kernel_rfl) rfl rfl ?_ (hT4.cell 2 rfl rfl) ?_; (focus (have e32 : a13.eval (.tmp 32) = (iv (pop s)) := F13.ev 32 (by kernel_rfl); generalize a13.eval = ev at e32 ⊢; simp [go_sem, mkO, c9_8, e32, hu22]; done))
  replace hoC := World.ownsRow.alloc hoC (.cells #[iv (pop s)] 3)
  obtain ⟨gs, hggs⟩ : ∃ b, X3.heap.size = b := ⟨_, rfl⟩
  simp only [hggs] at hT4 ⊢
  generalize X3.alloc (.cells #[iv (pop s)] 3) = X4 at *
  clear hggs hT3
  clear X3
  refine F13.next 33 (.slice (some ⟨gs, 0, none⟩) 1 1) fun a14 F14 => ?_
  clear F13 a13
  have hne := Tr.own_ne (hT4.drop (m := [(gC, .cells (cuC).toArray 3 (0, 0)), (b, .cells #[a.sL, a.sN, a.sK] 25 (0, 0)), (b8, .cells #[a.sL, a.sN, a.sK] 25 (0, 0))]) (List.Sublist.cons _ (List.Sublist.refl _))) n cC
  obtain ⟨gD, cD, X5, hrun, hTa, hoD, hnD⟩ := (hT4.drop (m := [(gs, .cells #[iv (pop s)] 3 (0, 0)), (b, .cells #[a.sL, a.sN, a.sK] 25 (0, 0)), (b8, .cells #[a.sL, a.sN, a.sK] 25 (0, 0))]) (List.Sublist.cons_cons _ (List.Sublist.cons _ (List.Sublist.refl _)))).app_oneN (K := a.s3.2.1.take n) (by rw [List.length_take]; omega) hoC hne (by omega)
  have hT5 : Tr w W X5 [(b, .cells #[a.sL, a.sN, a.sK] 25 (0, 0)), (b8, .cells #[a.sL, a.sN, a.sK] 25 (0, 0))] := hTa
  clear hTa hoC hne
  refine tr_make c9_9 (.slice (some ⟨gD, 0, none⟩) (n + 1) cD) X5 (by kernel_rfl) rfl rfl (exec_append _ _ 22 rfl (F14.ev 30 (by kernel_rfl)) (F14.ev 33 (by kernel_rfl)) hrun) (hT5.cell 0 rfl rfl) ?_
  clear hrun hT4
  clear X4
  refine F14.next 34 (.slice (some ⟨gD, 0, none⟩) (n + 1) cD) fun a15 F15 => ?_
  clear F14 a14
  obtain ⟨gE, cE, X6, hrun, hTa, hoE, hnE⟩ := hT5.app_rest (n := n + 1) (m := m) (K := a.s3.2.1.take n ++ [pop s]) (L := a.s3.2.1.drop (n + 1)) (c := a.cN - (n + 1)) (by rw [List.length_append, List.length_take, List.length_singleton]; omega) (Nat.succ_pos n) hoD (fun p hp e => hnD p hp (by simpa [Value.ownBlock] using e.symm)) (by rw [List.length_drop]; omega) (row_drop (hrow _ hT5.below) hA2 (by omega)) (by omega)
  have hT6 : Tr w W X6 [(b, .cells #[a.sL, a.sN, a.sK] 25 (0, 0)), (b8, .cells #[a.sL, a.sN, a.sK] 25 (0, 0))] := hTa
  have hgE : b8 ≠ gE := hnE _ (List.mem_of_getElem? (i := 1) rfl)
  clear hTa hoD hnD hnE
  refine tr_make c9_15 (.slice (some ⟨gE, 0, none⟩) (n + 1 + m) cE) X6 (by kernel_rfl) rfl rfl (exec_append _ _ 22 rfl (F15.ev 34 (by kernel_rfl)) (F15.ev 39 (by kernel_rfl)) hrun) (hT6.cell 0 rfl rfl) ?_
  clear hrun hT5
  clear X5
  refine F15.next 40 (.slice (some ⟨gE, 0, none⟩) (n + 1 + m) cE) fun a16 F16 => ?_
  clear F15 a15
  refine hQT _ _ ?_
  refine tr_make c9_16 (.pointer (some ⟨b8, 1, none⟩)) X6 (by kernel_rfl) rfl rfl ?_ trivial ?_; (focus (have e8 : a16.eval (.tmp 8) = (.pointer (some ⟨b8, 0, none⟩)) := F16.ev 8 (by kernel_rfl); generalize a16.eval = ev at e8 ⊢; simp [go_sem, mkO, c9_16, e8, hu25]; done))
  refine F16.next 41 (.pointer (some ⟨b8, 1, none⟩)) fun a17 F17 => ?_
  clear F16 a16
  have hz := hT6.fz 1 rfl
  have hc0 : X6.cell? ⟨b8, 1, none⟩ = some (a.sN) := hT6.cell 1 rfl rfl
  have hT7 : Tr w W (X6.setCell ⟨b8, 1, none⟩ (.slice (some ⟨gE, 0, none⟩) (n + 1 + m) cE)) [(b, .cells #[a.sL, a.sN, a.sK] 25 (0, 0)), (b8, .cells #[a.sL, .slice (some ⟨gE, 0, none⟩) (n + 1 + m) cE, a.sK] 25 (0, 0))] := (hT6.set 1 rfl 1 (.slice (some ⟨gE, 0, none⟩) (n + 1 + m) cE))
  refine tr_store c9_17 (X6.setCell ⟨b8, 1, none⟩ (.slice (some ⟨gE, 0, none⟩) (n + 1 + m) cE)) (by kernel_rfl) rfl rfl ?_ trivial ?_; (focus (have e40 : a17.eval (.tmp 40) = (.slice (some ⟨gE, 0, none⟩) (n + 1 + m) cE) := F17.ev 40 (by kernel_rfl); have e41 : a17.eval (.tmp 41) = (.pointer (some ⟨b8, 1, none⟩)) := F17.ev 41 (by kernel_rfl); generalize a17.eval = ev at e40 e41 ⊢; simp [go_sem, mkO, c9_17, e40, e41, hz, hc0]; done))
  replace hoE := own_off hoE (j := 1) (u := .slice (some ⟨gE, 0, none⟩) (n + 1 + m) cE) (fun q e => by simp only [Value.ownBlock, Option.some.injEq] at e; subst e; exact fun c => hgE c.symm)
  clear hz hc0
  generalize (X6.setCell ⟨b8, 1, none⟩ (.slice (some ⟨gE, 0, none⟩) (n + 1 + m) cE)) = X7 at *
  clear hT6
  clear X6
  show seqT _ _ _ _ _ a17 _
  exact F17.out hQn hT7.keep ⟨gE, cE, hT7.again, hoE, (F17.fin [25, 26, 27, 28, 29, 30, 31, 32, 33, 34, 35, 36, 37, 38, 39, 40, 41] (by kernel_rfl))⟩
end Go.Proofs.Ytbdmmikflkpmpaa
end

section
namespace Go.Proofs.Ytbdmmikflkpmpaa
open Go.RowKit Go.TL Go.Shelf Go.Pn
def XP.put (a : XP) (g c : Nat) (l : List Nat) : XP := { a with AN := some ⟨g, 0, none⟩, cN := c, N := l.map fun n : Nat => (n : Int) }
theorem XP.put_needs (a : XP) (g c : Nat) (l : List Nat) : (a.put g c l).s3.2.1 = l := by
  show (l.map fun n : Nat => (n : Int)).map Int.toNat = l
  rw [List.map_map]
  conv => rhs; rw [← List.map_id l]
  exact List.map_congr_left fun n _ => Int.toNat_natCast n
theorem XP.put_fits (a : XP) (g c : Nat) (l : List Nat) (b : List Nat) (s : Nat) : fitsF (a.put g c l) b b.length s = ((List.range a.L.length).all (fitJ a b b.length s) && decide (pop s = l.getD b.length 0)) := by
  unfold fitsF
  rw [XP.put_needs]
  rfl
theorem XP.put_fine {a : XP} (hf : a.Fine) (g c : Nat) {l : List Nat} (hl : l.length = a.N.length) (h3 : ∀ n ∈ l, n ≤ 3) : (a.put g c l).Fine := by
  refine ⟨hf.j, by show (l.map _).length ≤ 6; rw [List.length_map, hl]; exact hf.p, hf.k, hf.lb, ?_, ?_⟩
  · intro y hy
    obtain ⟨n, hn, rfl⟩ := List.mem_map.1 hy
    have := h3 n hn
    omega
  · intro y hy
    have := hf.kb y hy
    show _ ∧ _ ∧ y.2 < ((l.map _).length : Int)
    rw [List.length_map, hl]
    exact this
def ct10_0t : It := ⟨(Op.move (Operand.tmp 7)), some 42, 3, true, none⟩
def ct10_2t : It := ⟨(Op.fieldAddr 25 (Operand.tmp 2) 1), some 44, 0, true, none⟩
def ct10_3t : It := ⟨(Op.load 22 (Operand.tmp 44)), some 45, 22, true, none⟩
def ct10_4t : It := ⟨(Op.move (Operand.tmp 5)), some 46, 3, true, none⟩
def ct10_5t : It := ⟨(Op.indexAddr 22 (Operand.tmp 45) (Operand.tmp 46)), some 47, 0, true, none⟩
def ct10_6t : It := ⟨(Op.load 3 (Operand.tmp 47)), some 48, 3, true, none⟩
def ct10_1 : It := ⟨(Op.call { callee := (Callee.value (Operand.func 30)), args := #[(Operand.tmp 42)], argTypes := #[3] }), some 43, 3, false, none⟩
def ct10_7 : It := ⟨(Op.binOp BinOp.leq 3 (Operand.tmp 43) (Operand.tmp 48) 3), some 49, 4, false, none⟩
def ct10_8 : It := ⟨(Op.move (Operand.tmp 49)), some 50, 4, false, none⟩
def ct10_9t : It := ⟨(Op.load 25 (Operand.tmp 8)), some 51, 25, true, some (50, true)⟩
def ct10_10t : It := ⟨(Op.move (Operand.tmp 1)), some 52, 22, true, some (50, true)⟩
def ct10_11t : It := ⟨(Op.move (Operand.tmp 5)), some 53, 3, true, some (50, true)⟩
def ct10_12 : It := ⟨(Op.move (Operand.tmp 7)), some 54, 3, false, some (50, true)⟩
def ct10_13 : It := ⟨(Op.call { callee := (Callee.value (Operand.func 111)), args := #[(Operand.tmp 51), (Operand.tmp 52), (Operand.tmp 53), (Operand.tmp 54)], argTypes := #[25, 22, 3, 3] }), some 55, 4, false, some (50, true)⟩
def ct10_14 : It := ⟨(Op.pick (Operand.tmp 50) (Operand.tmp 55) (Operand.const (Value.bool false))), some 56, 4, false, none⟩
set_option maxRecDepth 100000 in
set_option maxHeartbeats 4000000 in
theorem seats_r10t {w W : World} {a : XP} {A : Option Addr} {b b8 cb n s v6 nv : Nat} {sE : Value} {ad : Addr} {q : Bool} (hs : s < 1024) (hA : a.AN = some ad) (hn : n < a.N.length) (hck : ∀ Y, Below w.heap.size w Y → Y.cell? (ad.add n) = some (iv nv)) (hpn : decide (pop s ≤ nv) = true) (hfit : ∀ X, Below W.heap.size W X → Calls Try.prog 111 #[.agg #[a.sL, sE, a.sK], .slice A n cb, iv n, iv s] X fun e Z => e = .returned (.bool q) ∧ Below X.heap.size X Z) (hT : Tr w W W [(b, .cells #[a.sL, a.sN, a.sK] 25 (0, 0)), (b8, .cells #[a.sL, sE, a.sK] 25 (0, 0))]) {t : Array Value} (hSl : Slots (none :: some (.slice A n cb) :: some (.pointer (some ⟨b, 0, none⟩)) :: none :: none :: some (iv n) :: some (iv v6) :: some (iv s) :: some (.pointer (some ⟨b8, 0, none⟩)) :: none :: none :: o4 (o4 (o4 (o16 (o16 (o16 [])))))) t) :
    Exec Try.prog none (sub (Try.f102.body.getD .skip) [1, 1, 1, 1, 0, 1, 0, 0, 1, 0, 0, 1, 1, 0]) t W (andThen (fun t' W' => Tr w W' W' [(b, .cells #[a.sL, a.sN, a.sK] 25 (0, 0)), (b8, .cells #[a.sL, sE, a.sK] 25 (0, 0))] ∧ Below W.heap.size W W' ∧ Slots (none :: some (.slice A n cb) :: some (.pointer (some ⟨b, 0, none⟩)) :: none :: none :: some (iv n) :: some (iv v6) :: some (iv s) :: some (.pointer (some ⟨b8, 0, none⟩)) :: none :: none :: none :: o4 (o4 (o4 (o16 (o16 (some (.bool q) :: none :: none :: o4 (o4 (o4 [])))))))) t') fun _ _ _ => False) := by
  have hu25 := Try.underlying25
  have hu22 := Try.underlying22
  have hnI : (n : Int) < a.N.length := by omega
  have hle : decide (((pop s : Nat) : Int) ≤ (nv : Int)) = true := by rw [← hpn]; exact decide_eq_decide.2 (by omega)
  have hle2 : pop s ≤ nv := by simpa using hpn
  have hbw : Below W.heap.size W W.drew := (Below.refl _ W).drew
  have hT0 := hT.again.drew
  refine region_tree (c := (sub (Try.f102.body.getD .skip) [1, 1, 1, 1, 0, 1, 0, 0, 1, 0, 0, 1, 1, 0])) (id := 10) (.one 0 true (.one 2 true (.one 3 true (.one 4 true (.one 5 true (.one 6 true (.one 1 false (.one 7 false (.one 8 false (.one 9 true (.one 10 true (.one 11 true (.one 12 false (.one 13 false (.one 14 false (.nil)))))))))))))))) (Opq (regOps (sub (Try.f102.body.getD .skip) [1, 1, 1, 1, 0, 1, 0, 0, 1, 0, 0, 1, 1, 0]))) rfl (by kernel_rfl) (by kernel_rfl) (by kernel_rfl) (by kernel_rfl) (by kernel_rfl) (by kernel_rfl) [0, 1, 0, 4, 0, 24, 32, 66, 130, 256, 256, 256, 256, 7936, 8448] (by kernel_rfl) (by kernel_rfl) (fun W' => W'.cell? ⟨b, 1, none⟩ = some (a.sN) ∧ W'.cell? ⟨b8, 0, none⟩ = some (a.sL) ∧ W'.cell? ⟨b8, 1, none⟩ = some (sE) ∧ W'.cell? ⟨b8, 2, none⟩ = some (a.sK) ∧ W'.cell? (ad.add n) = some (iv nv)) (fun _ _ _ => False) (fun _ _ _ h => h.elim) (fun _ _ _ _ _ _ _ _ h => h.elim) fun ds Q' hQn hQp => ?_
  have F0 : Fr (none :: some (.slice A n cb) :: some (.pointer (some ⟨b, 0, none⟩)) :: none :: none :: some (iv n) :: some (iv v6) :: some (iv s) :: some (.pointer (some ⟨b8, 0, none⟩)) :: none :: none :: o4 (o4 (o4 (o16 (o16 (o16 [])))))) ds { tmps := t, defers := ds } := Fr.start hSl
  clear hSl
  generalize ({ tmps := t, defers := ds } : Act) = a0 at *
  generalize W.drew = X0 at *
  refine tr_take ct10_0t (iv s) (by kernel_rfl) rfl rfl (fun wq hq => ?_) ⟨hT0.cell 0 rfl rfl, hT0.cell 1 rfl rfl, hT0.cell 1 rfl rfl, hT0.cell 1 rfl rfl, (hck _ hT0.below)⟩ ?_; (focus (have e7 : a0.eval (.tmp 7) = (iv s) := F0.ev 7 (by kernel_rfl); generalize a0.eval = ev at e7 ⊢; simp [go_sem, mkO, ct10_0t, e7]; done))
  refine F0.next 42 (iv s) fun a1 F1 => ?_
  clear F0
  refine tr_take ct10_2t (.pointer (some ⟨b, 1, none⟩)) (by kernel_rfl) rfl rfl (fun wq hq => ?_) ⟨hT0.cell 0 rfl rfl, hT0.cell 1 rfl rfl, hT0.cell 1 rfl rfl, hT0.cell 1 rfl rfl, (hck _ hT0.below)⟩ ?_; (focus (have e2 : a1.eval (.tmp 2) = (.pointer (some ⟨b, 0, none⟩)) := F1.ev 2 (by kernel_rfl); generalize a1.eval = ev at e2 ⊢; simp [go_sem, mkO, ct10_2t, e2, hu25]; done))
  refine F1.next 44 (.pointer (some ⟨b, 1, none⟩)) fun a2 F2 => ?_
  clear F1 a1
  refine tr_take ct10_3t (.slice (some ad) a.N.length a.cN) (by kernel_rfl) rfl rfl (fun wq hq => ?_) ⟨hT0.cell 0 rfl rfl, hT0.cell 1 rfl rfl, hT0.cell 1 rfl rfl, hT0.cell 1 rfl rfl, (hck _ hT0.below)⟩ ?_; (focus (have e44 : a2.eval (.tmp 44) = (.pointer (some ⟨b, 1, none⟩)) := F2.ev 44 (by kernel_rfl); generalize a2.eval = ev at e44 ⊢; simp [go_sem, mkO, ct10_3t, e44, hq.1, XP.sN, hA]; done))
  refine F2.next 45 (.slice (some ad) a.N.length a.cN) fun a3 F3 => ?_
  clear F2 a2
  refine tr_take ct10_4t (iv n) (by kernel_rfl) rfl rfl (fun wq hq => ?_) ⟨hT0.cell 0 rfl rfl, hT0.cell 1 rfl rfl, hT0.cell 1 rfl rfl, hT0.cell 1 rfl rfl, (hck _ hT0.below)⟩ ?_; (focus (have e5 : a3.eval (.tmp 5) = (iv n) := F3.ev 5 (by kernel_rfl); generalize a3.eval = ev at e5 ⊢; simp [go_sem, mkO, ct10_4t, e5]; done))
  refine F3.next 46 (iv n) fun a4 F4 => ?_
  clear F3 a3
  refine tr_take ct10_5t (.pointer (some (ad.add n))) (by kernel_rfl) rfl rfl (fun wq hq => ?_) ⟨hT0.cell 0 rfl rfl, hT0.cell 1 rfl rfl, hT0.cell 1 rfl rfl, hT0.cell 1 rfl rfl, (hck _ hT0.below)⟩ ?_; (focus (have e45 : a4.eval (.tmp 45) = (.slice (some ad) a.N.length a.cN) := F4.ev 45 (by kernel_rfl); have e46 : a4.eval (.tmp 46) = (iv n) := F4.ev 46 (by kernel_rfl); generalize a4.eval = ev at e45 e46 ⊢; simp [go_sem, mkO, ct10_5t, e45, e46, hu22, hnI]; done))
  refine F4.next 47 (.pointer (some (ad.add n))) fun a5 F5 => ?_
  clear F4 a4
  refine tr_take ct10_6t (iv nv) (by kernel_rfl) rfl rfl (fun wq hq => ?_) ⟨hT0.cell 0 rfl rfl, hT0.cell 1 rfl rfl, hT0.cell 1 rfl rfl, hT0.cell 1 rfl rfl, (hck _ hT0.below)⟩ ?_; (focus (have e47 : a5.eval (.tmp 47) = (.pointer (some (ad.add n))) := F5.ev 47 (by kernel_rfl); generalize a5.eval = ev at e47 ⊢; simp [go_sem, mkO, ct10_6t, e47, hq.2.2.2.2]; done))
  refine F5.next 48 (iv nv) fun a6 F6 => ?_
  clear F5 a5
  refine tr_call ct10_1 (f := 30) (args := #[iv s]) (by kernel_rfl) rfl rfl ?_ ?_
  · (have e42 : a6.eval (.tmp 42) = (iv s) := F6.ev 42 (by kernel_rfl); have ef : ∀ f, a6.eval (.func f) = .func (.func f) #[] #[] := fun _ => rfl; generalize a6.eval = ev at e42 ef ⊢; simp [go_sem, mkO, ct10_1, ef, e42]; done)
  refine (size30 s hs X0).mono ?_
  rintro e X1 ⟨rfl, hy⟩
  have hT1 := hT0.step hy
  replace hbw := hbw.trans (hy.mono hbw.size)
  refine .inl ⟨_, rfl, ⟨hT1.cell 0 rfl rfl, hT1.cell 1 rfl rfl, hT1.cell 1 rfl rfl, hT1.cell 1 rfl rfl, (hck _ hT1.below)⟩, ?_⟩
  clear hy hT0
  clear X0
  refine F6.next 43 (iv (pop s)) fun a7 F7 => ?_
  clear F6 a6
  refine tr_make ct10_7 (.bool true) _ (by kernel_rfl) rfl rfl ?_ ⟨hT1.cell 0 rfl rfl, hT1.cell 1 rfl rfl, hT1.cell 1 rfl rfl, hT1.cell 1 rfl rfl, (hck _ hT1.below)⟩ ?_; (focus (have hq := (show (fun W' : World => W'.cell? ⟨b, 1, none⟩ = some (a.sN) ∧ W'.cell? ⟨b8, 0, none⟩ = some (a.sL) ∧ W'.cell? ⟨b8, 1, none⟩ = some (sE) ∧ W'.cell? ⟨b8, 2, none⟩ = some (a.sK) ∧ W'.cell? (ad.add n) = some (iv nv)) X1 from ⟨hT1.cell 0 rfl rfl, hT1.cell 1 rfl rfl, hT1.cell 1 rfl rfl, hT1.cell 1 rfl rfl, (hck _ hT1.below)⟩); have e43 : a7.eval (.tmp 43) = (iv (pop s)) := F7.ev 43 (by kernel_rfl); have e48 : a7.eval (.tmp 48) = (iv nv) := F7.ev 48 (by kernel_rfl); generalize a7.eval = ev at e43 e48 ⊢; simp [go_sem, mkO, ct10_7, e43, e48, hle, hle2]; done))
  refine F7.next 49 (.bool true) fun a8 F8 => ?_
  clear F7 a7
  refine tr_make ct10_8 (.bool true) _ (by kernel_rfl) rfl rfl ?_ ⟨hT1.cell 0 rfl rfl, hT1.cell 1 rfl rfl, hT1.cell 1 rfl rfl, hT1.cell 1 rfl rfl, (hck _ hT1.below)⟩ ?_; (focus (have hq := (show (fun W' : World => W'.cell? ⟨b, 1, none⟩ = some (a.sN) ∧ W'.cell? ⟨b8, 0, none⟩ = some (a.sL) ∧ W'.cell? ⟨b8, 1, none⟩ = some (sE) ∧ W'.cell? ⟨b8, 2, none⟩ = some (a.sK) ∧ W'.cell? (ad.add n) = some (iv nv)) X1 from ⟨hT1.cell 0 rfl rfl, hT1.cell 1 rfl rfl, hT1.cell 1 rfl rfl, hT1.cell 1 rfl rfl, (hck _ hT1.below)⟩); have e49 : a8.eval (.tmp 49) = (.bool true) := F8.ev 49 (by kernel_rfl); generalize a8.eval = ev at e49 ⊢; simp [go_sem, mkO, ct10_8, e49]; done))
  refine F8.next 50 (.bool true) fun a9 F9 => ?_
  clear F8 a8
  refine tr_take ct10_9t (.agg #[a.sL, sE, a.sK]) (by kernel_rfl) rfl (F9.gd (by kernel_rfl)) (fun wq hq => ?_) ⟨hT1.cell 0 rfl rfl, hT1.cell 1 rfl rfl, hT1.cell 1 rfl rfl, hT1.cell 1 rfl rfl, (hck _ hT1.below)⟩ ?_; (focus (have e8 : a9.eval (.tmp 8) = (.pointer (some ⟨b8, 0, none⟩)) := F9.ev 8 (by kernel_rfl); generalize a9.eval = ev at e8 ⊢; simp [go_sem, mkO, ct10_9t, e8, hu25, hq.2.1, hq.2.2.1, hq.2.2.2.1]; done))
  refine F9.next 51 (.agg #[a.sL, sE, a.sK]) fun a10 F10 => ?_
  clear F9 a9
  refine tr_take ct10_10t (.slice A n cb) (by kernel_rfl) rfl (F10.gd (by kernel_rfl)) (fun wq hq => ?_) ⟨hT1.cell 0 rfl rfl, hT1.cell 1 rfl rfl, hT1.cell 1 rfl rfl, hT1.cell 1 rfl rfl, (hck _ hT1.below)⟩ ?_; (focus (have e1 : a10.eval (.tmp 1) = (.slice A n cb) := F10.ev 1 (by kernel_rfl); generalize a10.eval = ev at e1 ⊢; simp [go_sem, mkO, ct10_10t, e1]; done))
  refine F10.next 52 (.slice A n cb) fun a11 F11 => ?_
  clear F10 a10
  refine tr_take ct10_11t (iv n) (by kernel_rfl) rfl (F11.gd (by kernel_rfl)) (fun wq hq => ?_) ⟨hT1.cell 0 rfl rfl, hT1.cell 1 rfl rfl, hT1.cell 1 rfl rfl, hT1.cell 1 rfl rfl, (hck _ hT1.below)⟩ ?_; (focus (have e5 : a11.eval (.tmp 5) = (iv n) := F11.ev 5 (by kernel_rfl); generalize a11.eval = ev at e5 ⊢; simp [go_sem, mkO, ct10_11t, e5]; done))
  refine F11.next 53 (iv n) fun a12 F12 => ?_
  clear F11 a11
  refine tr_make ct10_12 (iv s) _ (by kernel_rfl) rfl (F12.gd (by kernel_rfl)) ?_ ⟨hT1.cell 0 rfl rfl, hT1.cell 1 rfl rfl, hT1.cell 1 rfl rfl, hT1.cell 1 rfl rfl, (hck _ hT1.below)⟩ ?_; (focus (have hq := (show (fun W' : World => W'.cell? ⟨b, 1, none⟩ = some (a.sN) ∧ W'.cell? ⟨b8, 0, none⟩ = some (a.sL) ∧ W'.cell? ⟨b8, 1, none⟩ = some (sE) ∧ W'.cell? ⟨b8, 2, none⟩ = some (a.sK) ∧ W'.cell? (ad.add n) = some (iv nv)) X1 from ⟨hT1.cell 0 rfl rfl, hT1.cell 1 rfl rfl, hT1.cell 1 rfl rfl, hT1.cell 1 rfl rfl, (hck _ hT1.below)⟩); have e7 : a12.eval (.tmp 7) = (iv s) := F12.ev 7 (by kernel_rfl); generalize a12.eval = ev at e7 ⊢; simp [go_sem, mkO, ct10_12, e7]; done))
  refine F12.next 54 (iv s) fun a13 F13 => ?_
  clear F12 a12
  refine tr_call ct10_13 (f := 111) (args := #[.agg #[a.sL, sE, a.sK], .slice A n cb, iv n, iv s]) (by kernel_rfl) rfl (F13.gd (by kernel_rfl)) ?_ ?_
  · (have e51 : a13.eval (.tmp 51) = (.agg #[a.sL, sE, a.sK]) := F13.ev 51 (by kernel_rfl); have e52 : a13.eval (.tmp 52) = (.slice A n cb) := F13.ev 52 (by kernel_rfl); have e53 : a13.eval (.tmp 53) = (iv n) := F13.ev 53 (by kernel_rfl); have e54 : a13.eval (.tmp 54) = (iv s) := F13.ev 54 (by kernel_rfl); have ef : ∀ f, a13.eval (.func f) = .func (.func f) #[] #[] := fun _ => rfl; generalize a13.eval = ev at e51 e52 e53 e54 ef ⊢; simp [go_sem, mkO, ct10_13, ef, e51, e52, e53, e54]; done)
  refine (hfit X1 hbw).mono ?_
  rintro e X2 ⟨rfl, hy⟩
  have hT2 := hT1.step hy
  replace hbw := hbw.trans (hy.mono hbw.size)
  refine .inl ⟨_, rfl, ⟨hT2.cell 0 rfl rfl, hT2.cell 1 rfl rfl, hT2.cell 1 rfl rfl, hT2.cell 1 rfl rfl, (hck _ hT2.below)⟩, ?_⟩
  clear hy hT1
  clear X1
  refine F13.next 55 (.bool q) fun a14 F14 => ?_
  clear F13 a13
  refine tr_make ct10_14 (.bool q) _ (by kernel_rfl) rfl rfl ?_ ⟨hT2.cell 0 rfl rfl, hT2.cell 1 rfl rfl, hT2.cell 1 rfl rfl, hT2.cell 1 rfl rfl, (hck _ hT2.below)⟩ ?_; (focus (have hq := (show (fun W' : World => W'.cell? ⟨b, 1, none⟩ = some (a.sN) ∧ W'.cell? ⟨b8, 0, none⟩ = some (a.sL) ∧ W'.cell? ⟨b8, 1, none⟩ = some (sE) ∧ W'.cell? ⟨b8, 2, none⟩ = some (a.sK) ∧ W'.cell? (ad.add n) = some (iv nv)) X2 from ⟨hT2.cell 0 rfl rfl, hT2.cell 1 rfl rfl, hT2.cell 1 rfl rfl, hT2.cell 1 rfl rfl, (hck _ hT2.below)⟩); have e50 : a14.eval (.tmp 50) = (.bool true) := F14.ev 50 (by kernel_rfl); have e55 : a14.eval (.tmp 55) = (.bool q) := F14.ev 55 (by kernel_rfl); have ec : ∀ c, a14.eval (.const c) = c := fun _ => rfl; generalize a14.eval = ev at e50 e55 ec ⊢; simp [go_sem, mkO, ct10_14, ec, e50, e55]; done))
  refine F14.next 56 (.bool q) fun a15 F15 => ?_
  clear F14 a14
  exact F15.out hQn hT2.keep ⟨hT2.again, hbw, (F15.fin [42, 43, 44, 45, 46, 47, 48, 49, 50, 51, 52, 53, 54, 55] (by kernel_rfl))⟩
def cf10_0t : It := ⟨(Op.move (Operand.tmp 7)), some 42, 3, true, none⟩
def cf10_2t : It := ⟨(Op.fieldAddr 25 (Operand.tmp 2) 1), some 44, 0, true, none⟩
def cf10_3t : It := ⟨(Op.load 22 (Operand.tmp 44)), some 45, 22, true, none⟩
def cf10_4t : It := ⟨(Op.move (Operand.tmp 5)), some 46, 3, true, none⟩
def cf10_5t : It := ⟨(Op.indexAddr 22 (Operand.tmp 45) (Operand.tmp 46)), some 47, 0, true, none⟩
def cf10_6t : It := ⟨(Op.load 3 (Operand.tmp 47)), some 48, 3, true, none⟩
def cf10_1 : It := ⟨(Op.call { callee := (Callee.value (Operand.func 30)), args := #[(Operand.tmp 42)], argTypes := #[3] }), some 43, 3, false, none⟩
def cf10_7 : It := ⟨(Op.binOp BinOp.leq 3 (Operand.tmp 43) (Operand.tmp 48) 3), some 49, 4, false, none⟩
def cf10_8 : It := ⟨(Op.move (Operand.tmp 49)), some 50, 4, false, none⟩
def cf10_9t : It := ⟨(Op.load 25 (Operand.tmp 8)), some 51, 25, true, some (50, true)⟩
def cf10_10t : It := ⟨(Op.move (Operand.tmp 1)), some 52, 22, true, some (50, true)⟩
def cf10_11t : It := ⟨(Op.move (Operand.tmp 5)), some 53, 3, true, some (50, true)⟩
def cf10_12 : It := ⟨(Op.move (Operand.tmp 7)), some 54, 3, false, some (50, true)⟩
def cf10_13 : It := ⟨(Op.call { callee := (Callee.value (Operand.func 111)), args := #[(Operand.tmp 51), (Operand.tmp 52), (Operand.tmp 53), (Operand.tmp 54)], argTypes := #[25, 22, 3, 3] }), some 55, 4, false, some (50, true)⟩
def cf10_14 : It := ⟨(Op.pick (Operand.tmp 50) (Operand.tmp 55) (Operand.const (Value.bool false))), some 56, 4, false, none⟩
set_option maxRecDepth 100000 in
set_option maxHeartbeats 4000000 in
theorem seats_r10f {w W : World} {a : XP} {A : Option Addr} {b b8 cb n s v6 nv : Nat} {sE : Value} {ad : Addr} (hs : s < 1024) (hA : a.AN = some ad) (hn : n < a.N.length) (hck : ∀ Y, Below w.heap.size w Y → Y.cell? (ad.add n) = some (iv nv)) (hpn : decide (pop s ≤ nv) = false) (hT : Tr w W W [(b, .cells #[a.sL, a.sN, a.sK] 25 (0, 0)), (b8, .cells #[a.sL, sE, a.sK] 25 (0, 0))]) {t : Array Value} (hSl : Slots (none :: some (.slice A n cb) :: some (.pointer (some ⟨b, 0, none⟩)) :: none :: none :: some (iv n) :: some (iv v6) :: some (iv s) :: some (.pointer (some ⟨b8, 0, none⟩)) :: none :: none :: o4 (o4 (o4 (o16 (o16 (o16 [])))))) t) :
    Exec Try.prog none (sub (Try.f102.body.getD .skip) [1, 1, 1, 1, 0, 1, 0, 0, 1, 0, 0, 1, 1, 0]) t W (andThen (fun t' W' => Tr w W' W' [(b, .cells #[a.sL, a.sN, a.sK] 25 (0, 0)), (b8, .cells #[a.sL, sE, a.sK] 25 (0, 0))] ∧ Below W.heap.size W W' ∧ Slots (none :: some (.slice A n cb) :: some (.pointer (some ⟨b, 0, none⟩)) :: none :: none :: some (iv n) :: some (iv v6) :: some (iv s) :: some (.pointer (some ⟨b8, 0, none⟩)) :: none :: none :: none :: o4 (o4 (o4 (o16 (o16 (some (.bool false) :: none :: none :: o4 (o4 (o4 [])))))))) t') fun _ _ _ => False) := by
  have hu25 := Try.underlying25
  have hu22 := Try.underlying22
  have hnI : (n : Int) < a.N.length := by omega
  have hle : decide (((pop s : Nat) : Int) ≤ (nv : Int)) = false := by rw [← hpn]; exact decide_eq_decide.2 (by omega)
  have hle2 : nv < pop s := by simpa using hpn
  have hbw : Below W.heap.size W W.drew := (Below.refl _ W).drew
  have hT0 := hT.again.drew
  refine region_tree (c := (sub (Try.f102.body.getD .skip) [1, 1, 1, 1, 0, 1, 0, 0, 1, 0, 0, 1, 1, 0])) (id := 10) (.one 0 true (.one 2 true (.one 3 true (.one 4 true (.one 5 true (.one 6 true (.one 1 false (.one 7 false (.one 8 false (.one 9 true (.one 10 true (.one 11 true (.one 12 false (.one 13 false (.one 14 false (.nil)))))))))))))))) (Opq (regOps (sub (Try.f102.body.getD .skip) [1, 1, 1, 1, 0, 1, 0, 0, 1, 0, 0, 1, 1, 0]))) rfl (by kernel_rfl) (by kernel_rfl) (by kernel_rfl) (by kernel_rfl) (by kernel_rfl) (by kernel_rfl) [0, 1, 0, 4, 0, 24, 32, 66, 130, 256, 256, 256, 256, 7936, 8448] (by kernel_rfl) (by kernel_rfl) (fun W' => W'.cell? ⟨b, 1, none⟩ = some (a.sN) ∧ W'.cell? ⟨b8, 0, none⟩ = some (a.sL) ∧ W'.cell? ⟨b8, 1, none⟩ = some (sE) ∧ W'.cell? ⟨b8, 2, none⟩ = some (a.sK) ∧ W'.cell? (ad.add n) = some (iv nv)) (fun _ _ _ => False) (fun _ _ _ h => h.elim) (fun _ _ _ _ _ _ _ _ h => h.elim) fun ds Q' hQn hQp => ?_
  have F0 : Fr (none :: some (.slice A n cb) :: some (.pointer (some ⟨b, 0, none⟩)) :: none :: none :: some (iv n) :: some (iv v6) :: some (iv s) :: some (.pointer (some ⟨b8, 0, none⟩)) :: none :: none :: o4 (o4 (o4 (o16 (o16 (o16 [])))))) ds { tmps := t, defers := ds } := Fr.start hSl
  clear hSl
  generalize ({ tmps := t, defers := ds } : Act) = a0 at *
  generalize W.drew = X0 at *
  refine tr_take cf10_0t (iv s) (by kernel_rfl) rfl rfl (fun wq hq => ?_) ⟨hT0.cell 0 rfl rfl, hT0.cell 1 rfl rfl, hT0.cell 1 rfl rfl, hT0.cell 1 rfl rfl, (hck _ hT0.below)⟩ ?_; (focus (have e7 : a0.eval (.tmp 7) = (iv s) := F0.ev 7 (by kernel_rfl); generalize a0.eval = ev at e7 ⊢; simp [go_sem, mkO, cf10_0t, e7]; done))
  refine F0.next 42 (iv s) fun a1 F1 => ?_
  clear F0
  refine tr_take cf10_2t (.pointer (some ⟨b, 1, none⟩)) (by kernel_rfl) rfl rfl (fun wq hq => ?_) ⟨hT0.cell 0 rfl rfl, hT0.cell 1 rfl rfl, hT0.cell 1 rfl rfl, hT0.cell 1 rfl rfl, (hck _ hT0.below)⟩ ?_; (focus (have e2 : a1.eval (.tmp 2) = (.pointer (some ⟨b, 0, none⟩)) := F1.ev 2 (by kernel_rfl); generalize a1.eval = ev at e2 ⊢; simp [go_sem, mkO, cf10_2t, e2, hu25]; done))
  refine F1.next 44 (.pointer (some ⟨b, 1, none⟩)) fun a2 F2 => ?_
  clear F1 a1
  refine tr_take cf10_3t (.slice (some ad) a.N.length a.cN) (by kernel_rfl) rfl rfl (fun wq hq => ?_) ⟨hT0.cell 0 rfl rfl, hT0.cell 1 rfl rfl, hT0.cell 1 rfl rfl, hT0.cell 1 rfl rfl, (hck _ hT0.below)⟩ ?_; (focus (have e44 : a2.eval (.tmp 44) = (.pointer (some ⟨b, 1, none⟩)) := F2.ev 44 (by kernel_rfl); generalize a2.eval = ev at e44 ⊢; simp [go_sem, mkO, cf10_3t, e44, hq.1, XP.sN, hA]; done))
  refine F2.next 45 (.slice (some ad) a.N.length a.cN) fun a3 F3 => ?_
  clear F2 a2
  refine tr_take cf10_4t (iv n) (by kernel_rfl) rfl rfl (fun wq hq => ?_) ⟨hT0.cell 0 rfl rfl, hT0.cell 1 rfl rfl, hT0.cell 1 rfl rfl, hT0.cell 1 rfl rfl, (hck _ hT0.below)⟩ ?_; (focus (have e5 : a3.eval (.tmp 5) = (iv n) := F3.ev 5 (by kernel_rfl); generalize a3.eval = ev at e5 ⊢; simp [go_sem, mkO, cf10_4t, e5]; done))
  refine F3.next 46 (iv n) fun a4 F4 => ?_
  clear F3 a3
  refine tr_take cf10_5t (.pointer (some (ad.add n))) (by kernel_rfl) rfl rfl (fun wq hq => ?_) ⟨hT0.cell 0 rfl rfl, hT0.cell 1 rfl rfl, hT0.cell 1 rfl rfl, hT0.cell 1 rfl rfl, (hck _ hT0.below)⟩ ?_; (focus (have e45 : a4.eval (.tmp 45) = (.slice (some ad) a.N.length a.cN) := F4.ev 45 (by kernel_rfl); have e46 : a4.eval (.tmp 46) = (iv n) := F4.ev 46 (by kernel_rfl); generalize a4.eval = ev at e45 e46 ⊢; simp [go_sem, mkO, cf10_5t, e45, e46, hu22, hnI]; done))
  refine F4.next 47 (.pointer (some (ad.add n))) fun a5 F5 => ?_
  clear F4 a4
  refine tr_take cf10_6t (iv nv) (by kernel_rfl) rfl rfl (fun wq hq => ?_) ⟨hT0.cell 0 rfl rfl, hT0.cell 1 rfl rfl, hT0.cell 1 rfl rfl, hT0.cell 1 rfl rfl, (hck _ hT0.below)⟩ ?_; (focus (have e47 : a5.eval (.tmp 47) = (.pointer (some (ad.add n))) := F5.ev 47 (by kernel_rfl); generalize a5.eval = ev at e47 ⊢; simp [go_sem, mkO, cf10_6t, e47, hq.2.2.2.2]; done))
  refine F5.next 48 (iv nv) fun a6 F6 => ?_
  clear F5 a5
  refine tr_call cf10_1 (f := 30) (args := #[iv s]) (by kernel_rfl) rfl rfl ?_ ?_
  · (have e42 : a6.eval (.tmp 42) = (iv s) := F6.ev 42 (by kernel_rfl); have ef : ∀ f, a6.eval (.func f) = .func (.func f) #[] #[] := fun _ => rfl; generalize a6.eval = ev at e42 ef ⊢; simp [go_sem, mkO, cf10_1, ef, e42]; done)
  refine (size30 s hs X0).mono ?_
  rintro e X1 ⟨rfl, hy⟩
  have hT1 := hT0.step hy
  replace hbw := hbw.trans (hy.mono hbw.size)
  refine .inl ⟨_, rfl, ⟨hT1.cell 0 rfl rfl, hT1.cell 1 rfl rfl, hT1.cell 1 rfl rfl, hT1.cell 1 rfl rfl, (hck _ hT1.below)⟩, ?_⟩
  clear hy hT0
  clear X0
  refine F6.next 43 (iv (pop s)) fun a7 F7 => ?_
  clear F6 a6
  refine tr_make cf10_7 (.bool false) _ (by kernel_rfl) rfl rfl ?_ ⟨hT1.cell 0 rfl rfl, hT1.cell 1 rfl rfl, hT1.cell 1 rfl rfl, hT1.cell 1 rfl rfl, (hck _ hT1.below)⟩ ?_; (focus (have hq := (show (fun W' : World => W'.cell? ⟨b, 1, none⟩ = some (a.sN) ∧ W'.cell? ⟨b8, 0, none⟩ = some (a.sL) ∧ W'.cell? ⟨b8, 1, none⟩ = some (sE) ∧ W'.cell? ⟨b8, 2, none⟩ = some (a.sK) ∧ W'.cell? (ad.add n) = some (iv nv)) X1 from ⟨hT1.cell 0 rfl rfl, hT1.cell 1 rfl rfl, hT1.cell 1 rfl rfl, hT1.cell 1 rfl rfl, (hck _ hT1.below)⟩); have e43 : a7.eval (.tmp 43) = (iv (pop s)) := F7.ev 43 (by kernel_rfl); have e48 : a7.eval (.tmp 48) = (iv nv) := F7.ev 48 (by kernel_rfl); generalize a7.eval = ev at e43 e48 ⊢; simp [go_sem, mkO, cf10_7, e43, e48, hle, hle2]; done))
  refine F7.next 49 (.bool false) fun a8 F8 => ?_
  clear F7 a7
  refine tr_make cf10_8 (.bool false) _ (by kernel_rfl) rfl rfl ?_ ⟨hT1.cell 0 rfl rfl, hT1.cell 1 rfl rfl, hT1.cell 1 rfl rfl, hT1.cell 1 rfl rfl, (hck _ hT1.below)⟩ ?_; (focus (have hq := (show (fun W' : World => W'.cell? ⟨b, 1, none⟩ = some (a.sN) ∧ W'.cell? ⟨b8, 0, none⟩ = some (a.sL) ∧ W'.cell? ⟨b8, 1, none⟩ = some (sE) ∧ W'.cell? ⟨b8, 2, none⟩ = some (a.sK) ∧ W'.cell? (ad.add n) = some (iv nv)) X1 from ⟨hT1.cell 0 rfl rfl, hT1.cell 1 rfl rfl, hT1.cell 1 rfl rfl, hT1.cell 1 rfl rfl, (hck _ hT1.below)⟩); have e49 : a8.eval (.tmp 49) = (.bool false) := F8.ev 49 (by kernel_rfl); generalize a8.eval = ev at e49 ⊢; simp [go_sem, mkO, cf10_8, e49]; done))
  refine F8.next 50 (.bool false) fun a9 F9 => ?_
  clear F8 a8
  refine tr_skip cf10_9t (by kernel_rfl) (F9.gd (by kernel_rfl)) ⟨hT1.cell 0 rfl rfl, hT1.cell 1 rfl rfl, hT1.cell 1 rfl rfl, hT1.cell 1 rfl rfl, (hck _ hT1.below)⟩ ?_
  refine F9.next 51 (undef) fun a10 F10 => ?_
  clear F9 a9
  refine tr_skip cf10_10t (by kernel_rfl) (F10.gd (by kernel_rfl)) ⟨hT1.cell 0 rfl rfl, hT1.cell 1 rfl rfl, hT1.cell 1 rfl rfl, hT1.cell 1 rfl rfl, (hck _ hT1.below)⟩ ?_
  refine F10.next 52 (undef) fun a11 F11 => ?_
  clear F10 a10
  refine tr_skip cf10_11t (by kernel_rfl) (F11.gd (by kernel_rfl)) ⟨hT1.cell 0 rfl rfl, hT1.cell 1 rfl rfl, hT1.cell 1 rfl rfl, hT1.cell 1 rfl rfl, (hck _ hT1.below)⟩ ?_
  refine F11.next 53 (undef) fun a12 F12 => ?_
  clear F11 a11
  refine tr_skip cf10_12 (by kernel_rfl) (F12.gd (by kernel_rfl)) ⟨hT1.cell 0 rfl rfl, hT1.cell 1 rfl rfl, hT1.cell 1 rfl rfl, hT1.cell 1 rfl rfl, (hck _ hT1.below)⟩ ?_
  refine F12.next 54 (undef) fun a13 F13 => ?_
  clear F12 a12
  refine tr_skip cf10_13 (by kernel_rfl) (F13.gd (by kernel_rfl)) ⟨hT1.cell 0 rfl rfl, hT1.cell 1 rfl rfl, hT1.cell 1 rfl rfl, hT1.cell 1 rfl rfl, (hck _ hT1.below)⟩ ?_
  refine F13.next 55 (undef) fun a14 F14 => ?_
  clear F13 a13
  refine tr_make cf10_14 (.bool false) _ (by kernel_rfl) rfl rfl ?_ ⟨hT1.cell 0 rfl rfl, hT1.cell 1 rfl rfl, hT1.cell 1 rfl rfl, hT1.cell 1 rfl rfl, (hck _ hT1.below)⟩ ?_; (focus (have hq := (show (fun W' : World => W'.cell? ⟨b, 1, none⟩ = some (a.sN) ∧ W'.cell? ⟨b8, 0, none⟩ = some (a.sL) ∧ W'.cell? ⟨b8, 1, none⟩ = some (sE) ∧ W'.cell? ⟨b8, 2, none⟩ = some (a.sK) ∧ W'.cell? (ad.add n) = some (iv nv)) X1 from ⟨hT1.cell 0 rfl rfl, hT1.cell 1 rfl rfl, hT1.cell 1 rfl rfl, hT1.cell 1 rfl rfl, (hck _ hT1.below)⟩); have e50 : a14.eval (.tmp 50) = (.bool false) := F14.ev 50 (by kernel_rfl); have e55 : a14.eval (.tmp 55) = (undef) := F14.ev 55 (by kernel_rfl); have ec : ∀ c, a14.eval (.const c) = c := fun _ => rfl; generalize a14.eval = ev at e50 e55 ec ⊢; simp [go_sem, mkO, cf10_14, ec, e50, e55]; done))
  refine F14.next 56 (.bool false) fun a15 F15 => ?_
  clear F14 a14
  exact F15.out hQn hT1.keep ⟨hT1.again, hbw, (F15.fin [42, 43, 44, 45, 46, 47, 48, 49, 50, 51, 52, 53, 54, 55] (by kernel_rfl))⟩
def n11_0t : It := ⟨(Op.move (Operand.tmp 6)), some 57, 3, true, none⟩
def n11_1t : It := ⟨(Op.move (Operand.tmp 7)), some 58, 3, true, none⟩
def n11_3t : It := ⟨(Op.load 25 (Operand.tmp 2)), some 60, 25, true, none⟩
def n11_5t : It := ⟨(Op.move (Operand.tmp 1)), some 62, 22, true, none⟩
def n11_7t : It := ⟨(Op.move (Operand.tmp 7)), some 64, 3, true, none⟩
def n11_2 : It := ⟨(Op.call { callee := (Callee.value (Operand.func 30)), args := #[(Operand.tmp 58)], argTypes := #[3] }), some 59, 3, false, none⟩
def n11_4 : It := ⟨(Op.buildSlice 22 0 #[]), some 61, 22, false, none⟩
def n11_6 : It := ⟨(Op.call { callee := (Callee.builtin Builtin.append), args := #[(Operand.tmp 61), (Operand.tmp 62)], argTypes := #[22, 22] }), some 63, 22, false, none⟩
def n11_8 : It := ⟨(Op.buildSlice 22 1 #[(0, (Operand.tmp 64))]), some 65, 22, false, none⟩
def n11_9 : It := ⟨(Op.call { callee := (Callee.builtin Builtin.append), args := #[(Operand.tmp 63), (Operand.tmp 65)], argTypes := #[22, 22] }), some 66, 22, false, none⟩
def n11_10 : It := ⟨(Op.call { callee := (Callee.value (Operand.func 102)), args := #[(Operand.tmp 60), (Operand.tmp 66)], argTypes := #[25, 22] }), some 67, 3, false, none⟩
def n11_11 : It := ⟨(Op.binOp BinOp.add 3 (Operand.tmp 59) (Operand.tmp 67) 3), some 68, 3, false, none⟩
def n11_12 : It := ⟨(Op.call { callee := (Callee.builtin Builtin.max), args := #[(Operand.tmp 57), (Operand.tmp 68)], argTypes := #[3, 3] }), some 69, 3, false, none⟩
def n11_13 : It := ⟨(Op.assign (Operand.tmp 69)), some 6, 3, false, none⟩
set_option maxRecDepth 100000 in
set_option maxHeartbeats 4000000 in
theorem seats_r11 {w W : World} {a : XP} {A : Option Addr} {l : List Nat} {b cb n s v6 gN vM : Nat} (hs : s < 1024) (hn : n ≤ 100) (hnl : n = l.length) (hr : RowV w A (l.map iv)) (hp : pop s + gN ≤ 1000) (hM : max v6 (pop s + gN) = vM) (hrec : ∀ (X : World) (g c : Nat), Below w.heap.size w X → RowV X (some ⟨g, 0, none⟩) ((l ++ [s]).map iv) → Calls Try.prog 102 #[.agg #[a.sL, a.sN, a.sK], .slice (some ⟨g, 0, none⟩) (n + 1) c] X fun e Z => e = .returned (iv gN) ∧ Below X.heap.size X Z) (hT : Tr w W W [(b, .cells #[a.sL, a.sN, a.sK] 25 (0, 0))]) {t : Array Value} (hSl : Slots (none :: some (.slice A n cb) :: some (.pointer (some ⟨b, 0, none⟩)) :: none :: none :: some (iv n) :: some (iv v6) :: some (iv s) :: none :: none :: none :: o4 (o4 (o4 (o16 (o16 (o16 [])))))) t) :
    Exec Try.prog none (sub (Try.f102.body.getD .skip) [1, 1, 1, 1, 0, 1, 0, 0, 1, 0, 0, 1, 1, 1, 0]) t W (andThen (fun t' W' => Tr w W' W' [(b, .cells #[a.sL, a.sN, a.sK] 25 (0, 0))] ∧ Slots (none :: some (.slice A n cb) :: some (.pointer (some ⟨b, 0, none⟩)) :: none :: none :: some (iv n) :: some (iv vM) :: some (iv s) :: none :: none :: none :: o4 (o4 (o4 (o16 (o16 (o16 [])))))) t') fun _ _ _ => False) := by
  have hu25 := Try.underlying25
  have hu22 := Try.underlying22
  have hadd : IntKind.i64.wrap (((pop s : Nat) : Int) + (gN : Int)) = ((pop s + gN : Nat) : Int) := by rw [IntWalk.i64_in _ (by omega)]; norm_cast
  have hmx : (if (v6 : Int) < ((pop s : Nat) : Int) + (gN : Int) then ((pop s : Nat) : Int) + (gN : Int) else (v6 : Int)) = (vM : Int) := by rw [← hM]; split <;> omega
  have hT0 := hT.again.drew
  refine region_tree2 (c := (sub (Try.f102.body.getD .skip) [1, 1, 1, 1, 0, 1, 0, 0, 1, 0, 0, 1, 1, 1, 0])) (id := 11) 13 1 (.one 0 true (.one 1 true (.one 3 true (.one 5 true (.one 7 true (.three 2 4 8 (.two 4 8 (.two 6 8 (.one 8 false (.one 9 false (.one 10 false (.one 11 false (.one 12 false (.nil)))))) (.one 6 false (.one 9 false (.one 10 false (.one 11 false (.one 12 false (.nil))))))) (.one 4 false (.one 6 false (.one 9 false (.one 10 false (.one 11 false (.one 12 false (.nil)))))))) (.two 2 8 (.two 6 8 (.one 8 false (.one 9 false (.one 10 false (.one 11 false (.one 12 false (.nil)))))) (.one 6 false (.one 9 false (.one 10 false (.one 11 false (.one 12 false (.nil))))))) (.one 2 false (.one 6 false (.one 9 false (.one 10 false (.one 11 false (.one 12 false (.nil)))))))) (.two 2 4 (.one 4 false (.one 6 false (.one 9 false (.one 10 false (.one 11 false (.one 12 false (.nil))))))) (.one 2 false (.one 6 false (.one 9 false (.one 10 false (.one 11 false (.one 12 false (.nil)))))))))))))) (.one 13 false (.nil)) (Opq ((regOps (sub (Try.f102.body.getD .skip) [1, 1, 1, 1, 0, 1, 0, 0, 1, 0, 0, 1, 1, 1, 0])).toList.take 13).toArray) (Opq (regOps (sub (Try.f102.body.getD .skip) [1, 1, 1, 1, 0, 1, 0, 0, 1, 0, 0, 1, 1, 1, 0]))) rfl rfl rfl (by kernel_rfl) (by kernel_rfl) (by kernel_rfl) (by kernel_rfl) (by kernel_rfl) (by kernel_rfl) (by kernel_rfl) (by kernel_rfl) (by kernel_rfl) (by kernel_rfl) (by kernel_rfl) [0, 0, 2, 0, 0, 0, 52, 0, 128, 320, 520, 1028, 2049] [0, 0, 2, 0, 0, 0, 52, 0, 128, 320, 520, 1028, 2049, 8191] (by kernel_rfl) (by kernel_rfl) (by kernel_rfl) (by kernel_rfl) (fun W' => W'.cell? ⟨b, 0, none⟩ = some (a.sL) ∧ W'.cell? ⟨b, 1, none⟩ = some (a.sN) ∧ W'.cell? ⟨b, 2, none⟩ = some (a.sK)) fun ds Q' Qh hQn hQT => ?_
  have F0 : Fr (none :: some (.slice A n cb) :: some (.pointer (some ⟨b, 0, none⟩)) :: none :: none :: some (iv n) :: some (iv v6) :: some (iv s) :: none :: none :: none :: o4 (o4 (o4 (o16 (o16 (o16 [])))))) ds { tmps := t, defers := ds } := Fr.start hSl
  clear hSl
  generalize ({ tmps := t, defers := ds } : Act) = a0 at *
  generalize W.drew = X0 at *
  refine tr_take n11_0t (iv v6) (by kernel_rfl) rfl rfl (fun wq hq => ?_) ⟨hT0.cell 0 rfl rfl, hT0.cell 0 rfl rfl, hT0.cell 0 rfl rfl⟩ ?_; (focus (have e6 : a0.eval (.tmp 6) = (iv v6) := F0.ev 6 (by kernel_rfl); generalize a0.eval = ev at e6 ⊢; simp [go_sem, mkO, n11_0t, e6]; done))
  refine F0.next 57 (iv v6) fun a1 F1 => ?_
  clear F0
  refine tr_take n11_1t (iv s) (by kernel_rfl) rfl rfl (fun wq hq => ?_) ⟨hT0.cell 0 rfl rfl, hT0.cell 0 rfl rfl, hT0.cell 0 rfl rfl⟩ ?_; (focus (have e7 : a1.eval (.tmp 7) = (iv s) := F1.ev 7 (by kernel_rfl); generalize a1.eval = ev at e7 ⊢; simp [go_sem, mkO, n11_1t, e7]; done))
  refine F1.next 58 (iv s) fun a2 F2 => ?_
  clear F1 a1
  refine tr_take n11_3t (.agg #[a.sL, a.sN, a.sK]) (by kernel_rfl) rfl rfl (fun wq hq => ?_) ⟨hT0.cell 0 rfl rfl, hT0.cell 0 rfl rfl, hT0.cell 0 rfl rfl⟩ ?_; (focus (have e2 : a2.eval (.tmp 2) = (.pointer (some ⟨b, 0, none⟩)) := F2.ev 2 (by kernel_rfl); generalize a2.eval = ev at e2 ⊢; simp [go_sem, mkO, n11_3t, e2, hu25, hq.1, hq.2.1, hq.2.2]; done))
  refine F2.next 60 (.agg #[a.sL, a.sN, a.sK]) fun a3 F3 => ?_
  clear F2 a2
  refine tr_take n11_5t (.slice A n cb) (by kernel_rfl) rfl rfl (fun wq hq => ?_) ⟨hT0.cell 0 rfl rfl, hT0.cell 0 rfl rfl, hT0.cell 0 rfl rfl⟩ ?_; (focus (have e1 : a3.eval (.tmp 1) = (.slice A n cb) := F3.ev 1 (by kernel_rfl); generalize a3.eval = ev at e1 ⊢; simp [go_sem, mkO, n11_5t, e1]; done))
  refine F3.next 62 (.slice A n cb) fun a4 F4 => ?_
  clear F3 a3
  refine tr_take n11_7t (iv s) (by kernel_rfl) rfl rfl (fun wq hq => ?_) ⟨hT0.cell 0 rfl rfl, hT0.cell 0 rfl rfl, hT0.cell 0 rfl rfl⟩ ?_; (focus (have e7 : a4.eval (.tmp 7) = (iv s) := F4.ev 7 (by kernel_rfl); generalize a4.eval = ev at e7 ⊢; simp [go_sem, mkO, n11_7t, e7]; done))
  refine F4.next 64 (iv s) fun a5 F5 => ?_
  clear F4 a4
  refine ⟨?_, ?_, ?_⟩
  · refine tr_call n11_2 (f := 30) (args := #[iv s]) (by kernel_rfl) rfl rfl ?_ ?_
    · (have e58 : a5.eval (.tmp 58) = (iv s) := F5.ev 58 (by kernel_rfl); have ef : ∀ f, a5.eval (.func f) = .func (.func f) #[] #[] := fun _ => rfl; generalize a5.eval = ev at e58 ef ⊢; simp [go_sem, mkO, n11_2, ef, e58]; done)
    refine (size30 s hs X0).mono ?_
    rintro e X1 ⟨rfl, hy⟩
    have hT1 := hT0.step hy
    refine .inl ⟨_, rfl, ⟨hT1.cell 0 rfl rfl, hT1.cell 0 rfl rfl, hT1.cell 0 rfl rfl⟩, ?_⟩
    clear hy hT0
    clear X0
    refine F5.next 59 (iv (pop s)) fun a6 F6 => ?_
    clear F5 a5
    refine ⟨?_, ?_⟩
    · have hT2 : Tr w W (X1.alloc (.cells #[] 3)) [(X1.heap.size, .cells #[] 3 (0, 0)), (b, .cells #[a.sL, a.sN, a.sK] 25 (0, 0))] := hT1.alloc (.cells #[] 3)
      refine tr_make n11_4 (.slice (some ⟨X1.heap.size, 0, none⟩) 0 0) (X1.alloc (.cells #[] 3)) (by kernel_rfl) rfl rfl ?_ ⟨hT2.cell 1 rfl rfl, hT2.cell 1 rfl rfl, hT2.cell 1 rfl rfl⟩ ?_; (focus (simp [go_sem, mkO, n11_4, hu22]; done))
      obtain ⟨zC, hgzC⟩ : ∃ b, X1.heap.size = b := ⟨_, rfl⟩
      simp only [hgzC] at hT2 ⊢
      generalize X1.alloc (.cells #[] 3) = X2 at *
      clear hgzC hT1
      clear X1
      refine F6.next 61 (.slice (some ⟨zC, 0, none⟩) 0 0) fun a7 F7 => ?_
      clear F6 a6
      refine ⟨?_, ?_⟩
      · obtain ⟨gC, cC, cuC, X3, hrun, hTa, hoC, hba⟩ := hT2.app_nat 0 rfl (A := A) (L := l) (n := n) (c := cb) (hr.below hT2.below) (by omega) hnl 22
        have hT3 : Tr w W X3 [(gC, .cells (cuC).toArray 3 (0, 0)), (b, .cells #[a.sL, a.sN, a.sK] 25 (0, 0))] := hTa
        clear hTa
        refine tr_make n11_6 (.slice (some ⟨gC, 0, none⟩) n cC) X3 (by kernel_rfl) rfl rfl (exec_append _ _ 22 rfl (F7.ev 61 (by kernel_rfl)) (F7.ev 62 (by kernel_rfl)) hrun) ⟨hT3.cell 1 rfl rfl, hT3.cell 1 rfl rfl, hT3.cell 1 rfl rfl⟩ ?_
        clear hrun hba hT2
        clear X2
        refine F7.next 63 (.slice (some ⟨gC, 0, none⟩) n cC) fun a8 F8 => ?_
        clear F7 a7
        have hT4 : Tr w W (X3.alloc (.cells #[iv s] 3)) [(X3.heap.size, .cells #[iv s] 3 (0, 0)), (gC, .cells (cuC).toArray 3 (0, 0)), (b, .cells #[a.sL, a.sN, a.sK] 25 (0, 0))] := hT3.alloc (.cells #[iv s] 3)
        refine tr_make n11_8 (.slice (some ⟨X3.heap.size, 0, none⟩) 1 1) (X3.alloc (.cells #[iv s] 3)) (by kernel_rfl) rfl rfl ?_ ⟨hT4.cell 2 rfl rfl, hT4.cell 2 rfl rfl, hT4.cell 2 rfl rfl⟩ ?_; (focus (have e64 : a8.eval (.tmp 64) = (iv s) := F8.ev 64 (by kernel_rfl); generalize a8.eval = ev at e64 ⊢; simp [go_sem, mkO, n11_8, e64, hu22]; done))
        replace hoC := World.ownsRow.alloc hoC (.cells #[iv s] 3)
        obtain ⟨gs, hggs⟩ : ∃ b, X3.heap.size = b := ⟨_, rfl⟩
        simp only [hggs] at hT4 ⊢
        generalize X3.alloc (.cells #[iv s] 3) = X4 at *
        clear hggs hT3
        clear X3
        refine F8.next 65 (.slice (some ⟨gs, 0, none⟩) 1 1) fun a9 F9 => ?_
        clear F8 a8
        have hne := Tr.own_ne (hT4.drop (m := [(gC, .cells (cuC).toArray 3 (0, 0)), (b, .cells #[a.sL, a.sN, a.sK] 25 (0, 0))]) (List.Sublist.cons _ (List.Sublist.refl _))) n cC
        obtain ⟨gD, cD, X5, hrun, hTa, hoD, _⟩ := (hT4.drop (m := [(gs, .cells #[iv s] 3 (0, 0)), (b, .cells #[a.sL, a.sN, a.sK] 25 (0, 0))]) (List.Sublist.cons_cons _ (List.Sublist.cons _ (List.Sublist.refl _)))).app_oneN (K := l) hnl hoC hne (by omega)
        have hT5 : Tr w W X5 [(b, .cells #[a.sL, a.sN, a.sK] 25 (0, 0))] := hTa
        obtain ⟨_, _, e, hrD⟩ := row_of_own hoD
        cases e
        clear hTa hoC hoD hne
        refine tr_make n11_9 (.slice (some ⟨gD, 0, none⟩) (n + 1) cD) X5 (by kernel_rfl) rfl rfl (exec_append _ _ 22 rfl (F9.ev 63 (by kernel_rfl)) (F9.ev 65 (by kernel_rfl)) hrun) ⟨hT5.cell 0 rfl rfl, hT5.cell 0 rfl rfl, hT5.cell 0 rfl rfl⟩ ?_
        clear hrun hT4
        clear X4
        refine F9.next 66 (.slice (some ⟨gD, 0, none⟩) (n + 1) cD) fun a10 F10 => ?_
        clear F9 a9
        refine tr_call n11_10 (f := 102) (args := #[.agg #[a.sL, a.sN, a.sK], .slice (some ⟨gD, 0, none⟩) (n + 1) cD]) (by kernel_rfl) rfl rfl ?_ ?_
        · (have e60 : a10.eval (.tmp 60) = (.agg #[a.sL, a.sN, a.sK]) := F10.ev 60 (by kernel_rfl); have e66 : a10.eval (.tmp 66) = (.slice (some ⟨gD, 0, none⟩) (n + 1) cD) := F10.ev 66 (by kernel_rfl); have ef : ∀ f, a10.eval (.func f) = .func (.func f) #[] #[] := fun _ => rfl; generalize a10.eval = ev at e60 e66 ef ⊢; simp [go_sem, mkO, n11_10, ef, e60, e66]; done)
        refine (hrec X5 gD cD hT5.below hrD).mono ?_
        rintro e X6 ⟨rfl, hy⟩
        have hT6 := hT5.step hy
        refine .inl ⟨_, rfl, ⟨hT6.cell 0 rfl rfl, hT6.cell 0 rfl rfl, hT6.cell 0 rfl rfl⟩, ?_⟩
        clear hy hT5
        clear hrD
        clear X5
        refine F10.next 67 (iv gN) fun a11 F11 => ?_
        clear F10 a10
        refine tr_make n11_11 (iv (pop s + gN)) _ (by kernel_rfl) rfl rfl ?_ ⟨hT6.cell 0 rfl rfl, hT6.cell 0 rfl rfl, hT6.cell 0 rfl rfl⟩ ?_; (focus (have hq := (show (fun W' : World => W'.cell? ⟨b, 0, none⟩ = some (a.sL) ∧ W'.cell? ⟨b, 1, none⟩ = some (a.sN) ∧ W'.cell? ⟨b, 2, none⟩ = some (a.sK)) X6 from ⟨hT6.cell 0 rfl rfl, hT6.cell 0 rfl rfl, hT6.cell 0 rfl rfl⟩); have e59 : a11.eval (.tmp 59) = (iv (pop s)) := F11.ev 59 (by kernel_rfl); have e67 : a11.eval (.tmp 67) = (iv gN) := F11.ev 67 (by kernel_rfl); generalize a11.eval = ev at e59 e67 ⊢; simp [go_sem, mkO, n11_11, e59, e67, hadd]; done))
        refine F11.next 68 (iv (pop s + gN)) fun a12 F12 => ?_
        clear F11 a11
        refine tr_make n11_12 (iv vM) _ (by kernel_rfl) rfl rfl ?_ ⟨hT6.cell 0 rfl rfl, hT6.cell 0 rfl rfl, hT6.cell 0 rfl rfl⟩ ?_; (focus (have hq := (show (fun W' : World => W'.cell? ⟨b, 0, none⟩ = some (a.sL) ∧ W'.cell? ⟨b, 1, none⟩ = some (a.sN) ∧ W'.cell? ⟨b, 2, none⟩ = some (a.sK)) X6 from ⟨hT6.cell 0 rfl rfl, hT6.cell 0 rfl rfl, hT6.cell 0 rfl rfl⟩); have e57 : a12.eval (.tmp 57) = (iv v6) := F12.ev 57 (by kernel_rfl); have e68 : a12.eval (.tmp 68) = (iv (pop s + gN)) := F12.ev 68 (by kernel_rfl); generalize a12.eval = ev at e57 e68 ⊢; simp [go_sem, mkO, n11_12, e57, e68, hmx]; done))
        refine F12.next 69 (iv vM) fun a13 F13 => ?_
        clear F12 a12
        refine hQT _ _ ?_
        refine tr_make n11_13 (iv vM) X6 (by kernel_rfl) rfl rfl ?_ trivial ?_; (focus (have e69 : a13.eval (.tmp 69) = (iv vM) := F13.ev 69 (by kernel_rfl); generalize a13.eval = ev at e69 ⊢; simp [go_sem, mkO, n11_13, e69]; done))
        refine F13.next 6 (iv vM) fun a14 F14 => ?_
        clear F13 a13
        exact F14.out hQn hT6.keep ⟨hT6.again, (F14.fin [57, 58, 59, 60, 61, 62, 63, 64, 65, 66, 67, 68, 69] (by kernel_rfl))⟩
      · have hT3 : Tr w W (X2.alloc (.cells #[iv s] 3)) [(X2.heap.size, .cells #[iv s] 3 (0, 0)), (zC, .cells #[] 3 (0, 0)), (b, .cells #[a.sL, a.sN, a.sK] 25 (0, 0))] := hT2.alloc (.cells #[iv s] 3)
        refine tr_make n11_8 (.slice (some ⟨X2.heap.size, 0, none⟩) 1 1) (X2.alloc (.cells #[iv s] 3)) (by kernel_rfl) rfl rfl ?_ ⟨hT3.cell 2 rfl rfl, hT3.cell 2 rfl rfl, hT3.cell 2 rfl rfl⟩ ?_; (focus (have e64 : a7.eval (.tmp 64) = (iv s) := F7.ev 64 (by kernel_rfl); generalize a7.eval = ev at e64 ⊢; simp [go_sem, mkO, n11_8, e64, hu22]; done))
        obtain ⟨gs, hggs⟩ : ∃ b, X2.heap.size = b := ⟨_, rfl⟩
        simp only [hggs] at hT3 ⊢
        generalize X2.alloc (.cells #[iv s] 3) = X3 at *
        clear hggs hT2
        clear X2
        refine F7.next 65 (.slice (some ⟨gs, 0, none⟩) 1 1) fun a8 F8 => ?_
        clear F7 a7
        obtain ⟨gC, cC, cuC, X4, hrun, hTa, hoC, hba⟩ := hT3.app_nat 1 rfl (A := A) (L := l) (n := n) (c := cb) (hr.below hT3.below) (by omega) hnl 22
        have hT4 : Tr w W X4 [(gs, .cells #[iv s] 3 (0, 0)), (gC, .cells (cuC).toArray 3 (0, 0)), (b, .cells #[a.sL, a.sN, a.sK] 25 (0, 0))] := hTa
        clear hTa
        refine tr_make n11_6 (.slice (some ⟨gC, 0, none⟩) n cC) X4 (by kernel_rfl) rfl rfl (exec_append _ _ 22 rfl (F8.ev 61 (by kernel_rfl)) (F8.ev 62 (by kernel_rfl)) hrun) ⟨hT4.cell 2 rfl rfl, hT4.cell 2 rfl rfl, hT4.cell 2 rfl rfl⟩ ?_
        clear hrun hba hT3
        clear X3
        refine F8.next 63 (.slice (some ⟨gC, 0, none⟩) n cC) fun a9 F9 => ?_
        clear F8 a8
        have hne := Tr.own_ne (hT4.drop (m := [(gC, .cells (cuC).toArray 3 (0, 0)), (b, .cells #[a.sL, a.sN, a.sK] 25 (0, 0))]) (List.Sublist.cons _ (List.Sublist.refl _))) n cC
        obtain ⟨gD, cD, X5, hrun, hTa, hoD, _⟩ := (hT4.drop (m := [(gs, .cells #[iv s] 3 (0, 0)), (b, .cells #[a.sL, a.sN, a.sK] 25 (0, 0))]) (List.Sublist.cons_cons _ (List.Sublist.cons _ (List.Sublist.refl _)))).app_oneN (K := l) hnl hoC hne (by omega)
        have hT5 : Tr w W X5 [(b, .cells #[a.sL, a.sN, a.sK] 25 (0, 0))] := hTa
        obtain ⟨_, _, e, hrD⟩ := row_of_own hoD
        cases e
        clear hTa hoC hoD hne
        refine tr_make n11_9 (.slice (some ⟨gD, 0, none⟩) (n + 1) cD) X5 (by kernel_rfl) rfl rfl (exec_append _ _ 22 rfl (F9.ev 63 (by kernel_rfl)) (F9.ev 65 (by kernel_rfl)) hrun) ⟨hT5.cell 0 rfl rfl, hT5.cell 0 rfl rfl, hT5.cell 0 rfl rfl⟩ ?_
        clear hrun hT4
        clear X4
        refine F9.next 66 (.slice (some ⟨gD, 0, none⟩) (n + 1) cD) fun a10 F10 => ?_
        clear F9 a9
        refine tr_call n11_10 (f := 102) (args := #[.agg #[a.sL, a.sN, a.sK], .slice (some ⟨gD, 0, none⟩) (n + 1) cD]) (by kernel_rfl) rfl rfl ?_ ?_
        · (have e60 : a10.eval (.tmp 60) = (.agg #[a.sL, a.sN, a.sK]) := F10.ev 60 (by kernel_rfl); have e66 : a10.eval (.tmp 66) = (.slice (some ⟨gD, 0, none⟩) (n + 1) cD) := F10.ev 66 (by kernel_rfl); have ef : ∀ f, a10.eval (.func f) = .func (.func f) #[] #[] := fun _ => rfl; generalize a10.eval = ev at e60 e66 ef ⊢; simp [go_sem, mkO, n11_10, ef, e60, e66]; done)
        refine (hrec X5 gD cD hT5.below hrD).mono ?_
        rintro e X6 ⟨rfl, hy⟩
        have hT6 := hT5.step hy
        refine .inl ⟨_, rfl, ⟨hT6.cell 0 rfl rfl, hT6.cell 0 rfl rfl, hT6.cell 0 rfl rfl⟩, ?_⟩
        clear hy hT5
        clear hrD
        clear X5
        refine F10.next 67 (iv gN) fun a11 F11 => ?_
        clear F10 a10
        refine tr_make n11_11 (iv (pop s + gN)) _ (by kernel_rfl) rfl rfl ?_ ⟨hT6.cell 0 rfl rfl, hT6.cell 0 rfl rfl, hT6.cell 0 rfl rfl⟩ ?_; (focus (have hq := (show (fun W' : World => W'.cell? ⟨b, 0, none⟩ = some (a.sL) ∧ W'.cell? ⟨b, 1, none⟩ = some (a.sN) ∧ W'.cell? ⟨b, 2, none⟩ = some (a.sK)) X6 from ⟨hT6.cell 0 rfl rfl, hT6.cell 0 rfl rfl, hT6.cell 0 rfl rfl⟩); have e59 : a11.eval (.tmp 59) = (iv (pop s)) := F11.ev 59 (by kernel_rfl); have e67 : a11.eval (.tmp 67) = (iv gN) := F11.ev 67 (by kernel_rfl); generalize a11.eval = ev at e59 e67 ⊢; simp [go_sem, mkO, n11_11, e59, e67, hadd]; done))
        refine F11.next 68 (iv (pop s + gN)) fun a12 F12 => ?_
        clear F11 a11
        refine tr_make n11_12 (iv vM) _ (by kernel_rfl) rfl rfl ?_ ⟨hT6.cell 0 rfl rfl, hT6.cell 0 rfl rfl, hT6.cell 0 rfl rfl⟩ ?_; (focus (have hq := (show (fun W' : World => W'.cell? ⟨b, 0, none⟩ = some (a.sL) ∧ W'.cell? ⟨b, 1, none⟩ = some (a.sN) ∧ W'.cell? ⟨b, 2, none⟩ = some (a.sK)) X6 from ⟨hT6.cell 0 rfl rfl, hT6.cell 0 rfl rfl, hT6.cell 0 rfl rfl⟩); have e57 : a12.eval (.tmp 57) = (iv v6) := F12.ev 57 (by kernel_rfl); have e68 : a12.eval (.tmp 68) = (iv (pop s + gN)) := F12.ev 68 (by kernel_rfl); generalize a12.eval = ev at e57 e68 ⊢; simp [go_sem, mkO, n11_12, e57, e68, hmx]; done))
        refine F12.next 69 (iv vM) fun a13 F13 => ?_
        clear F12 a12
        refine hQT _ _ ?_
        refine tr_make n11_13 (iv vM) X6 (by kernel_rfl) rfl rfl ?_ trivial ?_; (focus (have e69 : a13.eval (.tmp 69) = (iv vM) := F13.ev 69 (by kernel_rfl); generalize a13.eval = ev at e69 ⊢; simp [go_sem, mkO, n11_13, e69]; done))
        refine F13.next 6 (iv vM) fun a14 F14 => ?_
        clear F13 a13
        exact F14.out hQn hT6.keep ⟨hT6.again, (F14.fin [57, 58, 59, 60, 61, 62, 63, 64, 65, 66, 67, 68, 69] (by kernel_rfl))⟩
    · have hT2 : Tr w W (X1.alloc (.cells #[iv s] 3)) [(X1.heap.size, .cells #[iv s] 3 (0, 0)), (b, .cells #[a.sL, a.sN, a.sK] 25 (0, 0))] := hT1.alloc (.cells #[iv s] 3)
      refine tr_make n11_8 (.slice (some ⟨X1.heap.size, 0, none⟩) 1 1) (X1.alloc (.cells #[iv s] 3)) (by kernel_rfl) rfl rfl ?_ ⟨hT2.cell 1 rfl rfl, hT2.cell 1 rfl rfl, hT2.cell 1 rfl rfl⟩ ?_; (focus (have e64 : a6.eval (.tmp 64) = (iv s) := F6.ev 64 (by kernel_rfl); generalize a6.eval = ev at e64 ⊢; simp [go_sem, mkO, n11_8, e64, hu22]; done))
      obtain ⟨gs, hggs⟩ : ∃ b, X1.heap.size = b := ⟨_, rfl⟩
      simp only [hggs] at hT2 ⊢
      generalize X1.alloc (.cells #[iv s] 3) = X2 at *
      clear hggs hT1
      clear X1
      refine F6.next 65 (.slice (some ⟨gs, 0, none⟩) 1 1) fun a7 F7 => ?_
      clear F6 a6
      have hT3 : Tr w W (X2.alloc (.cells #[] 3)) [(X2.heap.size, .cells #[] 3 (0, 0)), (gs, .cells #[iv s] 3 (0, 0)), (b, .cells #[a.sL, a.sN, a.sK] 25 (0, 0))] := hT2.alloc (.cells #[] 3)
      refine tr_make n11_4 (.slice (some ⟨X2.heap.size, 0, none⟩) 0 0) (X2.alloc (.cells #[] 3)) (by kernel_rfl) rfl rfl ?_ ⟨hT3.cell 2 rfl rfl, hT3.cell 2 rfl rfl, hT3.cell 2 rfl rfl⟩ ?_; (focus (simp [go_sem, mkO, n11_4, hu22]; done))
      obtain ⟨zC, hgzC⟩ : ∃ b, X2.heap.size = b := ⟨_, rfl⟩
      simp only [hgzC] at hT3 ⊢
      generalize X2.alloc (.cells #[] 3) = X3 at *
      clear hgzC hT2
      clear X2
      refine F7.next 61 (.slice (some ⟨zC, 0, none⟩) 0 0) fun a8 F8 => ?_
      clear F7 a7
      obtain ⟨gC, cC, cuC, X4, hrun, hTa, hoC, hba⟩ := hT3.app_nat 0 rfl (A := A) (L := l) (n := n) (c := cb) (hr.below hT3.below) (by omega) hnl 22
      have hT4 : Tr w W X4 [(gC, .cells (cuC).toArray 3 (0, 0)), (gs, .cells #[iv s] 3 (0, 0)), (b, .cells #[a.sL, a.sN, a.sK] 25 (0, 0))] := hTa
      clear hTa
      refine tr_make n11_6 (.slice (some ⟨gC, 0, none⟩) n cC) X4 (by kernel_rfl) rfl rfl (exec_append _ _ 22 rfl (F8.ev 61 (by kernel_rfl)) (F8.ev 62 (by kernel_rfl)) hrun) ⟨hT4.cell 2 rfl rfl, hT4.cell 2 rfl rfl, hT4.cell 2 rfl rfl⟩ ?_
      clear hrun hba hT3
      clear X3
      refine F8.next 63 (.slice (some ⟨gC, 0, none⟩) n cC) fun a9 F9 => ?_
      clear F8 a8
      have hne := Tr.own_ne (hT4.drop (m := [(gC, .cells (cuC).toArray 3 (0, 0)), (b, .cells #[a.sL, a.sN, a.sK] 25 (0, 0))]) (List.Sublist.cons_cons _ (List.Sublist.cons _ (List.Sublist.refl _)))) n cC
      obtain ⟨gD, cD, X5, hrun, hTa, hoD, _⟩ := (hT4.drop (m := [(gs, .cells #[iv s] 3 (0, 0)), (b, .cells #[a.sL, a.sN, a.sK] 25 (0, 0))]) (List.Sublist.cons _ (List.Sublist.refl _))).app_oneN (K := l) hnl hoC hne (by omega)
      have hT5 : Tr w W X5 [(b, .cells #[a.sL, a.sN, a.sK] 25 (0, 0))] := hTa
      obtain ⟨_, _, e, hrD⟩ := row_of_own hoD
      cases e
      clear hTa hoC hoD hne
      refine tr_make n11_9 (.slice (some ⟨gD, 0, none⟩) (n + 1) cD) X5 (by kernel_rfl) rfl rfl (exec_append _ _ 22 rfl (F9.ev 63 (by kernel_rfl)) (F9.ev 65 (by kernel_rfl)) hrun) ⟨hT5.cell 0 rfl rfl, hT5.cell 0 rfl rfl, hT5.cell 0 rfl rfl⟩ ?_
      clear hrun hT4
      clear X4
      refine F9.next 66 (.slice (some ⟨gD, 0, none⟩) (n + 1) cD) fun a10 F10 => ?_
      clear F9 a9
      refine tr_call n11_10 (f := 102) (args := #[.agg #[a.sL, a.sN, a.sK], .slice (some ⟨gD, 0, none⟩) (n + 1) cD]) (by kernel_rfl) rfl rfl ?_ ?_
      · (have e60 : a10.eval (.tmp 60) = (.agg #[a.sL, a.sN, a.sK]) := F10.ev 60 (by kernel_rfl); have e66 : a10.eval (.tmp 66) = (.slice (some ⟨gD, 0, none⟩) (n + 1) cD) := F10.ev 66 (by kernel_rfl); have ef : ∀ f, a10.eval (.func f) = .func (.func f) #[] #[] := fun _ => rfl; generalize a10.eval = ev at e60 e66 ef ⊢; simp [go_sem, mkO, n11_10, ef, e60, e66]; done)
      refine (hrec X5 gD cD hT5.below hrD).mono ?_
      rintro e X6 ⟨rfl, hy⟩
      have hT6 := hT5.step hy
      refine .inl ⟨_, rfl, ⟨hT6.cell 0 rfl rfl, hT6.cell 0 rfl rfl, hT6.cell 0 rfl rfl⟩, ?_⟩
      clear hy hT5
      clear hrD
      clear X5
      refine F10.next 67 (iv gN) fun a11 F11 => ?_
      clear F10 a10
      refine tr_make n11_11 (iv (pop s + gN)) _ (by kernel_rfl) rfl rfl ?_ ⟨hT6.cell 0 rfl rfl, hT6.cell 0 rfl rfl, hT6.cell 0 rfl rfl⟩ ?_; (focus (have hq := (show (fun W' : World => W'.cell? ⟨b, 0, none⟩ = some (a.sL) ∧ W'.cell? ⟨b, 1, none⟩ = some (a.sN) ∧ W'.cell? ⟨b, 2, none⟩ = some (a.sK)) X6 from ⟨hT6.cell 0 rfl rfl, hT6.cell 0 rfl rfl, hT6.cell 0 rfl rfl⟩); have e59 : a11.eval (.tmp 59) = (iv (pop s)) := F11.ev 59 (by kernel_rfl); have e67 : a11.eval (.tmp 67) = (iv gN) := F11.ev 67 (by kernel_rfl); generalize a11.eval = ev at e59 e67 ⊢; simp [go_sem, mkO, n11_11, e59, e67, hadd]; done))
      refine F11.next 68 (iv (pop s + gN)) fun a12 F12 => ?_
      clear F11 a11
      refine tr_make n11_12 (iv vM) _ (by kernel_rfl) rfl rfl ?_ ⟨hT6.cell 0 rfl rfl, hT6.cell 0 rfl rfl, hT6.cell 0 rfl rfl⟩ ?_; (focus (have hq := (show (fun W' : World => W'.cell? ⟨b, 0, none⟩ = some (a.sL) ∧ W'.cell? ⟨b, 1, none⟩ = some (a.sN) ∧ W'.cell? ⟨b, 2, none⟩ = some (a.sK)) X6 from ⟨hT6.cell 0 rfl rfl, hT6.cell 0 rfl rfl, hT6.cell 0 rfl rfl⟩); have e57 : a12.eval (.tmp 57) = (iv v6) := F12.ev 57 (by kernel_rfl); have e68 : a12.eval (.tmp 68) = (iv (pop s + gN)) := F12.ev 68 (by kernel_rfl); generalize a12.eval = ev at e57 e68 ⊢; simp [go_sem, mkO, n11_12, e57, e68, hmx]; done))
      refine F12.next 69 (iv vM) fun a13 F13 => ?_
      clear F12 a12
      refine hQT _ _ ?_
      refine tr_make n11_13 (iv vM) X6 (by kernel_rfl) rfl rfl ?_ trivial ?_; (focus (have e69 : a13.eval (.tmp 69) = (iv vM) := F13.ev 69 (by kernel_rfl); generalize a13.eval = ev at e69 ⊢; simp [go_sem, mkO, n11_13, e69]; done))
      refine F13.next 6 (iv vM) fun a14 F14 => ?_
      clear F13 a13
      exact F14.out hQn hT6.keep ⟨hT6.again, (F14.fin [57, 58, 59, 60, 61, 62, 63, 64, 65, 66, 67, 68, 69] (by kernel_rfl))⟩
  · have hT1 : Tr w W (X0.alloc (.cells #[] 3)) [(X0.heap.size, .cells #[] 3 (0, 0)), (b, .cells #[a.sL, a.sN, a.sK] 25 (0, 0))] := hT0.alloc (.cells #[] 3)
    refine tr_make n11_4 (.slice (some ⟨X0.heap.size, 0, none⟩) 0 0) (X0.alloc (.cells #[] 3)) (by kernel_rfl) rfl rfl ?_ ⟨hT1.cell 1 rfl rfl, hT1.cell 1 rfl rfl, hT1.cell 1 rfl rfl⟩ ?_; (focus (simp [go_sem, mkO, n11_4, hu22]; done))
    obtain ⟨zC, hgzC⟩ : ∃ b, X0.heap.size = b := ⟨_, rfl⟩
    simp only [hgzC] at hT1 ⊢
    generalize X0.alloc (.cells #[] 3) = X1 at *
    clear hgzC hT0
    clear X0
    refine F5.next 61 (.slice (some ⟨zC, 0, none⟩) 0 0) fun a6 F6 => ?_
    clear F5 a5
    refine ⟨?_, ?_⟩
    · refine tr_call n11_2 (f := 30) (args := #[iv s]) (by kernel_rfl) rfl rfl ?_ ?_
      · (have e58 : a6.eval (.tmp 58) = (iv s) := F6.ev 58 (by kernel_rfl); have ef : ∀ f, a6.eval (.func f) = .func (.func f) #[] #[] := fun _ => rfl; generalize a6.eval = ev at e58 ef ⊢; simp [go_sem, mkO, n11_2, ef, e58]; done)
      refine (size30 s hs X1).mono ?_
      rintro e X2 ⟨rfl, hy⟩
      have hT2 := hT1.step hy
      refine .inl ⟨_, rfl, ⟨hT2.cell 1 rfl rfl, hT2.cell 1 rfl rfl, hT2.cell 1 rfl rfl⟩, ?_⟩
      clear hy hT1
      clear X1
      refine F6.next 59 (iv (pop s)) fun a7 F7 => ?_
      clear F6 a6
      refine ⟨?_, ?_⟩
      · obtain ⟨gC, cC, cuC, X3, hrun, hTa, hoC, hba⟩ := hT2.app_nat 0 rfl (A := A) (L := l) (n := n) (c := cb) (hr.below hT2.below) (by omega) hnl 22
        have hT3 : Tr w W X3 [(gC, .cells (cuC).toArray 3 (0, 0)), (b, .cells #[a.sL, a.sN, a.sK] 25 (0, 0))] := hTa
        clear hTa
        refine tr_make n11_6 (.slice (some ⟨gC, 0, none⟩) n cC) X3 (by kernel_rfl) rfl rfl (exec_append _ _ 22 rfl (F7.ev 61 (by kernel_rfl)) (F7.ev 62 (by kernel_rfl)) hrun) ⟨hT3.cell 1 rfl rfl, hT3.cell 1 rfl rfl, hT3.cell 1 rfl rfl⟩ ?_
        clear hrun hba hT2
        clear X2
        refine F7.next 63 (.slice (some ⟨gC, 0, none⟩) n cC) fun a8 F8 => ?_
        clear F7 a7
        have hT4 : Tr w W (X3.alloc (.cells #[iv s] 3)) [(X3.heap.size, .cells #[iv s] 3 (0, 0)), (gC, .cells (cuC).toArray 3 (0, 0)), (b, .cells #[a.sL, a.sN, a.sK] 25 (0, 0))] := hT3.alloc (.cells #[iv s] 3)
        refine tr_make n11_8 (.slice (some ⟨X3.heap.size, 0, none⟩) 1 1) (X3.alloc (.cells #[iv s] 3)) (by kernel_rfl) rfl rfl ?_ ⟨hT4.cell 2 rfl rfl, hT4.cell 2 rfl rfl, hT4.cell 2 rfl rfl⟩ ?_; (focus (have e64 : a8.eval (.tmp 64) = (iv s) := F8.ev 64 (by kernel_rfl); generalize a8.eval = ev at e64 ⊢; simp [go_sem, mkO, n11_8, e64, hu22]; done))
        replace hoC := World.ownsRow.alloc hoC (.cells #[iv s] 3)
        obtain ⟨gs, hggs⟩ : ∃ b, X3.heap.size = b := ⟨_, rfl⟩
        simp only [hggs] at hT4 ⊢
        generalize X3.alloc (.cells #[iv s] 3) = X4 at *
        clear hggs hT3
        clear X3
        refine F8.next 65 (.slice (some ⟨gs, 0, none⟩) 1 1) fun a9 F9 => ?_
        clear F8 a8
        have hne := Tr.own_ne (hT4.drop (m := [(gC, .cells (cuC).toArray 3 (0, 0)), (b, .cells #[a.sL, a.sN, a.sK] 25 (0, 0))]) (List.Sublist.cons _ (List.Sublist.refl _))) n cC
        obtain ⟨gD, cD, X5, hrun, hTa, hoD, _⟩ := (hT4.drop (m := [(gs, .cells #[iv s] 3 (0, 0)), (b, .cells #[a.sL, a.sN, a.sK] 25 (0, 0))]) (List.Sublist.cons_cons _ (List.Sublist.cons _ (List.Sublist.refl _)))).app_oneN (K := l) hnl hoC hne (by omega)
        have hT5 : Tr w W X5 [(b, .cells #[a.sL, a.sN, a.sK] 25 (0, 0))] := hTa
        obtain ⟨_, _, e, hrD⟩ := row_of_own hoD
        cases e
        clear hTa hoC hoD hne
        refine tr_make n11_9 (.slice (some ⟨gD, 0, none⟩) (n + 1) cD) X5 (by kernel_rfl) rfl rfl (exec_append _ _ 22 rfl (F9.ev 63 (by kernel_rfl)) (F9.ev 65 (by kernel_rfl)) hrun) ⟨hT5.cell 0 rfl rfl, hT5.cell 0 rfl rfl, hT5.cell 0 rfl rfl⟩ ?_
        clear hrun hT4
        clear X4
        refine F9.next 66 (.slice (some ⟨gD, 0, none⟩) (n + 1) cD) fun a10 F10 => ?_
        clear F9 a9
        refine tr_call n11_10 (f := 102) (args := #[.agg #[a.sL, a.sN, a.sK], .slice (some ⟨gD, 0, none⟩) (n + 1) cD]) (by kernel_rfl) rfl rfl ?_ ?_
        · (have e60 : a10.eval (.tmp 60) = (.agg #[a.sL, a.sN, a.sK]) := F10.ev 60 (by kernel_rfl); have e66 : a10.eval (.tmp 66) = (.slice (some ⟨gD, 0, none⟩) (n + 1) cD) := F10.ev 66 (by kernel_rfl); have ef : ∀ f, a10.eval (.func f) = .func (.func f) #[] #[] := fun _ => rfl; generalize a10.eval = ev at e60 e66 ef ⊢; simp [go_sem, mkO, n11_10, ef, e60, e66]; done)
        refine (hrec X5 gD cD hT5.below hrD).mono ?_
        rintro e X6 ⟨rfl, hy⟩
        have hT6 := hT5.step hy
        refine .inl ⟨_, rfl, ⟨hT6.cell 0 rfl rfl, hT6.cell 0 rfl rfl, hT6.cell 0 rfl rfl⟩, ?_⟩
        clear hy hT5
        clear hrD
        clear X5
        refine F10.next 67 (iv gN) fun a11 F11 => ?_
        clear F10 a10
        refine tr_make n11_11 (iv (pop s + gN)) _ (by kernel_rfl) rfl rfl ?_ ⟨hT6.cell 0 rfl rfl, hT6.cell 0 rfl rfl, hT6.cell 0 rfl rfl⟩ ?_; (focus (have hq := (show (fun W' : World => W'.cell? ⟨b, 0, none⟩ = some (a.sL) ∧ W'.cell? ⟨b, 1, none⟩ = some (a.sN) ∧ W'.cell? ⟨b, 2, none⟩ = some (a.sK)) X6 from ⟨hT6.cell 0 rfl rfl, hT6.cell 0 rfl rfl, hT6.cell 0 rfl rfl⟩); have e59 : a11.eval (.tmp 59) = (iv (pop s)) := F11.ev 59 (by kernel_rfl); have e67 : a11.eval (.tmp 67) = (iv gN) := F11.ev 67 (by kernel_rfl); generalize a11.eval = ev at e59 e67 ⊢; simp [go_sem, mkO, n11_11, e59, e67, hadd]; done))
        refine F11.next 68 (iv (pop s + gN)) fun a12 F12 => ?_
        clear F11 a11
        refine tr_make n11_12 (iv vM) _ (by kernel_rfl) rfl rfl ?_ ⟨hT6.cell 0 rfl rfl, hT6.cell 0 rfl rfl, hT6.cell 0 rfl rfl⟩ ?_; (focus (have hq := (show (fun W' : World => W'.cell? ⟨b, 0, none⟩ = some (a.sL) ∧ W'.cell? ⟨b, 1, none⟩ = some (a.sN) ∧ W'.cell? ⟨b, 2, none⟩ = some (a.sK)) X6 from ⟨hT6.cell 0 rfl rfl, hT6.cell 0 rfl rfl, hT6.cell 0 rfl rfl⟩); have e57 : a12.eval (.tmp 57) = (iv v6) := F12.ev 57 (by kernel_rfl); have e68 : a12.eval (.tmp 68) = (iv (pop s + gN)) := F12.ev 68 (by kernel_rfl); generalize a12.eval = ev at e57 e68 ⊢; simp [go_sem, mkO, n11_12, e57, e68, hmx]; done))
        refine F12.next 69 (iv vM) fun a13 F13 => ?_
        clear F12 a12
        refine hQT _ _ ?_
        refine tr_make n11_13 (iv vM) X6 (by kernel_rfl) rfl rfl ?_ trivial ?_; (focus (have e69 : a13.eval (.tmp 69) = (iv vM) := F13.ev 69 (by kernel_rfl); generalize a13.eval = ev at e69 ⊢; simp [go_sem, mkO, n11_13, e69]; done))
        refine F13.next 6 (iv vM) fun a14 F14 => ?_
        clear F13 a13
        exact F14.out hQn hT6.keep ⟨hT6.again, (F14.fin [57, 58, 59, 60, 61, 62, 63, 64, 65, 66, 67, 68, 69] (by kernel_rfl))⟩
      · have hT3 : Tr w W (X2.alloc (.cells #[iv s] 3)) [(X2.heap.size, .cells #[iv s] 3 (0, 0)), (zC, .cells #[] 3 (0, 0)), (b, .cells #[a.sL, a.sN, a.sK] 25 (0, 0))] := hT2.alloc (.cells #[iv s] 3)
        refine tr_make n11_8 (.slice (some ⟨X2.heap.size, 0, none⟩) 1 1) (X2.alloc (.cells #[iv s] 3)) (by kernel_rfl) rfl rfl ?_ ⟨hT3.cell 2 rfl rfl, hT3.cell 2 rfl rfl, hT3.cell 2 rfl rfl⟩ ?_; (focus (have e64 : a7.eval (.tmp 64) = (iv s) := F7.ev 64 (by kernel_rfl); generalize a7.eval = ev at e64 ⊢; simp [go_sem, mkO, n11_8, e64, hu22]; done))
        obtain ⟨gs, hggs⟩ : ∃ b, X2.heap.size = b := ⟨_, rfl⟩
        simp only [hggs] at hT3 ⊢
        generalize X2.alloc (.cells #[iv s] 3) = X3 at *
        clear hggs hT2
        clear X2
        refine F7.next 65 (.slice (some ⟨gs, 0, none⟩) 1 1) fun a8 F8 => ?_
        clear F7 a7
        obtain ⟨gC, cC, cuC, X4, hrun, hTa, hoC, hba⟩ := hT3.app_nat 1 rfl (A := A) (L := l) (n := n) (c := cb) (hr.below hT3.below) (by omega) hnl 22
        have hT4 : Tr w W X4 [(gs, .cells #[iv s] 3 (0, 0)), (gC, .cells (cuC).toArray 3 (0, 0)), (b, .cells #[a.sL, a.sN, a.sK] 25 (0, 0))] := hTa
        clear hTa
        refine tr_make n11_6 (.slice (some ⟨gC, 0, none⟩) n cC) X4 (by kernel_rfl) rfl rfl (exec_append _ _ 22 rfl (F8.ev 61 (by kernel_rfl)) (F8.ev 62 (by kernel_rfl)) hrun) ⟨hT4.cell 2 rfl rfl, hT4.cell 2 rfl rfl, hT4.cell 2 rfl rfl⟩ ?_
        clear hrun hba hT3
        clear X3
        refine F8.next 63 (.slice (some ⟨gC, 0, none⟩) n cC) fun a9 F9 => ?_
        clear F8 a8
        have hne := Tr.own_ne (hT4.drop (m := [(gC, .cells (cuC).toArray 3 (0, 0)), (b, .cells #[a.sL, a.sN, a.sK] 25 (0, 0))]) (List.Sublist.cons _ (List.Sublist.refl _))) n cC
        obtain ⟨gD, cD, X5, hrun, hTa, hoD, _⟩ := (hT4.drop (m := [(gs, .cells #[iv s] 3 (0, 0)), (b, .cells #[a.sL, a.sN, a.sK] 25 (0, 0))]) (List.Sublist.cons_cons _ (List.Sublist.cons _ (List.Sublist.refl _)))).app_oneN (K := l) hnl hoC hne (by omega)
        have hT5 : Tr w W X5 [(b, .cells #[a.sL, a.sN, a.sK] 25 (0, 0))] := hTa
        obtain ⟨_, _, e, hrD⟩ := row_of_own hoD
        cases e
        clear hTa hoC hoD hne
        refine tr_make n11_9 (.slice (some ⟨gD, 0, none⟩) (n + 1) cD) X5 (by kernel_rfl) rfl rfl (exec_append _ _ 22 rfl (F9.ev 63 (by kernel_rfl)) (F9.ev 65 (by kernel_rfl)) hrun) ⟨hT5.cell 0 rfl rfl, hT5.cell 0 rfl rfl, hT5.cell 0 rfl rfl⟩ ?_
        clear hrun hT4
        clear X4
        refine F9.next 66 (.slice (some ⟨gD, 0, none⟩) (n + 1) cD) fun a10 F10 => ?_
        clear F9 a9
        refine tr_call n11_10 (f := 102) (args := #[.agg #[a.sL, a.sN, a.sK], .slice (some ⟨gD, 0, none⟩) (n + 1) cD]) (by kernel_rfl) rfl rfl ?_ ?_
        · (have e60 : a10.eval (.tmp 60) = (.agg #[a.sL, a.sN, a.sK]) := F10.ev 60 (by kernel_rfl); have e66 : a10.eval (.tmp 66) = (.slice (some ⟨gD, 0, none⟩) (n + 1) cD) := F10.ev 66 (by kernel_rfl); have ef : ∀ f, a10.eval (.func f) = .func (.func f) #[] #[] := fun _ => rfl; generalize a10.eval = ev at e60 e66 ef ⊢; simp [go_sem, mkO, n11_10, ef, e60, e66]; done)
        refine (hrec X5 gD cD hT5.below hrD).mono ?_
        rintro e X6 ⟨rfl, hy⟩
        have hT6 := hT5.step hy
        refine .inl ⟨_, rfl, ⟨hT6.cell 0 rfl rfl, hT6.cell 0 rfl rfl, hT6.cell 0 rfl rfl⟩, ?_⟩
        clear hy hT5
        clear hrD
        clear X5
        refine F10.next 67 (iv gN) fun a11 F11 => ?_
        clear F10 a10
        refine tr_make n11_11 (iv (pop s + gN)) _ (by kernel_rfl) rfl rfl ?_ ⟨hT6.cell 0 rfl rfl, hT6.cell 0 rfl rfl, hT6.cell 0 rfl rfl⟩ ?_; (focus (have hq := (show (fun W' : World => W'.cell? ⟨b, 0, none⟩ = some (a.sL) ∧ W'.cell? ⟨b, 1, none⟩ = some (a.sN) ∧ W'.cell? ⟨b, 2, none⟩ = some (a.sK)) X6 from ⟨hT6.cell 0 rfl rfl, hT6.cell 0 rfl rfl, hT6.cell 0 rfl rfl⟩); have e59 : a11.eval (.tmp 59) = (iv (pop s)) := F11.ev 59 (by kernel_rfl); have e67 : a11.eval (.tmp 67) = (iv gN) := F11.ev 67 (by kernel_rfl); generalize a11.eval = ev at e59 e67 ⊢; simp [go_sem, mkO, n11_11, e59, e67, hadd]; done))
        refine F11.next 68 (iv (pop s + gN)) fun a12 F12 => ?_
        clear F11 a11
        refine tr_make n11_12 (iv vM) _ (by kernel_rfl) rfl rfl ?_ ⟨hT6.cell 0 rfl rfl, hT6.cell 0 rfl rfl, hT6.cell 0 rfl rfl⟩ ?_; (focus (have hq := (show (fun W' : World => W'.cell? ⟨b, 0, none⟩ = some (a.sL) ∧ W'.cell? ⟨b, 1, none⟩ = some (a.sN) ∧ W'.cell? ⟨b, 2, none⟩ = some (a.sK)) X6 from ⟨hT6.cell 0 rfl rfl, hT6.cell 0 rfl rfl, hT6.cell 0 rfl rfl⟩); have e57 : a12.eval (.tmp 57) = (iv v6) := F12.ev 57 (by kernel_rfl); have e68 : a12.eval (.tmp 68) = (iv (pop s + gN)) := F12.ev 68 (by kernel_rfl); generalize a12.eval = ev at e57 e68 ⊢; simp [go_sem, mkO, n11_12, e57, e68, hmx]; done))
        refine F12.next 69 (iv vM) fun a13 F13 => ?_
        clear F12 a12
        refine hQT _ _ ?_
        refine tr_make n11_13 (iv vM) X6 (by kernel_rfl) rfl rfl ?_ trivial ?_; (focus (have e69 : a13.eval (.tmp 69) = (iv vM) := F13.ev 69 (by kernel_rfl); generalize a13.eval = ev at e69 ⊢; simp [go_sem, mkO, n11_13, e69]; done))
        refine F13.next 6 (iv vM) fun a14 F14 => ?_
        clear F13 a13
        exact F14.out hQn hT6.keep ⟨hT6.again, (F14.fin [57, 58, 59, 60, 61, 62, 63, 64, 65, 66, 67, 68, 69] (by kernel_rfl))⟩
    · have hT2 : Tr w W (X1.alloc (.cells #[iv s] 3)) [(X1.heap.size, .cells #[iv s] 3 (0, 0)), (zC, .cells #[] 3 (0, 0)), (b, .cells #[a.sL, a.sN, a.sK] 25 (0, 0))] := hT1.alloc (.cells #[iv s] 3)
      refine tr_make n11_8 (.slice (some ⟨X1.heap.size, 0, none⟩) 1 1) (X1.alloc (.cells #[iv s] 3)) (by kernel_rfl) rfl rfl ?_ ⟨hT2.cell 2 rfl rfl, hT2.cell 2 rfl rfl, hT2.cell 2 rfl rfl⟩ ?_; (focus (have e64 : a6.eval (.tmp 64) = (iv s) := F6.ev 64 (by kernel_rfl); generalize a6.eval = ev at e64 ⊢; simp [go_sem, mkO, n11_8, e64, hu22]; done))
      obtain ⟨gs, hggs⟩ : ∃ b, X1.heap.size = b := ⟨_, rfl⟩
      simp only [hggs] at hT2 ⊢
      generalize X1.alloc (.cells #[iv s] 3) = X2 at *
      clear hggs hT1
      clear X1
      refine F6.next 65 (.slice (some ⟨gs, 0, none⟩) 1 1) fun a7 F7 => ?_
      clear F6 a6
      refine tr_call n11_2 (f := 30) (args := #[iv s]) (by kernel_rfl) rfl rfl ?_ ?_
      · (have e58 : a7.eval (.tmp 58) = (iv s) := F7.ev 58 (by kernel_rfl); have ef : ∀ f, a7.eval (.func f) = .func (.func f) #[] #[] := fun _ => rfl; generalize a7.eval = ev at e58 ef ⊢; simp [go_sem, mkO, n11_2, ef, e58]; done)
      refine (size30 s hs X2).mono ?_
      rintro e X3 ⟨rfl, hy⟩
      have hT3 := hT2.step hy
      refine .inl ⟨_, rfl, ⟨hT3.cell 2 rfl rfl, hT3.cell 2 rfl rfl, hT3.cell 2 rfl rfl⟩, ?_⟩
      clear hy hT2
      clear X2
      refine F7.next 59 (iv (pop s)) fun a8 F8 => ?_
      clear F7 a7
      obtain ⟨gC, cC, cuC, X4, hrun, hTa, hoC, hba⟩ := hT3.app_nat 1 rfl (A := A) (L := l) (n := n) (c := cb) (hr.below hT3.below) (by omega) hnl 22
      have hT4 : Tr w W X4 [(gs, .cells #[iv s] 3 (0, 0)), (gC, .cells (cuC).toArray 3 (0, 0)), (b, .cells #[a.sL, a.sN, a.sK] 25 (0, 0))] := hTa
      clear hTa
      refine tr_make n11_6 (.slice (some ⟨gC, 0, none⟩) n cC) X4 (by kernel_rfl) rfl rfl (exec_append _ _ 22 rfl (F8.ev 61 (by kernel_rfl)) (F8.ev 62 (by kernel_rfl)) hrun) ⟨hT4.cell 2 rfl rfl, hT4.cell 2 rfl rfl, hT4.cell 2 rfl rfl⟩ ?_
      clear hrun hba hT3
      clear X3
      refine F8.next 63 (.slice (some ⟨gC, 0, none⟩) n cC) fun a9 F9 => ?_
      clear F8 a8
      have hne := Tr.own_ne (hT4.drop (m := [(gC, .cells (cuC).toArray 3 (0, 0)), (b, .cells #[a.sL, a.sN, a.sK] 25 (0, 0))]) (List.Sublist.cons _ (List.Sublist.refl _))) n cC
      obtain ⟨gD, cD, X5, hrun, hTa, hoD, _⟩ := (hT4.drop (m := [(gs, .cells #[iv s] 3 (0, 0)), (b, .cells #[a.sL, a.sN, a.sK] 25 (0, 0))]) (List.Sublist.cons_cons _ (List.Sublist.cons _ (List.Sublist.refl _)))).app_oneN (K := l) hnl hoC hne (by omega)
      have hT5 : Tr w W X5 [(b, .cells #[a.sL, a.sN, a.sK] 25 (0, 0))] := hTa
      obtain ⟨_, _, e, hrD⟩ := row_of_own hoD
      cases e
      clear hTa hoC hoD hne
      refine tr_make n11_9 (.slice (some ⟨gD, 0, none⟩) (n + 1) cD) X5 (by kernel_rfl) rfl rfl (exec_append _ _ 22 rfl (F9.ev 63 (by kernel_rfl)) (F9.ev 65 (by kernel_rfl)) hrun) ⟨hT5.cell 0 rfl rfl, hT5.cell 0 rfl rfl, hT5.cell 0 rfl rfl⟩ ?_
      clear hrun hT4
      clear X4
      refine F9.next 66 (.slice (some ⟨gD, 0, none⟩) (n + 1) cD) fun a10 F10 => ?_
      clear F9 a9
      refine tr_call n11_10 (f := 102) (args := #[.agg #[a.sL, a.sN, a.sK], .slice (some ⟨gD, 0, none⟩) (n + 1) cD]) (by kernel_rfl) rfl rfl ?_ ?_
      · (have e60 : a10.eval (.tmp 60) = (.agg #[a.sL, a.sN, a.sK]) := F10.ev 60 (by kernel_rfl); have e66 : a10.eval (.tmp 66) = (.slice (some ⟨gD, 0, none⟩) (n + 1) cD) := F10.ev 66 (by kernel_rfl); have ef : ∀ f, a10.eval (.func f) = .func (.func f) #[] #[] := fun _ => rfl; generalize a10.eval = ev at e60 e66 ef ⊢; simp [go_sem, mkO, n11_10, ef, e60, e66]; done)
      refine (hrec X5 gD cD hT5.below hrD).mono ?_
      rintro e X6 ⟨rfl, hy⟩
      have hT6 := hT5.step hy
      refine .inl ⟨_, rfl, ⟨hT6.cell 0 rfl rfl, hT6.cell 0 rfl rfl, hT6.cell 0 rfl rfl⟩, ?_⟩
      clear hy hT5
      clear hrD
      clear X5
      refine F10.next 67 (iv gN) fun a11 F11 => ?_
      clear F10 a10
      refine tr_make n11_11 (iv (pop s + gN)) _ (by kernel_rfl) rfl rfl ?_ ⟨hT6.cell 0 rfl rfl, hT6.cell 0 rfl rfl, hT6.cell 0 rfl rfl⟩ ?_; (focus (have hq := (show (fun W' : World => W'.cell? ⟨b, 0, none⟩ = some (a.sL) ∧ W'.cell? ⟨b, 1, none⟩ = some (a.sN) ∧ W'.cell? ⟨b, 2, none⟩ = some (a.sK)) X6 from ⟨hT6.cell 0 rfl rfl, hT6.cell 0 rfl rfl, hT6.cell 0 rfl rfl⟩); have e59 : a11.eval (.tmp 59) = (iv (pop s)) := F11.ev 59 (by kernel_rfl); have e67 : a11.eval (.tmp 67) = (iv gN) := F11.ev 67 (by kernel_rfl); generalize a11.eval = ev at e59 e67 ⊢; simp [go_sem, mkO, n11_11, e59, e67, hadd]; done))
      refine F11.next 68 (iv (pop s + gN)) fun a12 F12 => ?_
      clear F11 a11
      refine tr_make n11_12 (iv vM) _ (by kernel_rfl) rfl rfl ?_ ⟨hT6.cell 0 rfl rfl, hT6.cell 0 rfl rfl, hT6.cell 0 rfl rfl⟩ ?_; (focus (have hq := (show (fun W' : World => W'.cell? ⟨b, 0, none⟩ = some (a.sL) ∧ W'.cell? ⟨b, 1, none⟩ = some (a.sN) ∧ W'.cell? ⟨b, 2, none⟩ = some (a.sK)) X6 from ⟨hT6.cell 0 rfl rfl, hT6.cell 0 rfl rfl, hT6.cell 0 rfl rfl⟩); have e57 : a12.eval (.tmp 57) = (iv v6) := F12.ev 57 (by kernel_rfl); have e68 : a12.eval (.tmp 68) = (iv (pop s + gN)) := F12.ev 68 (by kernel_rfl); generalize a12.eval = ev at e57 e68 ⊢; simp [go_sem, mkO, n11_12, e57, e68, hmx]; done))
      refine F12.next 69 (iv vM) fun a13 F13 => ?_
      clear F12 a12
      refine hQT _ _ ?_
      refine tr_make n11_13 (iv vM) X6 (by kernel_rfl) rfl rfl ?_ trivial ?_; (focus (have e69 : a13.eval (.tmp 69) = (iv vM) := F13.ev 69 (by kernel_rfl); generalize a13.eval = ev at e69 ⊢; simp [go_sem, mkO, n11_13, e69]; done))
      refine F13.next 6 (iv vM) fun a14 F14 => ?_
      clear F13 a13
      exact F14.out hQn hT6.keep ⟨hT6.again, (F14.fin [57, 58, 59, 60, 61, 62, 63, 64, 65, 66, 67, 68, 69] (by kernel_rfl))⟩
  · have hT1 : Tr w W (X0.alloc (.cells #[iv s] 3)) [(X0.heap.size, .cells #[iv s] 3 (0, 0)), (b, .cells #[a.sL, a.sN, a.sK] 25 (0, 0))] := hT0.alloc (.cells #[iv s] 3)
    refine tr_make n11_8 (.slice (some ⟨X0.heap.size, 0, none⟩) 1 1) (X0.alloc (.cells #[iv s] 3)) (by kernel_rfl) rfl rfl ?_ ⟨hT1.cell 1 rfl rfl, hT1.cell 1 rfl rfl, hT1.cell 1 rfl rfl⟩ ?_; (focus (have e64 : a5.eval (.tmp 64) = (iv s) := F5.ev 64 (by kernel_rfl); generalize a5.eval = ev at e64 ⊢; simp [go_sem, mkO, n11_8, e64, hu22]; done))
    obtain ⟨gs, hggs⟩ : ∃ b, X0.heap.size = b := ⟨_, rfl⟩
    simp only [hggs] at hT1 ⊢
    generalize X0.alloc (.cells #[iv s] 3) = X1 at *
    clear hggs hT0
    clear X0
    refine F5.next 65 (.slice (some ⟨gs, 0, none⟩) 1 1) fun a6 F6 => ?_
    clear F5 a5
    refine ⟨?_, ?_⟩
    · refine tr_call n11_2 (f := 30) (args := #[iv s]) (by kernel_rfl) rfl rfl ?_ ?_
      · (have e58 : a6.eval (.tmp 58) = (iv s) := F6.ev 58 (by kernel_rfl); have ef : ∀ f, a6.eval (.func f) = .func (.func f) #[] #[] := fun _ => rfl; generalize a6.eval = ev at e58 ef ⊢; simp [go_sem, mkO, n11_2, ef, e58]; done)
      refine (size30 s hs X1).mono ?_
      rintro e X2 ⟨rfl, hy⟩
      have hT2 := hT1.step hy
      refine .inl ⟨_, rfl, ⟨hT2.cell 1 rfl rfl, hT2.cell 1 rfl rfl, hT2.cell 1 rfl rfl⟩, ?_⟩
      clear hy hT1
      clear X1
      refine F6.next 59 (iv (pop s)) fun a7 F7 => ?_
      clear F6 a6
      have hT3 : Tr w W (X2.alloc (.cells #[] 3)) [(X2.heap.size, .cells #[] 3 (0, 0)), (gs, .cells #[iv s] 3 (0, 0)), (b, .cells #[a.sL, a.sN, a.sK] 25 (0, 0))] := hT2.alloc (.cells #[] 3)
      refine tr_make n11_4 (.slice (some ⟨X2.heap.size, 0, none⟩) 0 0) (X2.alloc (.cells #[] 3)) (by kernel_rfl) rfl rfl ?_ ⟨hT3.cell 2 rfl rfl, hT3.cell 2 rfl rfl, hT3.cell 2 rfl rfl⟩ ?_; (focus (simp [go_sem, mkO, n11_4, hu22]; done))
      obtain ⟨zC, hgzC⟩ : ∃ b, X2.heap.size = b := ⟨_, rfl⟩
      simp only [hgzC] at hT3 ⊢
      generalize X2.alloc (.cells #[] 3) = X3 at *
      clear hgzC hT2
      clear X2
      refine F7.next 61 (.slice (some ⟨zC, 0, none⟩) 0 0) fun a8 F8 => ?_
      clear F7 a7
      obtain ⟨gC, cC, cuC, X4, hrun, hTa, hoC, hba⟩ := hT3.app_nat 0 rfl (A := A) (L := l) (n := n) (c := cb) (hr.below hT3.below) (by omega) hnl 22
      have hT4 : Tr w W X4 [(gC, .cells (cuC).toArray 3 (0, 0)), (gs, .cells #[iv s] 3 (0, 0)), (b, .cells #[a.sL, a.sN, a.sK] 25 (0, 0))] := hTa
      clear hTa
      refine tr_make n11_6 (.slice (some ⟨gC, 0, none⟩) n cC) X4 (by kernel_rfl) rfl rfl (exec_append _ _ 22 rfl (F8.ev 61 (by kernel_rfl)) (F8.ev 62 (by kernel_rfl)) hrun) ⟨hT4.cell 2 rfl rfl, hT4.cell 2 rfl rfl, hT4.cell 2 rfl rfl⟩ ?_
      clear hrun hba hT3
      clear X3
      refine F8.next 63 (.slice (some ⟨gC, 0, none⟩) n cC) fun a9 F9 => ?_
      clear F8 a8
      have hne := Tr.own_ne (hT4.drop (m := [(gC, .cells (cuC).toArray 3 (0, 0)), (b, .cells #[a.sL, a.sN, a.sK] 25 (0, 0))]) (List.Sublist.cons_cons _ (List.Sublist.cons _ (List.Sublist.refl _)))) n cC
      obtain ⟨gD, cD, X5, hrun, hTa, hoD, _⟩ := (hT4.drop (m := [(gs, .cells #[iv s] 3 (0, 0)), (b, .cells #[a.sL, a.sN, a.sK] 25 (0, 0))]) (List.Sublist.cons _ (List.Sublist.refl _))).app_oneN (K := l) hnl hoC hne (by omega)
      have hT5 : Tr w W X5 [(b, .cells #[a.sL, a.sN, a.sK] 25 (0, 0))] := hTa
      obtain ⟨_, _, e, hrD⟩ := row_of_own hoD
      cases e
      clear hTa hoC hoD hne
      refine tr_make n11_9 (.slice (some ⟨gD, 0, none⟩) (n + 1) cD) X5 (by kernel_rfl) rfl rfl (exec_append _ _ 22 rfl (F9.ev 63 (by kernel_rfl)) (F9.ev 65 (by kernel_rfl)) hrun) ⟨hT5.cell 0 rfl rfl, hT5.cell 0 rfl rfl, hT5.cell 0 rfl rfl⟩ ?_
      clear hrun hT4
      clear X4
      refine F9.next 66 (.slice (some ⟨gD, 0, none⟩) (n + 1) cD) fun a10 F10 => ?_
      clear F9 a9
      refine tr_call n11_10 (f := 102) (args := #[.agg #[a.sL, a.sN, a.sK], .slice (some ⟨gD, 0, none⟩) (n + 1) cD]) (by kernel_rfl) rfl rfl ?_ ?_
      · (have e60 : a10.eval (.tmp 60) = (.agg #[a.sL, a.sN, a.sK]) := F10.ev 60 (by kernel_rfl); have e66 : a10.eval (.tmp 66) = (.slice (some ⟨gD, 0, none⟩) (n + 1) cD) := F10.ev 66 (by kernel_rfl); have ef : ∀ f, a10.eval (.func f) = .func (.func f) #[] #[] := fun _ => rfl; generalize a10.eval = ev at e60 e66 ef ⊢; simp [go_sem, mkO, n11_10, ef, e60, e66]; done)
      refine (hrec X5 gD cD hT5.below hrD).mono ?_
      rintro e X6 ⟨rfl, hy⟩
      have hT6 := hT5.step hy
      refine .inl ⟨_, rfl, ⟨hT6.cell 0 rfl rfl, hT6.cell 0 rfl rfl, hT6.cell 0 rfl rfl⟩, ?_⟩
      clear hy hT5
      clear hrD
      clear X5
      refine F10.next 67 (iv gN) fun a11 F11 => ?_
      clear F10 a10
      refine tr_make n11_11 (iv (pop s + gN)) _ (by kernel_rfl) rfl rfl ?_ ⟨hT6.cell 0 rfl rfl, hT6.cell 0 rfl rfl, hT6.cell 0 rfl rfl⟩ ?_; (focus (have hq := (show (fun W' : World => W'.cell? ⟨b, 0, none⟩ = some (a.sL) ∧ W'.cell? ⟨b, 1, none⟩ = some (a.sN) ∧ W'.cell? ⟨b, 2, none⟩ = some (a.sK)) X6 from ⟨hT6.cell 0 rfl rfl, hT6.cell 0 rfl rfl, hT6.cell 0 rfl rfl⟩); have e59 : a11.eval (.tmp 59) = (iv (pop s)) := F11.ev 59 (by kernel_rfl); have e67 : a11.eval (.tmp 67) = (iv gN) := F11.ev 67 (by kernel_rfl); generalize a11.eval = ev at e59 e67 ⊢; simp [go_sem, mkO, n11_11, e59, e67, hadd]; done))
      refine F11.next 68 (iv (pop s + gN)) fun a12 F12 => ?_
      clear F11 a11
      refine tr_make n11_12 (iv vM) _ (by kernel_rfl) rfl rfl ?_ ⟨hT6.cell 0 rfl rfl, hT6.cell 0 rfl rfl, hT6.cell 0 rfl rfl⟩ ?_; (focus (have hq := (show (fun W' : World => W'.cell? ⟨b, 0, none⟩ = some (a.sL) ∧ W'.cell? ⟨b, 1, none⟩ = some (a.sN) ∧ W'.cell? ⟨b, 2, none⟩ = some (a.sK)) X6 from ⟨hT6.cell 0 rfl rfl, hT6.cell 0 rfl rfl, hT6.cell 0 rfl rfl⟩); have e57 : a12.eval (.tmp 57) = (iv v6) := F12.ev 57 (by kernel_rfl); have e68 : a12.eval (.tmp 68) = (iv (pop s + gN)) := F12.ev 68 (by kernel_rfl); generalize a12.eval = ev at e57 e68 ⊢; simp [go_sem, mkO, n11_12, e57, e68, hmx]; done))
      refine F12.next 69 (iv vM) fun a13 F13 => ?_
      clear F12 a12
      refine hQT _ _ ?_
      refine tr_make n11_13 (iv vM) X6 (by kernel_rfl) rfl rfl ?_ trivial ?_; (focus (have e69 : a13.eval (.tmp 69) = (iv vM) := F13.ev 69 (by kernel_rfl); generalize a13.eval = ev at e69 ⊢; simp [go_sem, mkO, n11_13, e69]; done))
      refine F13.next 6 (iv vM) fun a14 F14 => ?_
      clear F13 a13
      exact F14.out hQn hT6.keep ⟨hT6.again, (F14.fin [57, 58, 59, 60, 61, 62, 63, 64, 65, 66, 67, 68, 69] (by kernel_rfl))⟩
    · have hT2 : Tr w W (X1.alloc (.cells #[] 3)) [(X1.heap.size, .cells #[] 3 (0, 0)), (gs, .cells #[iv s] 3 (0, 0)), (b, .cells #[a.sL, a.sN, a.sK] 25 (0, 0))] := hT1.alloc (.cells #[] 3)
      refine tr_make n11_4 (.slice (some ⟨X1.heap.size, 0, none⟩) 0 0) (X1.alloc (.cells #[] 3)) (by kernel_rfl) rfl rfl ?_ ⟨hT2.cell 2 rfl rfl, hT2.cell 2 rfl rfl, hT2.cell 2 rfl rfl⟩ ?_; (focus (simp [go_sem, mkO, n11_4, hu22]; done))
      obtain ⟨zC, hgzC⟩ : ∃ b, X1.heap.size = b := ⟨_, rfl⟩
      simp only [hgzC] at hT2 ⊢
      generalize X1.alloc (.cells #[] 3) = X2 at *
      clear hgzC hT1
      clear X1
      refine F6.next 61 (.slice (some ⟨zC, 0, none⟩) 0 0) fun a7 F7 => ?_
      clear F6 a6
      refine tr_call n11_2 (f := 30) (args := #[iv s]) (by kernel_rfl) rfl rfl ?_ ?_
      · (have e58 : a7.eval (.tmp 58) = (iv s) := F7.ev 58 (by kernel_rfl); have ef : ∀ f, a7.eval (.func f) = .func (.func f) #[] #[] := fun _ => rfl; generalize a7.eval = ev at e58 ef ⊢; simp [go_sem, mkO, n11_2, ef, e58]; done)
      refine (size30 s hs X2).mono ?_
      rintro e X3 ⟨rfl, hy⟩
      have hT3 := hT2.step hy
      refine .inl ⟨_, rfl, ⟨hT3.cell 2 rfl rfl, hT3.cell 2 rfl rfl, hT3.cell 2 rfl rfl⟩, ?_⟩
      clear hy hT2
      clear X2
      refine F7.next 59 (iv (pop s)) fun a8 F8 => ?_
      clear F7 a7
      obtain ⟨gC, cC, cuC, X4, hrun, hTa, hoC, hba⟩ := hT3.app_nat 0 rfl (A := A) (L := l) (n := n) (c := cb) (hr.below hT3.below) (by omega) hnl 22
      have hT4 : Tr w W X4 [(gC, .cells (cuC).toArray 3 (0, 0)), (gs, .cells #[iv s] 3 (0, 0)), (b, .cells #[a.sL, a.sN, a.sK] 25 (0, 0))] := hTa
      clear hTa
      refine tr_make n11_6 (.slice (some ⟨gC, 0, none⟩) n cC) X4 (by kernel_rfl) rfl rfl (exec_append _ _ 22 rfl (F8.ev 61 (by kernel_rfl)) (F8.ev 62 (by kernel_rfl)) hrun) ⟨hT4.cell 2 rfl rfl, hT4.cell 2 rfl rfl, hT4.cell 2 rfl rfl⟩ ?_
      clear hrun hba hT3
      clear X3
      refine F8.next 63 (.slice (some ⟨gC, 0, none⟩) n cC) fun a9 F9 => ?_
      clear F8 a8
      have hne := Tr.own_ne (hT4.drop (m := [(gC, .cells (cuC).toArray 3 (0, 0)), (b, .cells #[a.sL, a.sN, a.sK] 25 (0, 0))]) (List.Sublist.cons_cons _ (List.Sublist.cons _ (List.Sublist.refl _)))) n cC
      obtain ⟨gD, cD, X5, hrun, hTa, hoD, _⟩ := (hT4.drop (m := [(gs, .cells #[iv s] 3 (0, 0)), (b, .cells #[a.sL, a.sN, a.sK] 25 (0, 0))]) (List.Sublist.cons _ (List.Sublist.refl _))).app_oneN (K := l) hnl hoC hne (by omega)
      have hT5 : Tr w W X5 [(b, .cells #[a.sL, a.sN, a.sK] 25 (0, 0))] := hTa
      obtain ⟨_, _, e, hrD⟩ := row_of_own hoD
      cases e
      clear hTa hoC hoD hne
      refine tr_make n11_9 (.slice (some ⟨gD, 0, none⟩) (n + 1) cD) X5 (by kernel_rfl) rfl rfl (exec_append _ _ 22 rfl (F9.ev 63 (by kernel_rfl)) (F9.ev 65 (by kernel_rfl)) hrun) ⟨hT5.cell 0 rfl rfl, hT5.cell 0 rfl rfl, hT5.cell 0 rfl rfl⟩ ?_
      clear hrun hT4
      clear X4
      refine F9.next 66 (.slice (some ⟨gD, 0, none⟩) (n + 1) cD) fun a10 F10 => ?_
      clear F9 a9
      refine tr_call n11_10 (f := 102) (args := #[.agg #[a.sL, a.sN, a.sK], .slice (some ⟨gD, 0, none⟩) (n + 1) cD]) (by kernel_rfl) rfl rfl ?_ ?_
      · (have e60 : a10.eval (.tmp 60) = (.agg #[a.sL, a.sN, a.sK]) := F10.ev 60 (by kernel_rfl); have e66 : a10.eval (.tmp 66) = (.slice (some ⟨gD, 0, none⟩) (n + 1) cD) := F10.ev 66 (by kernel_rfl); have ef : ∀ f, a10.eval (.func f) = .func (.func f) #[] #[] := fun _ => rfl; generalize a10.eval = ev at e60 e66 ef ⊢; simp [go_sem, mkO, n11_10, ef, e60, e66]; done)
      refine (hrec X5 gD cD hT5.below hrD).mono ?_
      rintro e X6 ⟨rfl, hy⟩
      have hT6 := hT5.step hy
      refine .inl ⟨_, rfl, ⟨hT6.cell 0 rfl rfl, hT6.cell 0 rfl rfl, hT6.cell 0 rfl rfl⟩, ?_⟩
      clear hy hT5
      clear hrD
      clear X5
      refine F10.next 67 (iv gN) fun a11 F11 => ?_
      clear F10 a10
      refine tr_make n11_11 (iv (pop s + gN)) _ (by kernel_rfl) rfl rfl ?_ ⟨hT6.cell 0 rfl rfl, hT6.cell 0 rfl rfl, hT6.cell 0 rfl rfl⟩ ?_; (focus (have hq := (show (fun W' : World => W'.cell? ⟨b, 0, none⟩ = some (a.sL) ∧ W'.cell? ⟨b, 1, none⟩ = some (a.sN) ∧ W'.cell? ⟨b, 2, none⟩ = some (a.sK)) X6 from ⟨hT6.cell 0 rfl rfl, hT6.cell 0 rfl rfl, hT6.cell 0 rfl rfl⟩); have e59 : a11.eval (.tmp 59) = (iv (pop s)) := F11.ev 59 (by kernel_rfl); have e67 : a11.eval (.tmp 67) = (iv gN) := F11.ev 67 (by kernel_rfl); generalize a11.eval = ev at e59 e67 ⊢; simp [go_sem, mkO, n11_11, e59, e67, hadd]; done))
      refine F11.next 68 (iv (pop s + gN)) fun a12 F12 => ?_
      clear F11 a11
      refine tr_make n11_12 (iv vM) _ (by kernel_rfl) rfl rfl ?_ ⟨hT6.cell 0 rfl rfl, hT6.cell 0 rfl rfl, hT6.cell 0 rfl rfl⟩ ?_; (focus (have hq := (show (fun W' : World => W'.cell? ⟨b, 0, none⟩ = some (a.sL) ∧ W'.cell? ⟨b, 1, none⟩ = some (a.sN) ∧ W'.cell? ⟨b, 2, none⟩ = some (a.sK)) X6 from ⟨hT6.cell 0 rfl rfl, hT6.cell 0 rfl rfl, hT6.cell 0 rfl rfl⟩); have e57 : a12.eval (.tmp 57) = (iv v6) := F12.ev 57 (by kernel_rfl); have e68 : a12.eval (.tmp 68) = (iv (pop s + gN)) := F12.ev 68 (by kernel_rfl); generalize a12.eval = ev at e57 e68 ⊢; simp [go_sem, mkO, n11_12, e57, e68, hmx]; done))
      refine F12.next 69 (iv vM) fun a13 F13 => ?_
      clear F12 a12
      refine hQT _ _ ?_
      refine tr_make n11_13 (iv vM) X6 (by kernel_rfl) rfl rfl ?_ trivial ?_; (focus (have e69 : a13.eval (.tmp 69) = (iv vM) := F13.ev 69 (by kernel_rfl); generalize a13.eval = ev at e69 ⊢; simp [go_sem, mkO, n11_13, e69]; done))
      refine F13.next 6 (iv vM) fun a14 F14 => ?_
      clear F13 a13
      exact F14.out hQn hT6.keep ⟨hT6.again, (F14.fin [57, 58, 59, 60, 61, 62, 63, 64, 65, 66, 67, 68, 69] (by kernel_rfl))⟩
end Go.Proofs.Ytbdmmikflkpmpaa
end

section
namespace Go.Proofs.Ytbdmmikflkpmpaa
open Go.RowKit Go.TL Go.Shelf Go.Pn
def LLr (W : World) (w : World) (v : Value) (ls : List (List Nat)) : Prop := ∃ base, w.heap.size ≤ base ∧ LL W base v ls
theorem LLr.below {W W' w : World} {v : Value} {ls : List (List Nat)} (h : LLr W w v ls) (hb : Below W.heap.size W W') : LLr W' w v ls := by
  obtain ⟨b, h1, h2⟩ := h
  exact ⟨b, h1, h2.below hb⟩
theorem LLr.grow {W W' w : World} {n : Nat} {v : Value} {ls : List (List Nat)} (h : LLr W w v ls) (hG : Grow n W W') : LLr W' w v ls := by
  obtain ⟨b, h1, h2⟩ := h
  exact ⟨b, h1, h2.grow hG⟩
theorem LLr.mono {W w X : World} {v : Value} {ls : List (List Nat)} (h : LLr W X v ls) (hs : w.heap.size ≤ X.heap.size) : LLr W w v ls := by
  obtain ⟨b, h1, h2⟩ := h
  exact ⟨b, Nat.le_trans hs h1, h2⟩
theorem LLr.shape {W w : World} {v : Value} {ls : List (List Nat)} (h : LLr W w v ls) : ∃ A c, v = .slice A ls.length c := by
  obtain ⟨b, h1, h2⟩ := h
  exact h2.shape
theorem LLr.at {W w : World} {A : Option Addr} {n c : Nat} {ls : List (List Nat)} (h : LLr W w (.slice A n c) ls) {i : Nat} {l : List Nat} (hi : ls[i]? = some l) : ∃ ad B d, A = some ad ∧ W.cell? (ad.add i) = some (.slice B l.length d) ∧ RowV W B (l.map iv) := by
  obtain ⟨b, _, vals, ho, hr⟩ := h
  obtain ⟨B, d, e1, e2, _⟩ := hr i l hi
  obtain ⟨A', c', e, hR⟩ := row_of_own ho
  cases e
  obtain ⟨ad, e, hc⟩ := hR i _ e1
  exact ⟨ad, B, d, e, hc, e2⟩
theorem seatK {w : World} {a : XP} (hf : a.Fine) (ha : a.At w) (most : Nat) (hm : most ≤ 2 ^ 40) (hm0 : 0 < most) : Calls Try.prog 62 #[a.val, .slice none 0 0, vi most, .slice none 0 0] w fun e W' => ∃ v', (e = .returned v' ∧ LLr W' w v' ((allF a a.N.length []).take most)) ∧ Below w.heap.size w W' := by
  refine (seat62 hf ha most hm a.N.length [] (by simp) (fun x hx => by cases hx) [] w (.slice none 0 0) none 0 (Below.refl _ _) (LL.nil _ _) (by simp) (fun i v h => by simp at h) (fun ad e _ => by cases e)).mono ?_
  rintro e W' ⟨v', rfl, h1, h2, _⟩
  rw [seatF_eq, if_neg (by simp; omega), List.nil_append] at h1
  exact ⟨v', ⟨rfl, _, Nat.le_refl _, h1⟩, h2.os, h2.tape, h2.output, h2.size, fun j hj => h2.block j hj (fun c => by cases c)⟩
set_option maxRecDepth 100000 in
set_option maxHeartbeats 1000000 in
theorem can97 (a : XP) (hf : a.Fine) (w : World) (ha : a.At w) : Calls Try.prog 97 #[a.val] w fun e W' => e = .returned (.bool (decide (0 < (allF a a.N.length []).length))) ∧ Below w.heap.size w W' := by
  have hu25 := Try.underlying25
  have hu85 := Try.underlying85
  refine calls_of_exec Try.func97 rfl ?_
  simp only [Try.ntmps97, List.size_toArray, List.length_cons, List.length_nil, Nat.reduceAdd, Nat.reduceSub, Array.replicate_succ, Array.replicate_zero, List.push_toArray, List.append_toArray, List.nil_append, List.cons_append]
  simp only [XP.val]
  refine exec_seq (exec_region_o fun ds => ?_)
  gi_wp2
  refine eq_mk ((Keep.refl w).alloc _) ?_
  show Exec _ _ (Code.seq _ _) _ (w.alloc (.cells #[a.sL, a.sN, a.sK] 25)) _
  have hB := (Below.refl w.heap.size w).alloc (Nat.le_refl _) (.cells #[a.sL, a.sN, a.sK] 25)
  have hX : (w.alloc (.cells #[a.sL, a.sN, a.sK] 25)).heap[w.heap.size]? = some (.cells #[a.sL, a.sN, a.sK] 25 (0, 0)) := World.alloc_heap_new _ _
  generalize w.alloc (.cells #[a.sL, a.sN, a.sK] 25) = X at *
  have haX := ha.below hB
  have c0 := cells_get (cs := [_, _, _]) (k := 0) hX rfl
  have c1 := cells_get (cs := [_, _, _]) (k := 1) hX rfl
  have c2 := cells_get (cs := [_, _, _]) (k := 2) hX rfl
  have hcall := seatK hf haX 1 (by omega) (by omega)
  obtain ⟨ls, hls⟩ : ∃ ls, allF a a.N.length [] = ls := ⟨_, rfl⟩
  rw [hls] at hcall ⊢
  clear hls
  have he : decide (((ls.take 1).length : Int) > 0) = decide (0 < ls.length) := by
    congr 1
    rw [List.length_take]
    apply propext
    omega
  generalize ls.take 1 = l1 at *
  refine exec_seq (exec_region_o fun ds => ?_)
  gi_wp2_with fail
  refine ⟨trivial, rfl, (callsIn_wide.2 hcall).mono ?_⟩
  rintro e Z ⟨v, ⟨rfl, hv⟩, hz⟩
  obtain ⟨A, c, rfl⟩ := hv.shape
  clear hcall hv c0 c1 c2
  have HE := Lib.hid he
  clear he
  gi_wp2
  refine eq_mk (Keep.of_below hz) ?_
  have hBZ := hB.trans (hz.mono hB.size)
  exact exec_ret ⟨.inr rfl, fun W' hG => ⟨.bool (decide ((l1.length : Int) > 0)), by simp [results, Try.f97, go_sem], by rw [HE.out], hBZ.trans (hG.below (Nat.le_refl _) hBZ.size)⟩⟩
end Go.Proofs.Ytbdmmikflkpmpaa
end

section
namespace Go.Proofs.Ytbdmmikflkpmpaa
open Go.RowKit Go.TL Go.Shelf Go.Pn
theorem all_head {a : XP} (hf : a.Fine) (h : canV (toP a.s3) = true) : (allF a a.N.length []).head? = some (sitFold a a.N.length).1 := by
  have hF := toP_Fit (XP.good hf)
  have hnl : (toP a.s3).needs.length = a.N.length := by simp [toP, XP.s3]
  have hnf : (nf (toP a.s3)).length = a.N.length := by rw [nf_len hF, hnl]
  obtain ⟨_, h2⟩ := sit_tie hf h a.N.length (Nat.le_refl _)
  obtain ⟨h0, _⟩ := sit_tie hf h 0 (Nat.zero_le _)
  rw [List.drop_of_length_le (by omega)] at h2
  have h3 : (sitFold a a.N.length).1 = sitG a.L.length (nf (toP a.s3)) a.s3.1 := by
    rw [← h2]
    simp [sitG]
  have h4 := sitG_is a.L.length (nf (toP a.s3)) a.s3.1 h0
  rw [← h3, hnf] at h4
  rw [allF_ok hf, List.head?_filter]
  exact h4
theorem all_none {a : XP} (hf : a.Fine) (h : canV (toP a.s3) = false) : allF a a.N.length [] = [] := by
  rw [allF_ok hf, List.filter_eq_nil_iff]
  intro t ht
  rw [(no_seating hf h).2 t ht]
  simp
end Go.Proofs.Ytbdmmikflkpmpaa
end

section
namespace Go.Proofs.Ytbdmmikflkpmpaa
open Go.RowKit Go.TL Go.Shelf Go.Pn
def SeaI (w : World) (a : XP) (A : Option Addr) (cb : Nat) (l : List Nat) (r P : Nat) (m : Nat) (t : Array Value) (Y : World) : Prop :=
  ∃ s : Nat, s ≤ P ∧ m = P - s ∧ PBx Y w.heap.size a ∧ Below w.heap.size w Y ∧ Slots (none :: some (.slice A l.length cb) :: some (.pointer (some ⟨w.heap.size, 0, none⟩)) :: none :: none :: some (iv l.length) :: some (iv (seatsTo a r l s)) :: some (iv s) :: none :: none :: none :: o4 (o4 (o4 (o16 (o16 (o16 [])))))) t
theorem put_row {a : XP} {n s : Nat} (hn : n < a.s3.2.1.length) : (a.s3.2.1.take n ++ [pop s]) ++ a.s3.2.1.drop (n + 1) = a.s3.2.1.set n (pop s) := by
  rw [List.set_eq_take_append_cons_drop, if_pos hn]
  simp
set_option maxRecDepth 100000 in
set_option maxHeartbeats 4000000 in
theorem seats102 {a : XP} (hf : a.Fine) (hc : a.N.length ≤ a.cN) : ∀ (r : Nat) (l : List Nat), l.length + r = a.N.length → (∀ x ∈ l, x < 2 ^ a.L.length) → ∀ (w : World) (A : Option Addr) (cb : Nat), a.At w → RowV w A (l.map iv) →
    Calls Try.prog 102 #[a.val, .slice A l.length cb] w fun e W' => e = .returned (iv (seatsG a r l)) ∧ Below w.heap.size w W' := by
  intro r
  induction r with
  | zero =>
    intro l hlr hlx w A cb ha hr
    have hu25 := Try.underlying25
    have hu22 := Try.underlying22
    have hj6 := hf.j
    have hp6 := hf.p
    have hl6 : l.length ≤ 6 := by omega
    refine calls_of_exec Try.func102 rfl ?_
    simp only [Try.ntmps102, List.size_toArray, List.length_cons, List.length_nil, Nat.reduceAdd, Nat.reduceSub, Array.replicate_succ, Array.replicate_zero, List.push_toArray, List.append_toArray, List.nil_append, List.cons_append]
    simp only [XP.val]
    refine exec_seq (exec_region_o fun ds => ?_)
    gi_wp2
    refine eq_mk ((Keep.refl w).alloc _) ?_
    show Exec _ _ (Code.seq _ _) _ (w.alloc (.cells #[a.sL, a.sN, a.sK] 25)) _
    have hB := (Below.refl w.heap.size w).alloc (Nat.le_refl _) (.cells #[a.sL, a.sN, a.sK] 25)
    have hX : PBx (w.alloc (.cells #[a.sL, a.sN, a.sK] 25)) w.heap.size a := ⟨World.alloc_heap_new _ _, ha.below hB⟩
    generalize w.alloc (.cells #[a.sL, a.sN, a.sK] 25) = X at *
    refine exec_seq (exec_region_o fun ds => ?_)
    gi_wp2
    refine eq_mk (Keep.refl _) ?_
    have hh := hX.heap
    simp only [XP.sN] at hh
    have c1 := cells_get (cs := [_, _, _]) (k := 1) hh rfl
    clear hh
    show Exec _ _ (Code.seq (Code.seq _ _) _) _ _ _
    refine exec_seq (exec_seq (exec_region_o fun ds => ?_))
    gi_wp2
    refine eq_mk (Keep.refl _) ?_
    show Exec _ _ (Code.cond _ _ _) _ _ _
    clear c1
    refine exec_cond (b := true) (by first | rfl | (show Value.bool _ = _; congr 1; first | exact decide_eq_true (by omega) | (simp; omega))) (fun hp => ?_) (fun h => by cases h)
    show Exec _ _ (Code.seq _ _) _ _ _
    refine exec_seq (exec_region_o fun ds => ?_)
    gi_wp2
    refine eq_mk (Keep.refl _) ?_
    exact exec_ret ⟨.inr rfl, fun W' hG => ⟨iv 0, by simp [results, Try.f102, go_sem], rfl, hB.trans (hG.below (Nat.le_refl _) hB.size)⟩⟩
  | succ r ih =>
    intro l hlr hlx w A cb ha hr
    have hu25 := Try.underlying25
    have hu22 := Try.underlying22
    have hj6 := hf.j
    have hp6 := hf.p
    have hl6 : l.length ≤ 6 := by omega
    refine calls_of_exec Try.func102 rfl ?_
    simp only [Try.ntmps102, List.size_toArray, List.length_cons, List.length_nil, Nat.reduceAdd, Nat.reduceSub, Array.replicate_succ, Array.replicate_zero, List.push_toArray, List.append_toArray, List.nil_append, List.cons_append]
    simp only [XP.val]
    refine exec_seq (exec_region_o fun ds => ?_)
    gi_wp2
    refine eq_mk ((Keep.refl w).alloc _) ?_
    show Exec _ _ (Code.seq _ _) _ (w.alloc (.cells #[a.sL, a.sN, a.sK] 25)) _
    have hB := (Below.refl w.heap.size w).alloc (Nat.le_refl _) (.cells #[a.sL, a.sN, a.sK] 25)
    have hX : PBx (w.alloc (.cells #[a.sL, a.sN, a.sK] 25)) w.heap.size a := ⟨World.alloc_heap_new _ _, ha.below hB⟩
    generalize w.alloc (.cells #[a.sL, a.sN, a.sK] 25) = X at *
    refine exec_seq (exec_region_o fun ds => ?_)
    gi_wp2
    refine eq_mk (Keep.refl _) ?_
    have hh := hX.heap
    simp only [XP.sN] at hh
    have c1 := cells_get (cs := [_, _, _]) (k := 1) hh rfl
    clear hh
    show Exec _ _ (Code.seq (Code.seq _ _) _) _ _ _
    refine exec_seq (exec_seq (exec_region_o fun ds => ?_))
    gi_wp2
    refine eq_mk (Keep.refl _) ?_
    show Exec _ _ (Code.cond _ _ _) _ _ _
    clear c1
    refine exec_cond (b := false) (by first | rfl | (show Value.bool _ = _; congr 1; first | exact decide_eq_false (by omega) | (simp; omega))) (fun h => by cases h) (fun _ => exec_skip ?_)
    show Exec _ _ (Code.seq _ _) _ _ _
    refine exec_seq (exec_region_o fun ds => ?_)
    gi_wp2
    refine eq_mk (Keep.refl _) ?_
    show Exec _ _ (Code.seq (Code.seq _ _) _) _ _ _
    refine exec_seq (exec_seq (exec_region_o fun ds => ?_))
    gi_wp2
    refine eq_mk (Keep.refl _) ?_
    show Exec _ _ (Code.block _ _) _ _ _
    refine exec_block ?_
    refine exec_loop (SeaI w a A cb l r (2 ^ a.L.length)) (2 ^ a.L.length) ⟨0, Nat.zero_le _, rfl, hX, hB, by simp [Slots, Fits, seatsTo]⟩ ?_
    clear hX hB
    clear X
    rintro m t Y ⟨s, hs, hm, hX, hB, hSl⟩
    have hgs := seatsTo_succ a r l s
    have hge : seatsTo a r l (2 ^ a.L.length) = seatsG a (r + 1) l := rfl
    have hgb : seatsTo a r l s ≤ 10 * (r + 1) := by
      refine Nat.le_trans ?_ (seatsG_bound a (r + 1) l)
      rw [← hge]
      clear hgs hge hSl hX hB hm
      obtain ⟨d, hd⟩ : ∃ d, 2 ^ a.L.length = s + d := ⟨2 ^ a.L.length - s, by omega⟩
      rw [hd]
      clear hd hs
      induction d with
      | zero => exact Nat.le_refl _
      | succ d ihd =>
        refine Nat.le_trans ihd ?_
        rw [← Nat.add_assoc, seatsTo_succ]
        split
        · exact Nat.le_max_left _ _
        · exact Nat.le_refl _
    have hP10 : 2 ^ a.L.length ≤ 2 ^ 6 := Nat.pow_le_pow_right (by omega) (by omega)
    have hcall := power99 a.L.length (by omega) Y
    have HEQ : RowKit.Hid (s = 2 ^ a.L.length → seatsTo a r l s = seatsG a (r + 1) l) := Lib.hid (fun e => by rw [e, hge])
    clear hge
    obtain ⟨v6, hv6⟩ : ∃ v6, seatsTo a r l s = v6 := ⟨_, rfl⟩
    rw [hv6] at hSl hgs hgb HEQ
    clear hv6
    have HN := Lib.hid hm
    have HGS := Lib.hid hgs
    have HIH := Lib.hid ih
    have HLX := Lib.hid hlx
    clear hm hgs ih hlx
    obtain ⟨P, hP⟩ : ∃ P, 2 ^ a.L.length = P := ⟨_, rfl⟩
    rw [hP] at hs hcall hP10 HN HLX HEQ HIH ⊢
    clear hP
    have hh := hX.heap
    simp only [XP.sL] at hh
    have c0 := cells_get (cs := [_, _, _]) (k := 0) hh rfl
    clear hh
    obtain ⟨x, hx⟩ := Slots.open_ hSl; simp only [fill, Nat.reduceAdd] at hx; subst hx; clear hSl
    show Exec _ _ (Code.seq (Code.seq _ _) (Code.seq _ _)) _ _ _
    refine exec_seq (exec_seq (exec_region_o fun ds => ?_))
    gi_wp2_with fail
    refine ⟨trivial, rfl, (callsIn_wide.2 hcall).mono ?_⟩
    rintro e Z ⟨rfl, hz⟩
    have hXZ := hX.keep hz
    have hBZ := hB.trans (hz.mono hB.size)
    clear hcall c0 hX
    gi_wp2
    refine eq_mk (Keep.of_below hz) ?_
    show Exec _ _ (Code.cond _ _ _) _ _ _
    refine exec_cond (b := decide (s < P)) (by first | rfl | (show Value.bool _ = _; congr 1; exact decide_eq_decide.2 (by omega))) (fun hp => exec_skip ?_) (fun hp => exec_exit ?_)
    · have hsP := of_decide_eq_true hp
      clear hp hz hB
      clear Y
      have HEND : RowKit.Hid (∀ (v2 : Nat) (Z2 : World), seatsTo a r l (s + 1) = v2 → PBx Z2 w.heap.size a → Below w.heap.size w Z2 → ∀ t, Slots (none :: some (.slice A l.length cb) :: some (.pointer (some ⟨w.heap.size, 0, none⟩)) :: none :: none :: some (iv l.length) :: some (iv v2) :: some (iv s) :: none :: none :: none :: o4 (o4 (o4 (o16 (o16 (o16 [])))))) t → Exec Try.prog none (sub (Try.f102.body.getD .skip) [1, 1, 1, 1, 0, 1, 0, 0, 1, 1]) t Z2 (fun e t' W' => e = .normal ∧ ∃ m', m' < m ∧ SeaI w a A cb l r P m' t' W')) := Lib.hid (by
        intro v2 Z2 hv2 hX2 hB2 t hSl
        have hw : IntKind.i64.wrap ((s : Int) + 1) = ((s + 1 : Nat) : Int) := by rw [IntWalk.i64_in _ (by omega)]; norm_cast
        have HX2 := Lib.hid hX2
        clear hX2 hXZ
        obtain ⟨x, hx⟩ := Slots.open_ hSl; simp only [fill, Nat.reduceAdd] at hx; subst hx; clear hSl
        show Exec _ _ (Code.region _ _ _) _ _ _
        refine exec_region_o fun ds => ?_
        gi_wp2
        refine eq_mk (Keep.refl _) ?_
        exact ⟨rfl, m - 1, by have := HN.out; omega, s + 1, by omega, by have := HN.out; omega, HX2.out, hB2, by rw [hv2]; simp [Slots, Fits]; try omega⟩)
      have hh := hXZ.heap
      simp only [XP.sL, XP.sN, XP.sK] at hh
      have c0 := cells_get (cs := [_, _, _]) (k := 0) hh rfl
      have c1 := cells_get (cs := [_, _, _]) (k := 1) hh rfl
      have c2 := cells_get (cs := [_, _, _]) (k := 2) hh rfl
      clear hh
      show Exec _ _ (Code.seq (Code.block _ _) _) _ _ _
      refine exec_seq (exec_block (exec_seq (exec_region_o fun ds => ?_)))
      gi_wp2
      refine eq_mk ((Keep.refl _).alloc _) ?_
      show Exec Try.prog none (sub (Try.f102.body.getD .skip) [1, 1, 1, 1, 0, 1, 0, 0, 1, 0, 0, 1]) _ (Z.alloc (.cells #[a.sL, a.sN, a.sK] 25)) _
      obtain ⟨b8, hb8⟩ : ∃ b8, Z.heap.size = b8 := ⟨_, rfl⟩
      have hb8w : w.heap.size < b8 := by have := heap_lt hXZ.heap; omega
      have hal := (Below.refl Z.heap.size Z).alloc (Nat.le_refl _) (.cells #[a.sL, a.sN, a.sK] 25)
      have h8 : (Z.alloc (.cells #[a.sL, a.sN, a.sK] 25)).heap[b8]? = some (.cells #[a.sL, a.sN, a.sK] 25 (0, 0)) := by rw [← hb8]; exact World.alloc_heap_new _ _
      have hXV := hXZ.keep hal
      have hBV := hBZ.trans (hal.mono hBZ.size)
      rw [hb8]
      clear c0 c1 c2 hXZ hal hBZ
      generalize Z.alloc (.cells #[a.sL, a.sN, a.sK] 25) = V at *
      clear hb8
      clear Z
      have hnl : l.length < a.N.length := by omega
      have hNl : a.s3.2.1.length = a.N.length := by simp [XP.s3]
      have hrowN : ∀ Y, Below w.heap.size w Y → RowV Y a.AN (a.s3.2.1.map iv) := fun Y hY => (XP.np_at (ha.below hY) hf).n
      obtain ⟨ad, hA, h0⟩ := row_n (hrowN V hBV) (i := l.length) (by omega)
      clear h0
      have hck : ∀ Y, Below w.heap.size w Y → Y.cell? (ad.add l.length) = some (iv (a.s3.2.1.getD l.length 0)) := fun Y hY => by
        obtain ⟨_, e, h1⟩ := row_n (hrowN Y hY) (i := l.length) (by omega)
        rw [hA] at e
        cases e
        exact h1
      have hs6 : s < 1024 := by omega
      have hT : Tr w V V [(w.heap.size, .cells #[a.sL, a.sN, a.sK] 25 (0, 0)), (b8, .cells #[a.sL, a.sN, a.sK] 25 (0, 0))] := ⟨hBV, Keep.refl _, fun p hp => by
        simp only [List.mem_cons, List.not_mem_nil, or_false] at hp
        rcases hp with rfl | rfl <;> simp only <;> omega, fun p hp => by
        simp only [List.mem_cons, List.not_mem_nil, or_false] at hp
        rcases hp with rfl | rfl
        · exact hXV.heap
        · exact h8, by simp; omega⟩
      clear hXV h8 hBV
      refine exec_seq ((seats_r9 (w := w) (W := V) (a := a) (A := A) (b := w.heap.size) (b8 := b8) (cb := cb) (n := l.length) (s := s) (v6 := v6) (ad := ad) hf ha hA rfl hnl hc hs6 rfl hT (by simp [Slots, Fits])).mono ?_)
      intro e t V1 hh
      obtain ⟨rfl, gE, cE, hT1, hoE, hSl⟩ := only_normal hh
      clear hT hh
      clear V
      rw [put_row (by omega)] at hoE
      have hlen1 : l.length + 1 + (a.N.length - (l.length + 1)) = a.N.length := by omega
      rw [hlen1] at hoE hT1
      have hrow1 : RowV V1 (some ⟨gE, 0, none⟩) ((a.s3.2.1.set l.length (pop s)).map iv) := by
        obtain ⟨_, _, e, h⟩ := row_of_own hoE
        cases e
        exact h
      clear hoE
      have hput : ∀ Y, Below V1.heap.size V1 Y → (a.put gE cE (a.s3.2.1.set l.length (pop s))).At Y := fun Y hY => by
        have hb := ha.below (hT1.below.trans (hY.mono hT1.below.size))
        refine ⟨hb.l, ?_, hb.k, hb.l4, by show (List.map _ _).length ≤ 40; rw [List.length_map, List.length_set]; have := hb.n4; omega, hb.k4⟩
        show RowV Y _ (((a.s3.2.1.set l.length (pop s)).map fun n : Nat => (n : Int)).map vi)
        rw [List.map_map]
        exact hrow1.below hY
      have hpv : (a.put gE cE (a.s3.2.1.set l.length (pop s))).val = .agg #[a.sL, .slice (some ⟨gE, 0, none⟩) a.N.length cE, a.sK] := by
        have : ((a.s3.2.1.set l.length (pop s)).map fun n : Nat => (n : Int)).length = a.N.length := by rw [List.length_map, List.length_set, hNl]
        simp [XP.val, XP.sL, XP.sN, XP.sK, XP.put, hNl]
      have HR1 : RowKit.Hid (RowV w A (l.map iv)) := Lib.hid hr
      have hN3 : ∀ n ∈ a.s3.2.1, n ≤ 3 := fun n hn => by
        obtain ⟨y, hy, rfl⟩ := List.mem_map.1 (show n ∈ a.N.map Int.toNat from hn)
        have := hf.nb y hy
        omega
      refine exec_cut (fun t V2 => Tr w V2 V2 [(w.heap.size, .cells #[a.sL, a.sN, a.sK] 25 (0, 0))] ∧ Slots (none :: some (.slice A l.length cb) :: some (.pointer (some ⟨w.heap.size, 0, none⟩)) :: none :: none :: some (iv l.length) :: some (iv v6) :: some (iv s) :: some (.pointer (some ⟨b8, 0, none⟩)) :: none :: none :: none :: o4 (o4 (o4 (o16 (o16 (some (.bool (sitW a l s)) :: none :: none :: o4 (o4 (o4 [])))))))) t) ?_ ?_
      · cases hp : decide (pop s ≤ a.s3.2.1.getD l.length 0) with
        | true =>
          have hle : pop s ≤ a.s3.2.1.getD l.length 0 := of_decide_eq_true hp
          have h3 : a.s3.2.1.getD l.length 0 ≤ 3 := hN3 _ (mem_getD (by omega))
          have hfit : ∀ X, Below V1.heap.size V1 X → Calls Try.prog 111 #[.agg #[a.sL, .slice (some ⟨gE, 0, none⟩) a.N.length cE, a.sK], .slice A l.length cb, iv l.length, iv s] X fun e Z => e = .returned (.bool (sitW a l s)) ∧ Below X.heap.size X Z := fun X hX => by
            have h := fits111 (a.put gE cE (a.s3.2.1.set l.length (pop s))) (XP.put_fine hf gE cE (by rw [List.length_set]; exact hNl) (fun n hn => by
              rcases List.mem_or_eq_of_mem_set hn with h | h
              · exact hN3 n h
              · omega)) l (by omega) (fun x hx => Nat.lt_of_lt_of_le (HLX.out x hx) (by omega)) A cb l.length s (by show l.length < (List.map _ _).length; rw [List.length_map, List.length_set]; omega) hs6 X (hput X hX) (HR1.out.below (hT1.below.trans (hX.mono hT1.below.size)))
            have e : fitsF (a.put gE cE (a.s3.2.1.set l.length (pop s))) l l.length s = sitW a l s := by
              rw [XP.put_fits]
              unfold sitW
              rw [hp, Bool.true_and, getD_lt (by rw [List.length_set]; omega), List.getElem_set_self, decide_eq_true rfl, Bool.and_true]
            rw [e, hpv] at h
            exact h
          refine (seats_r10t (w := w) (W := V1) (a := a) (A := A) (b := w.heap.size) (b8 := b8) (cb := cb) (n := l.length) (s := s) (v6 := v6) (ad := ad) hs6 hA hnl hck hp hfit hT1 hSl).mono ?_
          intro e t V2 hh
          obtain ⟨rfl, hT2, _, hSl⟩ := only_normal hh
          exact ⟨hT2.drop (List.Sublist.cons_cons _ (List.nil_sublist _)), hSl⟩
        | false =>
          have e : sitW a l s = false := by
            unfold sitW
            rw [hp]
            rfl
          rw [e]
          refine (seats_r10f (w := w) (W := V1) (a := a) (A := A) (b := w.heap.size) (b8 := b8) (cb := cb) (n := l.length) (s := s) (v6 := v6) (ad := ad) hs6 hA hnl hck hp hT1 hSl).mono ?_
          intro e t V2 hh
          obtain ⟨rfl, hT2, _, hSl⟩ := only_normal hh
          exact ⟨hT2.drop (List.Sublist.cons_cons _ (List.nil_sublist _)), hSl⟩
      · clear hSl hT1 hrow1 hput hpv hck
        clear V1
        rintro t V2 ⟨hT2, hSl⟩
        have hX2 : PBx V2 w.heap.size a := ⟨hT2.at_ _ List.mem_cons_self, ha.below hT2.below⟩
        obtain ⟨q, hq⟩ : ∃ q, sitW a l s = q := ⟨_, rfl⟩
        rw [hq] at hSl HGS
        clear hq
        obtain ⟨x, hx⟩ := Slots.open_ hSl; simp only [fill, Nat.reduceAdd] at hx; subst hx; clear hSl
        show Exec _ _ (Code.cond _ _ _) _ _ _
        cases q with
        | false =>
          refine exec_cond (b := false) rfl (fun h => by cases h) (fun _ => exec_skip ?_)
          show Exec Try.prog none (sub (Try.f102.body.getD .skip) [1, 1, 1, 1, 0, 1, 0, 0, 1, 1]) _ _ _
          refine (HEND.out v6 V2 HGS.out hX2 hT2.below _ (by simp [Slots, Fits])).mono ?_
          rintro e t W ⟨rfl, h⟩
          exact h
        | true =>
          refine exec_cond (b := true) rfl (fun _ => ?_) (fun h => by cases h)
          have hp10 := pop_10 s
          have hg10 := seatsG_bound a r (l ++ [s])
          show Exec Try.prog none (sub (Try.f102.body.getD .skip) [1, 1, 1, 1, 0, 1, 0, 0, 1, 0, 0, 1, 1, 1, 0]) _ _ _
          refine (seats_r11 (w := w) (W := V2) (a := a) (A := A) (l := l) (b := w.heap.size) (cb := cb) (n := l.length) (s := s) (v6 := v6) (gN := seatsG a r (l ++ [s])) (vM := max v6 (pop s + seatsG a r (l ++ [s]))) hs6 (by omega) rfl HR1.out (by omega) rfl (fun X g c hbX hrow => ?_) hT2 (by simp [Slots, Fits])).mono ?_
          · have hi := HIH.out (l ++ [s]) (by rw [List.length_append]; simp only [List.length_cons, List.length_nil]; omega) (fun x hx => by
              rcases List.mem_append.1 hx with h | h
              · exact HLX.out x h
              · rw [List.mem_singleton.1 h]; exact hsP) X (some ⟨g, 0, none⟩) c (ha.below hbX) hrow
            rw [List.length_append] at hi
            exact hi
          · intro e t V3 hh
            obtain ⟨rfl, hT3, hSl⟩ := only_normal hh
            refine (HEND.out _ V3 HGS.out ⟨hT3.at_ _ List.mem_cons_self, ha.below hT3.below⟩ hT3.below t hSl).mono ?_
            rintro e t W ⟨rfl, h⟩
            exact h
    · have hsP : s = P := by have := of_decide_eq_false hp; omega
      have he := HEQ.out hsP
      show Exec _ _ (Code.seq _ _) _ _ _
      refine exec_seq (exec_region_o fun ds => ?_)
      gi_wp2
      refine eq_mk (Keep.refl _) ?_
      exact exec_ret ⟨.inr rfl, fun W' hG => ⟨iv v6, by simp [results, Try.f102, go_sem], by rw [he], hBZ.trans (hG.below (Nat.le_refl _) hBZ.size)⟩⟩
theorem seats43 (a : XP) (hcN : a.N.length ≤ a.cN) (w : World) (ha : a.At w) : Calls Try.prog 43 #[a.val] w fun e w' => e = .returned (.tuple #[vi (seatsA a).1, vi (seatsA a).2]) ∧ Below w.heap.size w w' := by
  have hu25 := Try.underlying25
  have hu85 := Try.underlying85
  have hu22 := Try.underlying22
  obtain ⟨R, hR⟩ : ∃ R, seatsA a = R := ⟨_, rfl⟩
  rw [hR]
  have HR := Lib.hid hR
  clear hR
  refine calls_of_exec Try.func43 rfl ?_
  simp only [Try.ntmps43, List.size_toArray, List.length_cons, List.length_nil, Nat.reduceAdd, Nat.reduceSub, Array.replicate_succ, Array.replicate_zero, List.push_toArray, List.append_toArray, List.nil_append, List.cons_append]
  simp only [XP.val]
  refine exec_seq (exec_region_o fun ds => ?_)
  gi_wp2
  refine eq_mk ((Keep.refl w).alloc _) ?_
  show Exec _ _ (Code.seq _ _) _ (w.alloc (.cells #[a.sL, a.sN, a.sK] 25)) _
  have hB := (Below.refl w.heap.size w).alloc (Nat.le_refl _) (.cells #[a.sL, a.sN, a.sK] 25)
  have hX : (w.alloc (.cells #[a.sL, a.sN, a.sK] 25)).heap[w.heap.size]? = some (.cells #[a.sL, a.sN, a.sK] 25 (0, 0)) := World.alloc_heap_new _ _
  generalize w.alloc (.cells #[a.sL, a.sN, a.sK] 25) = X at *
  have haX := ha.below hB
  have c0 := cells_get (cs := [_, _, _]) (k := 0) hX rfl
  have c1 := cells_get (cs := [_, _, _]) (k := 1) hX rfl
  have c2 := cells_get (cs := [_, _, _]) (k := 2) hX rfl
  have hcall := panels22 a X haX
  obtain ⟨q, hq⟩ : ∃ q, a.isP = q := ⟨_, rfl⟩
  rw [hq] at hcall
  have HQ := Lib.hid hq
  have HX := Lib.hid hX
  clear hq hX
  refine exec_seq (exec_seq (exec_region_o fun ds => ?_))
  gi_wp2_with fail
  refine ⟨trivial, rfl, (callsIn_wide.2 hcall).mono ?_⟩
  rintro e Y ⟨rfl, hy⟩
  have haY := haX.below hy
  have hBY := hB.trans (hy.mono hB.size)
  have hXY := (hy.block _ (heap_lt HX.out)).trans HX.out
  clear hcall c0 c1 c2
  have HXY := Lib.hid hXY
  clear hXY
  gi_wp2
  refine eq_mk (Keep.of_below hy) ?_
  show Exec _ _ (Code.cond _ _ _) _ _ _
  cases q with
  | false =>
    refine exec_cond (b := true) rfl (fun _ => ?_) (fun h => by cases h)
    show Exec _ _ (Code.seq _ _) _ _ _
    refine exec_seq (exec_region_o fun ds => ?_)
    gi_wp2
    refine eq_mk (Keep.refl _) ?_
    have hr : R = (0, 1) := by rw [← HR.out]; unfold seatsA; rw [HQ.out]; rfl
    exact exec_ret ⟨.inr rfl, fun W' hG => ⟨.tuple #[vi 0, vi 1], by simp [results, Try.f43, go_sem], by rw [hr]; exact ⟨rfl, hBY.trans (hG.below (Nat.le_refl _) hBY.size)⟩⟩⟩
  | true =>
    have hf := a.fine HQ.out
    refine exec_cond (b := false) rfl (fun h => by cases h) (fun _ => exec_skip ?_)
    have hr : R = (((seatsV (toP a.s3) : Nat) : Int), 0) := by rw [← HR.out]; unfold seatsA; rw [HQ.out]; rfl
    have hcall := seats102 hf hcN a.N.length [] (by simp) (fun x hx => by cases hx) Y none 0 haY (fun i v h => by simp at h)
    rw [seatsG_is hf] at hcall
    obtain ⟨sv, hsv⟩ : ∃ sv, seatsV (toP a.s3) = sv := ⟨_, rfl⟩
    rw [hsv] at hcall hr
    have HRR := Lib.hid hr
    clear hr hsv
    have c0 := cells_get (cs := [_, _, _]) (k := 0) HXY.out rfl
    have c1 := cells_get (cs := [_, _, _]) (k := 1) HXY.out rfl
    have c2 := cells_get (cs := [_, _, _]) (k := 2) HXY.out rfl
    show Exec _ _ (Code.seq _ _) _ _ _
    refine exec_seq (exec_region_o fun ds => ?_)
    gi_wp2_with fail
    refine ⟨trivial, rfl, (callsIn_wide.2 hcall).mono ?_⟩
    rintro e Z ⟨rfl, hz⟩
    have hBZ := hBY.trans (hz.mono hBY.size)
    clear hcall c0 c1 c2
    gi_wp2
    refine eq_mk (Keep.of_below hz) ?_
    exact exec_ret ⟨.inr rfl, fun W' hG => ⟨.tuple #[iv sv, vi 0], by simp [results, Try.f43, go_sem], by rw [HRR.out], hBZ.trans (hG.below (Nat.le_refl _) hBZ.size)⟩⟩
end Go.Proofs.Ytbdmmikflkpmpaa
end

section
namespace Go.Proofs.Ytbdmmikflkpmpaa
open Go.RowKit Go.TL Go.Shelf Go.Pn
def w7_0t : It := ⟨(Op.fieldAddr 25 (Operand.tmp 5) 2), some 20, 0, true, none⟩
def w7_1t : It := ⟨(Op.load 23 (Operand.tmp 20)), some 21, 23, true, none⟩
def w7_2t : It := ⟨(Op.fieldAddr 25 (Operand.tmp 2) 2), some 22, 0, true, none⟩
def w7_3t : It := ⟨(Op.load 23 (Operand.tmp 22)), some 23, 23, true, none⟩
def w7_4 : It := ⟨(Op.move (Operand.tmp 6)), some 24, 3, false, none⟩
def w7_5 : It := ⟨(Op.indexAddr 23 (Operand.tmp 23) (Operand.tmp 24)), some 25, 0, false, none⟩
def w7_6 : It := ⟨(Op.load 50 (Operand.tmp 25)), some 26, 50, false, none⟩
def w7_7 : It := ⟨(Op.buildSlice 23 1 #[(0, (Operand.tmp 26))]), some 27, 23, false, none⟩
def w7_8 : It := ⟨(Op.call { callee := (Callee.builtin Builtin.append), args := #[(Operand.tmp 21), (Operand.tmp 27)], argTypes := #[23, 23] }), some 28, 23, false, none⟩
def w7_9 : It := ⟨(Op.fieldAddr 25 (Operand.tmp 5) 2), some 29, 0, false, none⟩
def w7_10 : It := ⟨(Op.store 23 (Operand.tmp 29) (Operand.tmp 28)), none, 0, false, none⟩
set_option maxRecDepth 100000 in
set_option maxHeartbeats 4000000 in
theorem wv_r7 {w W : World} {a : XP} {b b4 bt B k s : Nat} {v : Value} {D : List (Nat × Nat)} {q : Nat × Nat} {ad : Addr} (hf : a.Fine) (ha : a.At w) (hA : a.AK = some ad) (hk : k < a.K.length) (hq : a.s3.2.2[k]? = some q) (hDl : D.length ≤ 1000) (ho0 : W.ownsRow B 50 2 v D.length (flatV D)) (hbt : bt < B) (hne : ∀ x ∈ [b, b4, bt], v.ownBlock ≠ some x) (hwB : w.heap.size ≤ B) (hBW : B ≤ W.heap.size) (hT : Tr w W W [(b, .cells #[a.sL, a.sN, a.sK] 25 (0, 0)), (b4, .cells #[.slice none 0 0, .slice none 0 0, .slice none 0 0] 25 (0, 0)), (bt, .cells #[a.sL, a.sN, v] 25 (0, 0))]) {t : Array Value} (hSl : Slots (none :: some (iv s) :: some (.pointer (some ⟨b, 0, none⟩)) :: none :: some (.pointer (some ⟨b4, 0, none⟩)) :: some (.pointer (some ⟨bt, 0, none⟩)) :: some (iv k) :: o4 (o4 (o16 []))) t) :
    Exec Try.prog none (sub (Try.f104.body.getD .skip) [1, 1, 1, 0, 1, 0, 0, 1, 0, 0, 1, 0]) t W (andThen (fun t' W' => ∃ g2 c2, Tr w W' W' [(b, .cells #[a.sL, a.sN, a.sK] 25 (0, 0)), (b4, .cells #[.slice none 0 0, .slice none 0 0, .slice none 0 0] 25 (0, 0)), (bt, .cells #[a.sL, a.sN, .slice (some ⟨g2, 0, none⟩) (D.length + 1) c2] 25 (0, 0))] ∧ W'.ownsRow B 50 2 (.slice (some ⟨g2, 0, none⟩) (D.length + 1) c2) (D.length + 1) (flatV (D ++ [q])) ∧ Slots (none :: some (iv s) :: some (.pointer (some ⟨b, 0, none⟩)) :: none :: some (.pointer (some ⟨b4, 0, none⟩)) :: some (.pointer (some ⟨bt, 0, none⟩)) :: some (iv k) :: o4 (o4 (o16 []))) t') fun _ _ _ => False) := by
  have hu25 := Try.underlying25
  have hu23 := Try.underlying23
  have hu50 := Try.underlying50
  obtain ⟨i0, z0, hi0, _, _, hs50, _⟩ := info50
  have hkI : (k : Int) < a.K.length := by omega
  have hck : ∀ Y, Below w.heap.size w Y → Y.cell? (ad.add (k * 2)) = some (iv q.1) ∧ Y.cell? ⟨(ad.add (k * 2)).block, (ad.add (k * 2)).off + 1, none⟩ = some (iv q.2) := fun Y hY => by
    obtain ⟨_, e, h1, h2⟩ := rowK_of hf (ha.below hY) k q hq
    rw [hA] at e
    cases e
    exact ⟨h1, h2⟩
  have ho := own_grow ho0 (Grow.of_below (B := 0) (Below.refl _ W).drew)
  have hT0 := hT.again.drew
  refine region_tree2 (c := (sub (Try.f104.body.getD .skip) [1, 1, 1, 0, 1, 0, 0, 1, 0, 0, 1, 0])) (id := 7) 9 2 (.one 0 true (.one 1 true (.one 2 true (.one 3 true (.one 4 false (.one 5 false (.one 6 false (.one 7 false (.one 8 false (.nil)))))))))) (.one 9 false (.one 10 false (.nil))) (Opq ((regOps (sub (Try.f104.body.getD .skip) [1, 1, 1, 0, 1, 0, 0, 1, 0, 0, 1, 0])).toList.take 9).toArray) (Opq (regOps (sub (Try.f104.body.getD .skip) [1, 1, 1, 0, 1, 0, 0, 1, 0, 0, 1, 0]))) rfl rfl rfl (by kernel_rfl) (by kernel_rfl) (by kernel_rfl) (by kernel_rfl) (by kernel_rfl) (by kernel_rfl) (by kernel_rfl) (by kernel_rfl) (by kernel_rfl) (by kernel_rfl) (by kernel_rfl) [0, 1, 0, 4, 0, 24, 32, 64, 130] [0, 1, 0, 4, 0, 24, 32, 64, 130, 511, 1023] (by kernel_rfl) (by kernel_rfl) (by kernel_rfl) (by kernel_rfl) (fun W' => W'.cell? ⟨bt, 2, none⟩ = some (v) ∧ W'.cell? ⟨b, 2, none⟩ = some (a.sK) ∧ W'.cell? (ad.add (k * 2)) = some (iv q.1) ∧ W'.cell? ⟨(ad.add (k * 2)).block, (ad.add (k * 2)).off + 1, none⟩ = some (iv q.2)) fun ds Q' Qh hQn hQT => ?_
  have F0 : Fr (none :: some (iv s) :: some (.pointer (some ⟨b, 0, none⟩)) :: none :: some (.pointer (some ⟨b4, 0, none⟩)) :: some (.pointer (some ⟨bt, 0, none⟩)) :: some (iv k) :: o4 (o4 (o16 []))) ds { tmps := t, defers := ds } := Fr.start hSl
  clear hSl
  generalize ({ tmps := t, defers := ds } : Act) = a0 at *
  generalize W.drew = X0 at *
  refine tr_take w7_0t (.pointer (some ⟨bt, 2, none⟩)) (by kernel_rfl) rfl rfl (fun wq hq => ?_) ⟨hT0.cell 2 rfl rfl, hT0.cell 0 rfl rfl, (hck _ hT0.below).1, (hck _ hT0.below).2⟩ ?_; (focus (have e5 : a0.eval (.tmp 5) = (.pointer (some ⟨bt, 0, none⟩)) := F0.ev 5 (by kernel_rfl); generalize a0.eval = ev at e5 ⊢; simp [go_sem, mkO, w7_0t, e5, hu25]; done))
  refine F0.next 20 (.pointer (some ⟨bt, 2, none⟩)) fun a1 F1 => ?_
  clear F0
  refine tr_take w7_1t (v) (by kernel_rfl) rfl rfl (fun wq hq => ?_) ⟨hT0.cell 2 rfl rfl, hT0.cell 0 rfl rfl, (hck _ hT0.below).1, (hck _ hT0.below).2⟩ ?_; (focus (have e20 : a1.eval (.tmp 20) = (.pointer (some ⟨bt, 2, none⟩)) := F1.ev 20 (by kernel_rfl); generalize a1.eval = ev at e20 ⊢; simp [go_sem, mkO, w7_1t, e20, hq.1]; done))
  refine F1.next 21 (v) fun a2 F2 => ?_
  clear F1 a1
  refine tr_take w7_2t (.pointer (some ⟨b, 2, none⟩)) (by kernel_rfl) rfl rfl (fun wq hq => ?_) ⟨hT0.cell 2 rfl rfl, hT0.cell 0 rfl rfl, (hck _ hT0.below).1, (hck _ hT0.below).2⟩ ?_; (focus (have e2 : a2.eval (.tmp 2) = (.pointer (some ⟨b, 0, none⟩)) := F2.ev 2 (by kernel_rfl); generalize a2.eval = ev at e2 ⊢; simp [go_sem, mkO, w7_2t, e2, hu25]; done))
  refine F2.next 22 (.pointer (some ⟨b, 2, none⟩)) fun a3 F3 => ?_
  clear F2 a2
  refine tr_take w7_3t (.slice (some ad) a.K.length a.cK) (by kernel_rfl) rfl rfl (fun wq hq => ?_) ⟨hT0.cell 2 rfl rfl, hT0.cell 0 rfl rfl, (hck _ hT0.below).1, (hck _ hT0.below).2⟩ ?_; (focus (have e22 : a3.eval (.tmp 22) = (.pointer (some ⟨b, 2, none⟩)) := F3.ev 22 (by kernel_rfl); generalize a3.eval = ev at e22 ⊢; simp [go_sem, mkO, w7_3t, e22, hq.2.1, XP.sK, hA]; done))
  refine F3.next 23 (.slice (some ad) a.K.length a.cK) fun a4 F4 => ?_
  clear F3 a3
  refine tr_make w7_4 (iv k) _ (by kernel_rfl) rfl rfl ?_ ⟨hT0.cell 2 rfl rfl, hT0.cell 0 rfl rfl, (hck _ hT0.below).1, (hck _ hT0.below).2⟩ ?_; (focus (have hq := (show (fun W' : World => W'.cell? ⟨bt, 2, none⟩ = some (v) ∧ W'.cell? ⟨b, 2, none⟩ = some (a.sK) ∧ W'.cell? (ad.add (k * 2)) = some (iv q.1) ∧ W'.cell? ⟨(ad.add (k * 2)).block, (ad.add (k * 2)).off + 1, none⟩ = some (iv q.2)) X0 from ⟨hT0.cell 2 rfl rfl, hT0.cell 0 rfl rfl, (hck _ hT0.below).1, (hck _ hT0.below).2⟩); have e6 : a4.eval (.tmp 6) = (iv k) := F4.ev 6 (by kernel_rfl); generalize a4.eval = ev at e6 ⊢; simp [go_sem, mkO, w7_4, e6]; done))
  refine F4.next 24 (iv k) fun a5 F5 => ?_
  clear F4 a4
  refine tr_make w7_5 (.pointer (some (ad.add (k * 2)))) _ (by kernel_rfl) rfl rfl ?_ ⟨hT0.cell 2 rfl rfl, hT0.cell 0 rfl rfl, (hck _ hT0.below).1, (hck _ hT0.below).2⟩ ?_; (focus (have hq := (show (fun W' : World => W'.cell? ⟨bt, 2, none⟩ = some (v) ∧ W'.cell? ⟨b, 2, none⟩ = some (a.sK) ∧ W'.cell? (ad.add (k * 2)) = some (iv q.1) ∧ W'.cell? ⟨(ad.add (k * 2)).block, (ad.add (k * 2)).off + 1, none⟩ = some (iv q.2)) X0 from ⟨hT0.cell 2 rfl rfl, hT0.cell 0 rfl rfl, (hck _ hT0.below).1, (hck _ hT0.below).2⟩); have e23 : a5.eval (.tmp 23) = (.slice (some ad) a.K.length a.cK) := F5.ev 23 (by kernel_rfl); have e24 : a5.eval (.tmp 24) = (iv k) := F5.ev 24 (by kernel_rfl); generalize a5.eval = ev at e23 e24 ⊢; simp [go_sem, mkO, w7_5, e23, e24, hu23, hi0, hs50, hkI]; done))
  refine F5.next 25 (.pointer (some (ad.add (k * 2)))) fun a6 F6 => ?_
  clear F5 a5
  refine tr_make w7_6 (.agg #[iv q.1, iv q.2]) _ (by kernel_rfl) rfl rfl ?_ ⟨hT0.cell 2 rfl rfl, hT0.cell 0 rfl rfl, (hck _ hT0.below).1, (hck _ hT0.below).2⟩ ?_; (focus (have hq := (show (fun W' : World => W'.cell? ⟨bt, 2, none⟩ = some (v) ∧ W'.cell? ⟨b, 2, none⟩ = some (a.sK) ∧ W'.cell? (ad.add (k * 2)) = some (iv q.1) ∧ W'.cell? ⟨(ad.add (k * 2)).block, (ad.add (k * 2)).off + 1, none⟩ = some (iv q.2)) X0 from ⟨hT0.cell 2 rfl rfl, hT0.cell 0 rfl rfl, (hck _ hT0.below).1, (hck _ hT0.below).2⟩); have e25 : a6.eval (.tmp 25) = (.pointer (some (ad.add (k * 2)))) := F6.ev 25 (by kernel_rfl); generalize a6.eval = ev at e25 ⊢; simp [go_sem, mkO, w7_6, e25, hu50, hq.2.2.1, hq.2.2.2]; done))
  refine F6.next 26 (.agg #[iv q.1, iv q.2]) fun a7 F7 => ?_
  clear F6 a6
  have hT1 : Tr w W (X0.alloc (.cells #[iv q.1, iv q.2] 50)) [(X0.heap.size, .cells #[iv q.1, iv q.2] 50 (0, 0)), (b, .cells #[a.sL, a.sN, a.sK] 25 (0, 0)), (b4, .cells #[.slice none 0 0, .slice none 0 0, .slice none 0 0] 25 (0, 0)), (bt, .cells #[a.sL, a.sN, v] 25 (0, 0))] := hT0.alloc (.cells #[iv q.1, iv q.2] 50)
  refine tr_make w7_7 (.slice (some ⟨X0.heap.size, 0, none⟩) 1 1) (X0.alloc (.cells #[iv q.1, iv q.2] 50)) (by kernel_rfl) rfl rfl ?_ ⟨hT1.cell 3 rfl rfl, hT1.cell 1 rfl rfl, (hck _ hT1.below).1, (hck _ hT1.below).2⟩ ?_; (focus (have e26 : a7.eval (.tmp 26) = (.agg #[iv q.1, iv q.2]) := F7.ev 26 (by kernel_rfl); generalize a7.eval = ev at e26 ⊢; simp [go_sem, mkO, w7_7, e26, hu23, hu50]; done))
  replace ho := World.ownsRow.alloc ho (.cells #[iv q.1, iv q.2] 50)
  obtain ⟨gq, hggq⟩ : ∃ b, X0.heap.size = b := ⟨_, rfl⟩
  simp only [hggq] at hT1 ⊢
  generalize X0.alloc (.cells #[iv q.1, iv q.2] 50) = X1 at *
  clear hggq hT0
  clear X0
  refine F7.next 27 (.slice (some ⟨gq, 0, none⟩) 1 1) fun a8 F8 => ?_
  clear F7 a7
  obtain ⟨g2, c2, X2, hrun, hTa, hoa, hsa, hkb, hnb⟩ := hT1.app_pair rfl ho (fun p hp => hne p.1 (by simp only [List.mem_cons, List.not_mem_nil, or_false] at hp; rcases hp with rfl | rfl | rfl <;> simp)) (fun q e => (ho.lt q e).2) (by omega) (Nat.le_trans hBW hT1.keep.size) hwB
  have hT2 : Tr w W X2 [(b, .cells #[a.sL, a.sN, a.sK] 25 (0, 0)), (b4, .cells #[.slice none 0 0, .slice none 0 0, .slice none 0 0] 25 (0, 0)), (bt, .cells #[a.sL, a.sN, v] 25 (0, 0))] := hTa
  replace ho := hoa
  clear hTa hoa hnb
  refine tr_make w7_8 (.slice (some ⟨g2, 0, none⟩) (D.length + 1) c2) X2 (by kernel_rfl) rfl rfl (exec_append _ _ 23 rfl (F8.ev 21 (by kernel_rfl)) (F8.ev 27 (by kernel_rfl)) hrun) ⟨hT2.cell 2 rfl rfl, hT2.cell 0 rfl rfl, (hck _ hT2.below).1, (hck _ hT2.below).2⟩ ?_
  clear hrun hT1 hsa hkb
  clear X1
  refine F8.next 28 (.slice (some ⟨g2, 0, none⟩) (D.length + 1) c2) fun a9 F9 => ?_
  clear F8 a8
  refine hQT _ _ ?_
  refine tr_make w7_9 (.pointer (some ⟨bt, 2, none⟩)) X2 (by kernel_rfl) rfl rfl ?_ trivial ?_; (focus (have e5 : a9.eval (.tmp 5) = (.pointer (some ⟨bt, 0, none⟩)) := F9.ev 5 (by kernel_rfl); generalize a9.eval = ev at e5 ⊢; simp [go_sem, mkO, w7_9, e5, hu25]; done))
  refine F9.next 29 (.pointer (some ⟨bt, 2, none⟩)) fun a10 F10 => ?_
  clear F9 a9
  have hz := hT2.fz 2 rfl
  have hc0 : X2.cell? ⟨bt, 2, none⟩ = some (v) := hT2.cell 2 rfl rfl
  have hT3 : Tr w W (X2.setCell ⟨bt, 2, none⟩ (.slice (some ⟨g2, 0, none⟩) (D.length + 1) c2)) [(b, .cells #[a.sL, a.sN, a.sK] 25 (0, 0)), (b4, .cells #[.slice none 0 0, .slice none 0 0, .slice none 0 0] 25 (0, 0)), (bt, .cells #[a.sL, a.sN, .slice (some ⟨g2, 0, none⟩) (D.length + 1) c2] 25 (0, 0))] := (hT2.set 2 rfl 2 (.slice (some ⟨g2, 0, none⟩) (D.length + 1) c2))
  refine tr_store w7_10 (X2.setCell ⟨bt, 2, none⟩ (.slice (some ⟨g2, 0, none⟩) (D.length + 1) c2)) (by kernel_rfl) rfl rfl ?_ trivial ?_; (focus (have e28 : a10.eval (.tmp 28) = (.slice (some ⟨g2, 0, none⟩) (D.length + 1) c2) := F10.ev 28 (by kernel_rfl); have e29 : a10.eval (.tmp 29) = (.pointer (some ⟨bt, 2, none⟩)) := F10.ev 29 (by kernel_rfl); generalize a10.eval = ev at e28 e29 ⊢; simp [go_sem, mkO, w7_10, e28, e29, hz, hc0]; done))
  replace ho := own_set ho hbt (j := 2) (u := .slice (some ⟨g2, 0, none⟩) (D.length + 1) c2)
  clear hz hc0
  generalize (X2.setCell ⟨bt, 2, none⟩ (.slice (some ⟨g2, 0, none⟩) (D.length + 1) c2)) = X3 at *
  clear hT2
  clear X2
  show seqT _ _ _ _ _ a10 _
  exact F10.out hQn hT3.keep ⟨g2, c2, hT3.again, ho, (F10.fin [20, 21, 22, 23, 24, 25, 26, 27, 28, 29] (by kernel_rfl))⟩
def I104 (w : World) (a : XP) (s : Nat) (n : Nat) (t : Array Value) (W : World) : Prop :=
  ∃ (k : Nat) (v : Value), k ≤ a.K.length ∧ n = a.K.length - k ∧ W38 w a v (waiveTo s a.s3.2.2 k) W ∧ Slots (none :: some (iv s) :: some (.pointer (some ⟨w.heap.size, 0, none⟩)) :: none :: some (.pointer (some ⟨w.heap.size + 1, 0, none⟩)) :: some (.pointer (some ⟨w.heap.size + 1 + 1, 0, none⟩)) :: some (iv k) :: o4 (o4 (o16 []))) t
set_option maxRecDepth 100000 in
set_option maxHeartbeats 2000000 in
theorem waived104 (a : XP) (hf : a.Fine) (s : Nat) (hs : s < 2 ^ 40) (w : World) (ha : a.At w) : Calls Try.prog 104 #[a.val, iv s] w fun e w' => ∃ A c, e = .returned (a.waived A c s).val ∧ (a.waived A c s).At w' ∧ Below w.heap.size w w' := by
  have hu25 := Try.underlying25
  have hu23 := Try.underlying23
  have hu50 := Try.underlying50
  have h10 := hf.k
  have hKl : a.s3.2.2.length = a.K.length := by simp [XP.s3]
  refine calls_of_exec Try.func104 rfl ?_
  simp only [Try.ntmps104, List.size_toArray, List.length_cons, List.length_nil, Nat.reduceAdd, Nat.reduceSub, Array.replicate_succ, Array.replicate_zero, List.push_toArray, List.append_toArray, List.nil_append, List.cons_append]
  simp only [XP.val]
  refine exec_seq (exec_region_o fun ds => ?_)
  gi_wp2
  refine eq_mk (((Keep.refl _).alloc _).alloc _) ?_
  show Exec _ _ (Code.seq _ _) _ ((w.alloc (.cells #[a.sL, a.sN, a.sK] 25)).alloc (.cells #[.slice none 0 0, .slice none 0 0, .slice none 0 0] 25)) _
  have hB := ((Below.refl w.heap.size w).alloc (Nat.le_refl _) (.cells #[a.sL, a.sN, a.sK] 25)).alloc (by simp) (.cells #[.slice none 0 0, .slice none 0 0, .slice none 0 0] 25)
  have b2 : PBx ((w.alloc (.cells #[a.sL, a.sN, a.sK] 25)).alloc (.cells #[.slice none 0 0, .slice none 0 0, .slice none 0 0] 25)) w.heap.size a := ⟨heap_next (World.alloc_heap_new _ _) _, ha.below hB⟩
  have b4 : ((w.alloc (.cells #[a.sL, a.sN, a.sK] 25)).alloc (.cells #[.slice none 0 0, .slice none 0 0, .slice none 0 0] 25)).heap[w.heap.size + 1]? = some (.cells #[.slice none 0 0, .slice none 0 0, .slice none 0 0] 25 (0, 0)) := by
    have := World.alloc_heap_new (w.alloc (.cells #[a.sL, a.sN, a.sK] 25)) (.cells #[.slice none 0 0, .slice none 0 0, .slice none 0 0] 25)
    rwa [World.size_alloc] at this
  have hsz : ((w.alloc (.cells #[a.sL, a.sN, a.sK] 25)).alloc (.cells #[.slice none 0 0, .slice none 0 0, .slice none 0 0] 25)).heap.size = w.heap.size + 1 + 1 := by simp
  generalize (w.alloc (.cells #[a.sL, a.sN, a.sK] 25)).alloc (.cells #[.slice none 0 0, .slice none 0 0, .slice none 0 0] 25) = X at *
  have hh := b2.heap
  simp only [XP.sL, XP.sN, XP.sK] at hh
  have c0 := cells_get (cs := [_, _, _]) (k := 0) hh rfl
  have c1 := cells_get (cs := [_, _, _]) (k := 1) hh rfl
  have c2 := cells_get (cs := [_, _, _]) (k := 2) hh rfl
  clear hh
  refine exec_seq (exec_region_o fun ds => ?_)
  gi_wp2
  refine eq_mk ((Keep.refl _).alloc _) ?_
  show Exec _ _ (Code.seq _ _) _ (X.alloc (.cells #[a.sL, a.sN, a.sK] 25)) _
  have hal := (Below.refl X.heap.size X).alloc (Nat.le_refl _) (.cells #[a.sL, a.sN, a.sK] 25)
  have b5 : (X.alloc (.cells #[a.sL, a.sN, a.sK] 25)).heap[X.heap.size]? = some (.cells #[a.sL, a.sN, a.sK] 25 (0, 0)) := World.alloc_heap_new _ _
  have hsY : (X.alloc (.cells #[a.sL, a.sN, a.sK] 25)).heap.size = X.heap.size + 1 := by simp
  have d2 := b2.keep hal
  have d4 := (hal.block _ (heap_lt b4)).trans b4
  have hBY := hB.trans (hal.mono hB.size)
  clear c0 c1 c2 b2 b4 hal hB
  generalize X.alloc (.cells #[a.sL, a.sN, a.sK] 25) = Y at *
  rw [hsz] at hsY b5
  clear hsz
  clear X
  have hh := b5
  simp only [XP.sL, XP.sN, XP.sK] at hh
  have c2 := cells_get (cs := [_, _, _]) (k := 2) hh rfl
  have f2 : Y.frozen? ⟨w.heap.size + 1 + 1, 2, none⟩ = false := frozen_cells b5
  refine exec_seq (exec_region_o fun ds => ?_)
  gi_wp2
  refine eq_mk ((Keep.refl _).setCell _ _) ?_
  show Exec _ _ (Code.seq (Code.seq _ _) _) _ _ _
  have e5 : (Y.setCell ⟨w.heap.size + 1 + 1, 2, none⟩ (.slice none 0 0)).heap[w.heap.size + 1 + 1]? = some (.cells #[a.sL, a.sN, .slice none 0 0] 25 (0, 0)) := box_set Y _ 2 [a.sL, a.sN, a.sK] 25 _ b5
  have hBZ : Below w.heap.size w (Y.setCell ⟨w.heap.size + 1 + 1, 2, none⟩ (.slice none 0 0)) := hBY.setCell (by show w.heap.size ≤ w.heap.size + 1 + 1; omega) _
  have hW : W38 w a (.slice none 0 0) [] (Y.setCell ⟨w.heap.size + 1 + 1, 2, none⟩ (.slice none 0 0)) := ⟨⟨box_far _ _ _ _ _ _ d2.heap (by omega), ha.below hBZ⟩, box_far _ _ _ _ _ _ d4 (by omega), e5, World.ownsRow_nil _ _ _ _, hBZ⟩
  clear hh c2 f2 d2 d4 b5 hBY e5 hBZ
  generalize Y.setCell ⟨w.heap.size + 1 + 1, 2, none⟩ (.slice none 0 0) = Z at *
  clear hsY
  clear Y
  refine exec_seq (exec_seq (exec_region_o fun ds => ?_))
  gi_wp2
  refine eq_mk (Keep.refl _) ?_
  show Exec _ _ (Code.block _ _) _ _ _
  refine exec_block ?_
  refine exec_loop (I104 w a s) a.K.length ⟨0, .slice none 0 0, by omega, rfl, hW, by simp [Slots, Fits]⟩ ?_
  clear hW
  clear Z
  rintro n t X ⟨k, v, hk, hn, hW, hSl⟩
  have HN := Lib.hid hn
  clear hn
  have hsu := waiveTo_succ s a.s3.2.2 k
  have hMl := waiveTo_len s a.s3.2.2 k
  have hend : k = a.K.length → waiveTo s a.s3.2.2 k = waiveK s a.s3.2.2 := fun e => by unfold waiveK; rw [e, hKl]
  generalize waiveTo s a.s3.2.2 k = M at *
  have hh := hW.b2.heap
  simp only [XP.sK] at hh
  have c2 := cells_get (cs := [_, _, _]) (k := 2) hh rfl
  clear hh
  obtain ⟨x, hx⟩ := Slots.open_ hSl; simp only [fill, Nat.reduceAdd] at hx; subst hx; clear hSl
  show Exec _ _ (Code.seq (Code.seq _ _) (Code.seq _ _)) _ _ _
  refine exec_seq (exec_seq (exec_region_o fun ds => ?_))
  gi_wp2
  refine eq_mk (Keep.refl _) ?_
  show Exec _ _ (Code.cond _ _ _) _ _ _
  refine exec_cond (b := decide (k < a.K.length)) (by first | rfl | (show Value.bool _ = _; congr 1; exact decide_eq_decide.2 (by omega))) (fun hp => exec_skip ?_) (fun hp => exec_exit ?_)
  · have hkl : k < a.K.length := by have := of_decide_eq_true hp; omega
    clear c2
    obtain ⟨y, hy⟩ : ∃ y, a.s3.2.2[k]? = some y := ⟨_, List.getElem?_eq_getElem (by omega)⟩
    obtain ⟨al, hA, _, _⟩ := (XP.np_at hW.b2.at_ hf).k k y hy
    have hA : a.AK = some al := hA
    have hsu := hsu y hy
    obtain ⟨M2, hM2⟩ : ∃ M2, (if s.testBit k then M else M ++ [y]) = M2 := ⟨_, rfl⟩
    rw [hM2] at hsu
    have HS := Lib.hid hsu
    have HM := Lib.hid hM2
    clear hsu hend hM2
    have hcall := has71 s k hs (by omega) X
    obtain ⟨q, hq⟩ : ∃ q, s.testBit k = q := ⟨_, rfl⟩
    rw [hq] at hcall HM
    clear hq
    have HEND : RowKit.Hid (∀ (v' : Value) (Y : World), W38 w a v' M2 Y → ∀ t, Slots (none :: some (iv s) :: some (.pointer (some ⟨w.heap.size, 0, none⟩)) :: none :: some (.pointer (some ⟨w.heap.size + 1, 0, none⟩)) :: some (.pointer (some ⟨w.heap.size + 1 + 1, 0, none⟩)) :: some (iv k) :: o4 (o4 (o16 []))) t → Exec Try.prog none (sub (Try.f104.body.getD .skip) [1, 1, 1, 0, 1, 0, 0, 1, 1]) t Y (fun e t' W' => e = .normal ∧ ∃ m', m' < n ∧ I104 w a s m' t' W')) := Lib.hid (by
      intro v' Y hY t hSl
      have hw : IntKind.i64.wrap ((k : Int) + 1) = ((k + 1 : Nat) : Int) := by rw [IntWalk.i64_in _ (by omega)]; norm_cast
      have HY := Lib.hid hY
      clear hY hcall
      obtain ⟨x, hx⟩ := Slots.open_ hSl; simp only [fill, Nat.reduceAdd] at hx; subst hx; clear hSl
      show Exec _ _ (Code.region _ _ _) _ _ _
      refine exec_region_o fun ds => ?_
      gi_wp2
      refine eq_mk (Keep.refl _) ?_
      exact ⟨rfl, n - 1, by have := HN.out; omega, k + 1, v', by omega, by have := HN.out; omega, by rw [HS.out]; exact HY.out, by simp [Slots, Fits]; try omega⟩)
    show Exec _ _ (Code.seq (Code.block _ _) _) _ _ _
    refine exec_seq (exec_block (exec_seq (exec_region_o fun ds => ?_)))
    gi_wp2_with fail
    refine ⟨trivial, rfl, (callsIn_wide.2 hcall).mono ?_⟩
    rintro e Z ⟨rfl, hz⟩
    have hWZ := Lib.hid (hW.keep hz)
    clear hcall hW
    gi_wp2
    refine eq_mk (Keep.of_below hz) ?_
    show Exec _ _ (Code.cond _ _ _) _ _ _
    cases q with
    | true =>
      refine exec_cond (b := false) rfl (fun h => by cases h) (fun _ => exec_skip ?_)
      show Exec Try.prog none (sub (Try.f104.body.getD .skip) [1, 1, 1, 0, 1, 0, 0, 1, 1]) _ _ _
      refine (HEND.out v Z (by rw [← HM.out, if_pos rfl]; exact hWZ.out) _ (by simp [Slots, Fits])).mono ?_
      rintro e t W ⟨rfl, h⟩
      exact h
    | false =>
      refine exec_cond (b := true) rfl (fun _ => ?_) (fun h => by cases h)
      have h1 := hWZ.out
      have hs0 := h1.below.size
      have hl5 := heap_lt h1.b5
      show Exec Try.prog none (sub (Try.f104.body.getD .skip) [1, 1, 1, 0, 1, 0, 0, 1, 0, 0, 1, 0]) _ _ _
      refine (wv_r7 (w := w) (a := a) (b := w.heap.size) (b4 := w.heap.size + 1) (bt := w.heap.size + 1 + 1) (B := w.heap.size + 1 + 1 + 1) (k := k) (s := s) (v := v) (D := M) (q := y) (ad := al) hf ha hA hkl hy (by omega) h1.own (by omega) (fun x hx e => by have := (h1.own.lt x e).1; simp only [List.mem_cons, List.not_mem_nil, or_false] at hx; omega) (by omega) (by omega) ⟨h1.below, Keep.refl _, fun p hp => by simp only [List.mem_cons, List.not_mem_nil, or_false] at hp; rcases hp with rfl | rfl | rfl <;> simp only <;> omega, fun p hp => by
        simp only [List.mem_cons, List.not_mem_nil, or_false] at hp
        rcases hp with rfl | rfl | rfl
        · exact h1.b2.heap
        · exact h1.b4
        · exact h1.b5, by simp; omega⟩ (by simp [Slots, Fits])).mono ?_
      intro e t W hh
      obtain ⟨rfl, g2, c2, hT, hoW, hSl⟩ := only_normal hh
      refine (HEND.out (.slice (some ⟨g2, 0, none⟩) (M.length + 1) c2) W (by
        rw [← HM.out, if_neg (by simp)]
        exact ⟨⟨hT.at_ _ List.mem_cons_self, ha.below hT.below⟩, hT.at_ _ (List.mem_cons_of_mem _ List.mem_cons_self), hT.at_ _ (List.mem_cons_of_mem _ (List.mem_cons_of_mem _ List.mem_cons_self)), by rw [List.length_append]; exact hoW, hT.below⟩) t hSl).mono ?_
      rintro e t W ⟨rfl, h⟩
      exact h
  · have hkl : k = a.K.length := by have := of_decide_eq_false hp; omega
    have he := hend hkl
    subst he
    clear hsu hend hMl c2
    obtain ⟨A, c, rfl, hRK, hAl⟩ := row_own_pairs hW.own rfl
    have hb5 := hW.b5
    simp only [XP.sL, XP.sN] at hb5
    have c0 := cells_get (cs := [_, _, _]) (k := 0) hb5 rfl
    have c1 := cells_get (cs := [_, _, _]) (k := 1) hb5 rfl
    have c2 := cells_get (cs := [_, _, _]) (k := 2) hb5 rfl
    have d0 := cells_get (cs := [_, _, _]) (k := 0) hW.b4 rfl
    have d1 := cells_get (cs := [_, _, _]) (k := 1) hW.b4 rfl
    have d2 := cells_get (cs := [_, _, _]) (k := 2) hW.b4 rfl
    have df : ∀ o, X.frozen? ⟨w.heap.size + 1, o, none⟩ = false := fun o => frozen_cells hW.b4
    have e0 := box_set _ (w.heap.size + 1) 0 [.slice none 0 0, .slice none 0 0, .slice none 0 0] 25 (.slice a.AL a.L.length a.cL) hW.b4
    have e1 := box_set _ (w.heap.size + 1) 1 [.slice a.AL a.L.length a.cL, .slice none 0 0, .slice none 0 0] 25 (.slice a.AN a.N.length a.cN) e0
    have e2 := box_set _ (w.heap.size + 1) 2 [.slice a.AL a.L.length a.cL, .slice a.AN a.N.length a.cN, .slice none 0 0] 25 (.slice A (waiveK s a.s3.2.2).length c) e1
    have hB := ((hW.below.setCell (p := ⟨w.heap.size + 1, 0, none⟩) (by show w.heap.size ≤ w.heap.size + 1; omega) (.slice a.AL a.L.length a.cL)).setCell (p := ⟨w.heap.size + 1, 1, none⟩) (by show w.heap.size ≤ w.heap.size + 1; omega) (.slice a.AN a.N.length a.cN)).setCell (p := ⟨w.heap.size + 1, 2, none⟩) (by show w.heap.size ≤ w.heap.size + 1; omega) (.slice A (waiveK s a.s3.2.2).length c)
    have hR2 := ((hRK.far (b := w.heap.size + 1) (o := 0) (fun _ ad e => by have := hAl ad e; omega) (.slice a.AL a.L.length a.cL)).far (b := w.heap.size + 1) (o := 1) (fun _ ad e => by have := hAl ad e; omega) (.slice a.AN a.N.length a.cN)).far (b := w.heap.size + 1) (o := 2) (fun _ ad e => by have := hAl ad e; omega) (.slice A (waiveK s a.s3.2.2).length c)
    show Exec _ _ (Code.seq _ _) _ _ _
    refine exec_seq (exec_region_o fun ds => ?_)
    gi_wp2
    refine eq_mk ((((Keep.refl _).setCell _ _).setCell _ _).setCell _ _) ?_
    show Exec _ _ _ _ _ _
    refine exec_ret ⟨.inr rfl, fun W' hG => ?_⟩
    have g2 := hG.same _ _ e2 (.inr rfl)
    have k0 := cells_get (cs := [_, _, _]) (k := 0) g2 rfl
    have k1 := cells_get (cs := [_, _, _]) (k := 1) g2 rfl
    have k2 := cells_get (cs := [_, _, _]) (k := 2) g2 rfl
    have hBG := hB.trans (hG.below (Nat.le_refl _) hB.size)
    refine ⟨.agg #[.slice a.AL a.L.length a.cL, .slice a.AN a.N.length a.cN, .slice A (waiveK s a.s3.2.2).length c], by simp [results, Try.f104, go_sem, hu25, k0, k1, k2], A, c, ?_, XP.waived_at (ha.below hBG) (hR2.grow hG), hBG⟩
    simp [XP.val, XP.sL, XP.sN, XP.sK, XP.waived]
end Go.Proofs.Ytbdmmikflkpmpaa
end

section
namespace Go.Proofs.Ytbdmmikflkpmpaa
open Go.RowKit Go.TL Go.Shelf Go.Pn
attribute [local go_sem] Oper.semAt_some
attribute [local go_sem] run_store_func
def lbAt (a : XP) (m : Nat) (but : Int) (i : Nat) : Nat := if (i : Int) = but then 0 else min (a.s3.1.getD i 0) m
def lbTo (a : XP) (m : Nat) (but : Int) (k : Nat) : List Nat := (List.range a.L.length).map fun i => if i < k then lbAt a m but i else 0
theorem lbTo_len (a : XP) (m : Nat) (but : Int) (k : Nat) : (lbTo a m but k).length = a.L.length := by simp [lbTo]
theorem lbTo_get {a : XP} {m : Nat} {but : Int} {k i : Nat} (hi : i < a.L.length) : (lbTo a m but k)[i]? = some (if i < k then lbAt a m but i else 0) := by
  unfold lbTo
  rw [List.getElem?_map, List.getElem?_range hi]
  rfl
def lbL (a : XP) (m : Nat) (but : Int) : List Nat := lbTo a m but a.L.length
def XP.bound (a : XP) (g m : Nat) (but : Int) : XP := { a with AL := some ⟨g, 0, none⟩, cL := a.L.length, L := (lbL a m but).map fun n : Nat => (n : Int) }
theorem XP.bound_s3 (a : XP) (g m : Nat) (but : Int) : (a.bound g m but).s3 = (lbL a m but, a.s3.2.1, a.s3.2.2) := by
  show (_, _, _) = (_, _, _)
  congr 1
  show ((lbL a m but).map _).map _ = _
  rw [List.map_map]
  conv => rhs; rw [← List.map_id (lbL a m but)]
  exact List.map_congr_left fun n _ => Int.toNat_natCast n
theorem lbL_le {a : XP} (hf : a.Fine) {m : Nat} {but : Int} : ∀ n ∈ lbL a m but, n ≤ 6 := by
  intro n hn
  obtain ⟨i, hi, rfl⟩ := List.mem_map.1 hn
  have hil := List.mem_range.1 hi
  rw [if_pos hil]
  unfold lbAt
  split
  · omega
  · have hl : i < a.s3.1.length := by simpa [XP.s3] using hil
    obtain ⟨y, hy, e⟩ := List.mem_map.1 (show a.s3.1.getD i 0 ∈ a.L.map Int.toNat from mem_getD hl)
    have := hf.lb y hy
    omega
theorem XP.bound_fine {a : XP} (hf : a.Fine) (g m : Nat) (but : Int) : (a.bound g m but).Fine := by
  have hlen : (lbL a m but).length = a.L.length := lbTo_len _ _ _ _
  refine ⟨by show ((lbL a m but).map _).length ≤ 6; rw [List.length_map, hlen]; exact hf.j, hf.p, hf.k, ?_, hf.nb, ?_⟩
  · intro y hy
    obtain ⟨n, hn, rfl⟩ := List.mem_map.1 hy
    have := lbL_le hf n hn
    omega
  · intro y hy
    have := hf.kb y hy
    show (_ ∧ y.1 < (((lbL a m but).map _).length : Int)) ∧ _
    rw [List.length_map, hlen]
    exact this
end Go.Proofs.Ytbdmmikflkpmpaa
end

section
namespace Go.Proofs.Ytbdmmikflkpmpaa
open Go.RowKit Go.TL Go.Shelf Go.Pn
theorem int_push {W : World} {base : Nat} {v : Value} {l : List Nat} (ho : W.ownsRow base 3 1 v l.length (l.map iv)) (n : Nat) (hl : l.length ≤ 1000) (hb : base ≤ W.heap.size) :
    ∃ v' W', (Builtin.append_ #[22, 22] 22 #[v, .slice (some ⟨W.heap.size, 0, none⟩) 1 1]).run Try.prog (W.alloc (.cells #[iv n] 3)) = .ok v' W' ∧ W'.ownsRow base 3 1 v' (l ++ [n]).length ((l ++ [n]).map iv) ∧ W.grownBy W' v.ownBlock ∧ Keep W W' := by
  obtain ⟨i0, hi0, hz0, hz1, hz2⟩ := info3q
  have ha := (Below.refl W.heap.size W).alloc (Nat.le_refl _) (.cells #[iv n] 3)
  obtain ⟨v', W', hrun, hown, hg, _, hat⟩ := run_append_own_at (P := Try.prog) (w := W.alloc (.cells #[iv n] 3)) base 22 22 3 i0 (.int .i64 0) 1 8 Try.underlying22 hi0 hz0 hz1 hz2 rfl (by decide) v l.length (l.map iv) (ho.alloc _) ⟨W.heap.size, 0, none⟩ 1 1 [iv n] rfl (by
    intro j y hj
    match j, hj with
    | 0, hj =>
      cases hj
      exact cells_get (cs := [iv n]) (k := 0) (World.alloc_heap_new _ _) rfl) (by
    intro y hy
    simp at hy
    subst hy
    rfl) (by unfold maxLen; omega) (by omega) (by rw [World.size_alloc]; omega)
  have hgW : W.grownBy W' v.ownBlock := gb_trans (gb_below _ ha) hg
  refine ⟨v', W', hrun, by rw [List.length_append, List.map_append]; simpa using hown, hgW, ?_⟩
  refine ((Keep.refl W).alloc _).grown hg fun j o hj ho' => ?_
  rcases ho.2 with ⟨e, _⟩ | ⟨g, cap, cur, e, _, hg', _⟩
  · rw [e] at hj
    simp [Value.ownBlock] at hj
  · rw [e] at hj
    simp only [Value.ownBlock, Option.some.injEq] at hj
    subst hj
    rw [(ha.block _ (heap_lt hg')).trans hg'] at ho'
    cases ho'
    rfl
theorem lb_take {a : XP} {m k : Nat} {but : Int} (hk : k < a.L.length) : (lbL a m but).take (k + 1) = (lbL a m but).take k ++ [lbAt a m but k] := by
  rw [List.take_add_one]
  congr 1
  unfold lbL
  rw [lbTo_get hk, if_pos hk]
  rfl
def XP.cut (a : XP) (A : Option Addr) (c m : Nat) (but : Int) : XP := { a with AL := A, cL := c, L := (lbL a m but).map fun n : Nat => (n : Int) }
theorem XP.cut_s3 (a : XP) (A : Option Addr) (c m : Nat) (but : Int) : (a.cut A c m but).s3 = (lbL a m but, a.s3.2.1, a.s3.2.2) := XP.bound_s3 a 0 m but
theorem XP.cut_fine {a : XP} (hf : a.Fine) (A : Option Addr) (c m : Nat) (but : Int) : (a.cut A c m but).Fine := by
  have h := XP.bound_fine hf 0 m but
  exact ⟨h.j, h.p, h.k, h.lb, h.nb, h.kb⟩
structure BdX (w : World) (a : XP) (l : List Nat) (v : Value) (W : World) : Prop where
  b : Below w.heap.size w W
  x3 : W.heap[w.heap.size]? = some (.cells #[a.sL, a.sN, a.sK] 25 (0, 0))
  x6 : W.heap[w.heap.size + 1]? = some (.cells #[.slice none 0 0, .slice none 0 0, .slice none 0 0] 25 (0, 0))
  x7 : W.heap[w.heap.size + 2]? = some (.cells #[v, a.sN, a.sK] 25 (0, 0))
  o : W.ownsRow (w.heap.size + 3) 3 1 v l.length (l.map iv)
theorem BdX.push {w : World} {a : XP} {l : List Nat} {v : Value} {W : World} (h : BdX w a l v W) (n : Nat) (hl : l.length ≤ 1000) :
    ∃ v' X, (Builtin.append_ #[22, 22] 22 #[v, .slice (some ⟨W.heap.size, 0, none⟩) 1 1]).run Try.prog (W.alloc (.cells #[iv n] 3)) = .ok v' X ∧ Keep W X ∧ X.heap[w.heap.size + 2]? = some (.cells #[v, a.sN, a.sK] 25 (0, 0)) ∧ BdX w a (l ++ [n]) v' (X.setCell ⟨w.heap.size + 2, 0, none⟩ v') := by
  have hlt := heap_lt h.x7
  obtain ⟨v', X, hrun, hown, hg, hK⟩ := int_push h.o n hl (by omega)
  have hge : ∀ q, v.ownBlock = some q → w.heap.size + 3 ≤ q := fun q e => (h.o.lt q e).1
  have hk : ∀ j o, j < w.heap.size + 3 → W.heap[j]? = some o → X.heap[j]? = some o := fun j o hj ho => (hg.block j (heap_lt ho) (fun e => by have := hge j e.symm; omega)).trans ho
  have hX7 := hk _ _ (by omega) h.x7
  refine ⟨v', X, hrun, hK, hX7, ⟨(h.b.grown hg h.b.size (fun q e => by have := hge q e; omega)).setCell (by show w.heap.size ≤ w.heap.size + 2; omega) _, box_far _ _ _ _ _ _ (hk _ _ (by omega) h.x3) (by omega), box_far _ _ _ _ _ _ (hk _ _ (by omega) h.x6) (by omega), box_set _ _ 0 [_, _, _] 25 _ hX7, ?_⟩⟩
  refine hown.kept (grown_set X _ 0 v') ?_
  cases e : v'.ownBlock with
  | none => exact .inl rfl
  | some q =>
    right
    intro c
    have := (hown.lt q e).1
    have := Option.some.inj c
    omega
def BdI (w : World) (a : XP) (m : Nat) (but : Int) (n : Nat) (t : Array Value) (W : World) : Prop :=
  ∃ (k : Nat) (v : Value), k ≤ a.L.length ∧ n = a.L.length - k ∧ BdX w a ((lbL a m but).take k) v W ∧ Slots (none :: some (vi m) :: some (vi but) :: some (.pointer (some ⟨w.heap.size, 0, none⟩)) :: none :: none :: some (.pointer (some ⟨w.heap.size + 1, 0, none⟩)) :: some (.pointer (some ⟨w.heap.size + 2, 0, none⟩)) :: some (iv k) :: none :: none :: none :: o4 (o4 (o16 []))) t
set_option maxRecDepth 100000 in
set_option maxHeartbeats 2000000 in
theorem bounded98 (a : XP) (hf : a.Fine) (m : Nat) (hm : m ≤ 1000) (but : Int) (w : World) (ha : a.At w) : Calls Try.prog 98 #[a.val, vi m, vi but] w fun e W' => ∃ q : Option Addr × Nat, (e = .returned (a.cut q.1 q.2 m but).val ∧ (a.cut q.1 q.2 m but).At W') ∧ Below w.heap.size w W' := by
  have hu25 := Try.underlying25
  have hu22 := Try.underlying22
  have hj6 := hf.j
  refine calls_of_exec Try.func98 rfl ?_
  simp only [Try.ntmps98, List.size_toArray, List.length_cons, List.length_nil, Nat.reduceAdd, Nat.reduceSub, Array.replicate_succ, Array.replicate_zero, List.push_toArray, List.append_toArray, List.nil_append, List.cons_append]
  simp only [XP.val]
  refine exec_seq (exec_region_o fun ds => ?_)
  gi_wp2
  refine eq_mk (((Keep.refl w).alloc _).alloc _) ?_
  show Exec _ _ (Code.seq _ _) _ ((w.alloc (.cells #[a.sL, a.sN, a.sK] 25)).alloc (.cells #[.slice none 0 0, .slice none 0 0, .slice none 0 0] 25)) _
  have hB1 := ((Below.refl w.heap.size w).alloc (Nat.le_refl _) (.cells #[a.sL, a.sN, a.sK] 25)).alloc (by simp) (.cells #[.slice none 0 0, .slice none 0 0, .slice none 0 0] 25)
  have x3 : ((w.alloc (.cells #[a.sL, a.sN, a.sK] 25)).alloc (.cells #[.slice none 0 0, .slice none 0 0, .slice none 0 0] 25)).heap[w.heap.size]? = some (.cells #[a.sL, a.sN, a.sK] 25 (0, 0)) := heap_next (World.alloc_heap_new _ _) _
  have x6 : ((w.alloc (.cells #[a.sL, a.sN, a.sK] 25)).alloc (.cells #[.slice none 0 0, .slice none 0 0, .slice none 0 0] 25)).heap[w.heap.size + 1]? = some (.cells #[.slice none 0 0, .slice none 0 0, .slice none 0 0] 25 (0, 0)) := by
    have := World.alloc_heap_new (w.alloc (.cells #[a.sL, a.sN, a.sK] 25)) (.cells #[.slice none 0 0, .slice none 0 0, .slice none 0 0] 25)
    rwa [World.size_alloc] at this
  have hsz : ((w.alloc (.cells #[a.sL, a.sN, a.sK] 25)).alloc (.cells #[.slice none 0 0, .slice none 0 0, .slice none 0 0] 25)).heap.size = w.heap.size + 2 := by simp
  generalize (w.alloc (.cells #[a.sL, a.sN, a.sK] 25)).alloc (.cells #[.slice none 0 0, .slice none 0 0, .slice none 0 0] 25) = X at *
  have HSZ := Lib.hid hsz
  clear hsz
  have hh := x3
  simp only [XP.sL, XP.sN, XP.sK] at hh
  have c0 := cells_get (cs := [_, _, _]) (k := 0) hh rfl
  have c1 := cells_get (cs := [_, _, _]) (k := 1) hh rfl
  have c2 := cells_get (cs := [_, _, _]) (k := 2) hh rfl
  clear hh
  refine exec_seq (exec_region_o fun ds => ?_)
  gi_wp2
  refine eq_mk ((Keep.refl _).alloc _) ?_
  show Exec _ _ (Code.seq _ _) _ (X.alloc (.cells #[a.sL, a.sN, a.sK] 25)) _
  have y3 := heap_next x3 (.cells #[a.sL, a.sN, a.sK] 25)
  have y6 := heap_next x6 (.cells #[a.sL, a.sN, a.sK] 25)
  have y7 : (X.alloc (.cells #[a.sL, a.sN, a.sK] 25)).heap[w.heap.size + 2]? = some (.cells #[a.sL, a.sN, a.sK] 25 (0, 0)) := by
    have := World.alloc_heap_new X (.cells #[a.sL, a.sN, a.sK] 25)
    rwa [HSZ.out] at this
  have hBY := hB1.alloc hB1.size (.cells #[a.sL, a.sN, a.sK] 25)
  rw [HSZ.out]
  clear c0 c1 c2 x3 x6 hB1 HSZ
  generalize X.alloc (.cells #[a.sL, a.sN, a.sK] 25) = Y at *
  clear X
  have d0 := cells_get (cs := [_, _, _]) (k := 0) y7 rfl
  have df : Y.frozen? ⟨w.heap.size + 2, 0, none⟩ = false := frozen_cells y7
  have h0 : BdX w a ((lbL a m but).take 0) (.slice none 0 0) (Y.setCell ⟨w.heap.size + 2, 0, none⟩ (.slice none 0 0)) := ⟨hBY.setCell (by show w.heap.size ≤ w.heap.size + 2; omega) _, box_far _ _ _ _ _ _ y3 (by omega), box_far _ _ _ _ _ _ y6 (by omega), box_set _ _ 0 [_, _, _] 25 _ y7, World.ownsRow_nil _ _ _ _⟩
  clear y3 y6 y7 hBY
  refine exec_seq (exec_region_o fun ds => ?_)
  gi_wp2
  refine eq_mk ((Keep.refl _).setCell _ _) ?_
  clear d0 df
  generalize Y.setCell ⟨w.heap.size + 2, 0, none⟩ (.slice none 0 0) = Z at *
  clear Y
  show Exec _ _ (Code.seq (Code.seq _ _) _) _ _ _
  refine exec_seq (exec_seq (exec_region_o fun ds => ?_))
  gi_wp2
  refine eq_mk (Keep.refl _) ?_
  show Exec _ _ (Code.block _ _) _ _ _
  refine exec_block ?_
  refine exec_loop (BdI w a m but) a.L.length ⟨0, .slice none 0 0, by omega, rfl, h0, by simp [Slots, Fits]⟩ ?_
  clear h0
  clear Z
  rintro n t W ⟨k, v, hk, hn, hX, hSl⟩
  have HN := Lib.hid hn
  have HX := Lib.hid hX
  have haW := ha.below hX.b
  have hh := hX.x3
  simp only [XP.sL] at hh
  have c0 := cells_get (cs := [_, _, _]) (k := 0) hh rfl
  clear hn hh hX
  obtain ⟨x, hx⟩ := Slots.open_ hSl; simp only [fill, Nat.reduceAdd] at hx; subst hx; clear hSl
  show Exec _ _ (Code.seq (Code.seq _ _) (Code.seq _ _)) _ _ _
  refine exec_seq (exec_seq (exec_region_o fun ds => ?_))
  gi_wp2
  refine eq_mk (Keep.refl _) ?_
  show Exec _ _ (Code.cond _ _ _) _ _ _
  refine exec_cond (b := decide (k < a.L.length)) (by first | rfl | (show Value.bool _ = _; congr 1; exact decide_eq_decide.2 (by omega))) (fun hp => exec_skip ?_) (fun hp => exec_exit ?_)
  · have hkl := of_decide_eq_true ‹decide (k < a.L.length) = true›
    obtain ⟨ad, hA, hcl⟩ := row_int haW.l hkl
    have hyb := hf.lb _ (List.getElem_mem hkl)
    obtain ⟨y, hy⟩ : ∃ y : Nat, a.L[k] = y := ⟨(a.L[k]).toNat, by omega⟩
    have hsy : a.s3.1.getD k 0 = y := by
      show (a.L.map Int.toNat).getD k 0 = y
      rw [List.getD_eq_getElem?_getD, List.getElem?_map, List.getElem?_eq_getElem hkl]
      simp [hy]
    rw [hy] at hcl hyb
    have hkI : (k : Int) < a.L.length := by omega
    have hat : lbAt a m but k = if (k : Int) = but then 0 else min y m := by unfold lbAt; rw [hsy]
    have HAT := Lib.hid hat
    have htk := lb_take (a := a) (m := m) (but := but) hkl
    have HTK := Lib.hid htk
    have hlk : ((lbL a m but).take k).length = k := by rw [List.length_take, lbL, lbTo_len]; omega
    have HLK := Lib.hid hlk
    clear hat htk hlk hy hsy haW
    simp only [hA] at c0 ⊢
    have HA := Lib.hid hA
    clear hA
    have hend : ∀ z : Nat, z = lbAt a m but k → ∀ t' Y, BdX w a ((lbL a m but).take k) v Y → Slots (none :: some (vi m) :: some (vi but) :: some (.pointer (some ⟨w.heap.size, 0, none⟩)) :: none :: none :: some (.pointer (some ⟨w.heap.size + 1, 0, none⟩)) :: some (.pointer (some ⟨w.heap.size + 2, 0, none⟩)) :: some (iv k) :: some (iv z) :: none :: none :: o4 (o4 (o16 []))) t' → ∀ Q : Exit → Array Value → World → Prop, (∀ t2 Y2 v2, BdX w a ((lbL a m but).take (k + 1)) v2 Y2 → Slots (none :: some (vi m) :: some (vi but) :: some (.pointer (some ⟨w.heap.size, 0, none⟩)) :: none :: none :: some (.pointer (some ⟨w.heap.size + 1, 0, none⟩)) :: some (.pointer (some ⟨w.heap.size + 2, 0, none⟩)) :: some (iv k) :: none :: none :: none :: o4 (o4 (o16 []))) t2 → Q .normal t2 Y2) → Exec Try.prog none (sub (Try.f98.body.getD .skip) [1, 1, 1, 0, 1, 0, 0, 1, 0, 0, 1, 1]) t' Y Q := by
      intro z hz t' Y hX hSl Q hQ
      have HQ := Lib.hid hQ
      clear hQ c0 hcl
      obtain ⟨v', X, hrun, hK, h7, hX'⟩ := hX.push z (by rw [HLK.out]; omega)
      rw [hz, ← HTK.out] at hX'
      clear hz
      have hlk2 : ((lbL a m but).take (k + 1)).length = k + 1 := by rw [List.length_take, lbL, lbTo_len]; omega
      obtain ⟨Av, cv, hv, _⟩ := row_of_own hX.o
      obtain ⟨Aw, cw, hv', _⟩ := row_of_own hX'.o
      rw [HLK.out] at hv
      rw [hlk2] at hv'
      subst hv hv'
      clear hlk2
      have d0 := cells_get (cs := [_, _, _]) (k := 0) hX.x7 rfl
      have HX' := Lib.hid hX'
      clear hX hX'
      have e0 := cells_get (cs := [_, _, _]) (k := 0) h7 rfl
      have ef : X.frozen? ⟨w.heap.size + 2, 0, none⟩ = false := frozen_cells h7
      obtain ⟨x, hx⟩ := Slots.open_ hSl; simp only [fill, Nat.reduceAdd] at hx; subst hx; clear hSl
      show Exec _ _ (Code.region _ _ _) _ _ _
      refine exec_region_o fun ds => ?_
      gi_wp2_with (gi_at_builtin; refine wpListIn_app rfl _ _ 22 rfl rfl rfl hrun ?_)
      refine eq_mk (hK.setCell _ _) ?_
      exact HQ.out _ _ _ HX'.out (by simp [Slots, Fits])
    have HEND := Lib.hid hend
    clear hend
    have hmid : ∀ z : Int, z = ((min y m : Nat) : Int) → ∀ t', Slots (none :: some (vi m) :: some (vi but) :: some (.pointer (some ⟨w.heap.size, 0, none⟩)) :: none :: none :: some (.pointer (some ⟨w.heap.size + 1, 0, none⟩)) :: some (.pointer (some ⟨w.heap.size + 2, 0, none⟩)) :: some (iv k) :: some (vi z) :: none :: none :: o4 (o4 (o16 []))) t' → ∀ Q : Exit → Array Value → World → Prop, (∀ t2 Y2 v2, BdX w a ((lbL a m but).take (k + 1)) v2 Y2 → Slots (none :: some (vi m) :: some (vi but) :: some (.pointer (some ⟨w.heap.size, 0, none⟩)) :: none :: none :: some (.pointer (some ⟨w.heap.size + 1, 0, none⟩)) :: some (.pointer (some ⟨w.heap.size + 2, 0, none⟩)) :: some (iv k) :: none :: none :: none :: o4 (o4 (o16 []))) t2 → Q .normal t2 Y2) → Exec Try.prog none (sub (Try.f98.body.getD .skip) [1, 1, 1, 0, 1, 0, 0, 1, 0, 0, 1]) t' W Q := by
      rintro z hz t' hSl Q hQ
      subst hz
      have HQ := Lib.hid hQ
      clear hQ c0 hcl
      obtain ⟨x, hx⟩ := Slots.open_ hSl; simp only [fill, Nat.reduceAdd] at hx; subst hx; clear hSl
      show Exec _ _ (Code.seq (Code.seq _ _) _) _ _ _
      refine exec_seq (exec_seq (exec_region_o fun ds => ?_))
      obtain ⟨z, hz⟩ : ∃ z, min y m = z := ⟨_, rfl⟩
      rw [hz]
      have HZ := Lib.hid hz
      clear hz
      gi_wp2
      refine eq_mk (Keep.refl _) ?_
      show Exec _ _ (Code.cond _ _ _) _ _ _
      by_cases hkb : (k : Int) = but
      · refine exec_cond (b := true) (by show Value.bool (_ == _) = _; simp [hkb]) (fun _ => ?_) (fun h => by cases h)
        have HKB := Lib.hid hkb
        clear hkb
        show Exec _ _ (Code.region _ _ _) _ _ _
        refine exec_region_o fun ds => ?_
        gi_wp2
        refine eq_mk (Keep.refl _) ?_
        exact HEND.out 0 (by rw [HAT.out, if_pos HKB.out]) _ _ HX.out (by simp [Slots, Fits]) _ HQ.out
      · refine exec_cond (b := false) (by show Value.bool (_ == _) = _; simp [hkb]) (fun h => by cases h) (fun _ => exec_skip ?_)
        exact HEND.out z (by rw [HAT.out, if_neg hkb, HZ.out]) _ _ HX.out (by simp [Slots, Fits]) _ HQ.out
    have HMID := Lib.hid hmid
    clear hmid
    show Exec _ _ (Code.seq (Code.block _ _) _) _ _ _
    refine exec_seq (exec_block (exec_seq (exec_region_o fun ds => ?_)))
    have hpost : ∀ t2 Y2 v2, BdX w a ((lbL a m but).take (k + 1)) v2 Y2 → Slots (none :: some (vi m) :: some (vi but) :: some (.pointer (some ⟨w.heap.size, 0, none⟩)) :: none :: none :: some (.pointer (some ⟨w.heap.size + 1, 0, none⟩)) :: some (.pointer (some ⟨w.heap.size + 2, 0, none⟩)) :: some (iv k) :: none :: none :: none :: o4 (o4 (o16 []))) t2 → Exec Try.prog none (sub (Try.f98.body.getD .skip) [1, 1, 1, 0, 1, 0, 0, 1, 1]) t2 Y2 (fun e t' W' => e = .normal ∧ ∃ m', m' < n ∧ BdI w a m but m' t' W') := by
      rintro t2 Y2 v2 hX2 hSl
      have HX2 := Lib.hid hX2
      clear hX2 c0 hcl
      have hw : IntKind.i64.wrap ((k : Int) + 1) = ((k + 1 : Nat) : Int) := by rw [IntWalk.i64_in _ (by omega)]; norm_cast
      obtain ⟨x, hx⟩ := Slots.open_ hSl; simp only [fill, Nat.reduceAdd] at hx; subst hx; clear hSl
      show Exec _ _ (Code.region _ _ _) _ _ _
      refine exec_region_o fun ds => ?_
      gi_wp2
      refine eq_mk (Keep.refl _) ?_
      exact ⟨rfl, n - 1, by have := HN.out; omega, k + 1, v2, by omega, by have := HN.out; omega, HX2.out, by simp [Slots, Fits]; try omega⟩
    have HP := Lib.hid hpost
    clear hpost
    gi_wp2
    all_goals
      refine eq_mk (Keep.refl _) ?_
      first
      | refine HMID.out (m : Int) (by omega) _ (by simp [Slots, Fits]) _ fun t2 Y2 v2 hX2 hS2 => ?_
      | refine HMID.out (y : Int) (by omega) _ (by simp [Slots, Fits]) _ fun t2 Y2 v2 hX2 hS2 => ?_
      show Exec Try.prog none (sub (Try.f98.body.getD .skip) [1, 1, 1, 0, 1, 0, 0, 1, 1]) _ _ _
      refine (HP.out t2 Y2 v2 hX2 hS2).mono ?_
      rintro e t W ⟨rfl, h⟩
      exact h
  · have hkl : k = a.L.length := by have := of_decide_eq_false ‹decide (k < a.L.length) = false›; omega
    have hlen : (lbL a m but).length = a.L.length := lbTo_len _ _ _ _
    have htk : (lbL a m but).take k = lbL a m but := by rw [List.take_of_length_le (by omega)]
    have hX := HX.out
    rw [htk] at hX
    obtain ⟨A, c, rfl, hrow⟩ := row_of_own hX.o
    have hXo := hX.o
    rw [hlen] at hX
    have hat0 := ha.below hX.b
    have hyA : (a.cut A c m but).At W := by
      refine ⟨?_, hat0.n, hat0.k, by show ((lbL a m but).map _).length ≤ 40; rw [List.length_map, hlen]; omega, hat0.n4, hat0.k4⟩
      show RowV W A (((lbL a m but).map fun n : Nat => (n : Int)).map vi)
      rw [List.map_map]
      exact hrow
    have hyv : (a.cut A c m but).val = .agg #[.slice A a.L.length c, a.sN, a.sK] := by
      simp [XP.val, XP.sL, XP.sN, XP.sK, XP.cut, hlen]
    have HYV := Lib.hid hyv
    have HYA := Lib.hid hyA
    have HXX := Lib.hid hX
    have h7 := hX.x7
    have h6 := hX.x6
    simp only [XP.sN, XP.sK] at h7
    have d0 := cells_get (cs := [_, _, _]) (k := 0) h7 rfl
    have d1 := cells_get (cs := [_, _, _]) (k := 1) h7 rfl
    have d2 := cells_get (cs := [_, _, _]) (k := 2) h7 rfl
    have s1 := box_set W (w.heap.size + 1) 0 [_, _, _] 25 (.slice A a.L.length c) h6
    have s2 := box_set _ (w.heap.size + 1) 1 [_, _, _] 25 (.slice a.AN a.N.length a.cN) s1
    have s3 := box_set _ (w.heap.size + 1) 2 [_, _, _] 25 (.slice a.AK a.K.length a.cK) s2
    have g0 := cells_get (cs := [_, _, _]) (k := 0) h6 rfl
    have g1 := cells_get (cs := [_, _, _]) (k := 1) s1 rfl
    have g2 := cells_get (cs := [_, _, _]) (k := 2) s2 rfl
    have f0 : W.frozen? ⟨w.heap.size + 1, 0, none⟩ = false := frozen_cells h6
    have f1 : (W.setCell ⟨w.heap.size + 1, 0, none⟩ (.slice A a.L.length c)).frozen? ⟨w.heap.size + 1, 1, none⟩ = false := frozen_cells s1
    have f2 : ((W.setCell ⟨w.heap.size + 1, 0, none⟩ (.slice A a.L.length c)).setCell ⟨w.heap.size + 1, 1, none⟩ (.slice a.AN a.N.length a.cN)).frozen? ⟨w.heap.size + 1, 2, none⟩ = false := frozen_cells s2
    have e0 := cells_get (cs := [_, _, _]) (k := 0) s3 rfl
    have e1 := cells_get (cs := [_, _, _]) (k := 1) s3 rfl
    have e2 := cells_get (cs := [_, _, _]) (k := 2) s3 rfl
    have E0 := Lib.hid e0
    have E1 := Lib.hid e1
    have E2 := Lib.hid e2
    have hge : w.heap.size ≤ w.heap.size + 1 := by omega
    have hBB := ((hX.b.setCell (p := ⟨w.heap.size + 1, 0, none⟩) hge (.slice A a.L.length c)).setCell (p := ⟨w.heap.size + 1, 1, none⟩) hge (.slice a.AN a.N.length a.cN)).setCell (p := ⟨w.heap.size + 1, 2, none⟩) hge (.slice a.AK a.K.length a.cK)
    have hYB : (a.cut A c m but).At (((W.setCell ⟨w.heap.size + 1, 0, none⟩ (.slice A a.L.length c)).setCell ⟨w.heap.size + 1, 1, none⟩ (.slice a.AN a.N.length a.cN)).setCell ⟨w.heap.size + 1, 2, none⟩ (.slice a.AK a.K.length a.cK)) := by
      have hne : (Value.slice A ((lbL a m but).length) c).ownBlock = none ∨ (Value.slice A ((lbL a m but).length) c).ownBlock ≠ some (w.heap.size + 1) := by
        cases e : (Value.slice A ((lbL a m but).length) c).ownBlock with
        | none => exact .inl rfl
        | some q =>
          right
          intro cc
          have := (hXo.lt q e).1
          have := Option.some.inj cc
          omega
      have h3 := ((hXo.kept (grown_set W (w.heap.size + 1) 0 (.slice A a.L.length c)) hne).kept (grown_set _ (w.heap.size + 1) 1 (.slice a.AN a.N.length a.cN)) hne).kept (grown_set _ (w.heap.size + 1) 2 (.slice a.AK a.K.length a.cK)) hne
      obtain ⟨A2, c2, e, hr2⟩ := row_of_own h3
      cases e
      have hb2 := ha.below hBB
      refine ⟨?_, hb2.n, hb2.k, by show ((lbL a m but).map _).length ≤ 40; rw [List.length_map, hlen]; omega, hb2.n4, hb2.k4⟩
      show RowV _ A (((lbL a m but).map fun n : Nat => (n : Int)).map vi)
      rw [List.map_map]
      exact hr2
    have HBB := Lib.hid hBB
    have HYB := Lib.hid hYB
    clear hX hXo hyv hyA hat0 htk hlen haW c0 HX h7 h6 s1 s2 s3 e0 e1 e2 hBB hYB
    show Exec _ _ (Code.seq _ _) _ _ _
    refine exec_seq (exec_region_o fun ds => ?_)
    gi_wp2
    refine eq_mk ((((Keep.refl _).setCell _ _).setCell _ _).setCell _ _) ?_
    exact exec_ret ⟨.inr rfl, fun W' hG => ⟨.agg #[.slice A a.L.length c, .slice a.AN a.N.length a.cN, .slice a.AK a.K.length a.cK], by simp [results, Try.f98, go_sem, hG.cell E0.out, hG.cell E1.out, hG.cell E2.out], ⟨(A, c), ⟨by have := HYV.out; simp only [XP.val] at this ⊢; rw [this]; rfl, HYB.out.grow hG⟩, HBB.out.trans (hG.below (Nat.le_refl _) HBB.out.size)⟩⟩⟩
end Go.Proofs.Ytbdmmikflkpmpaa
end

section
namespace Go.Proofs.Ytbdmmikflkpmpaa
open Go.RowKit Go.TL Go.Shelf Go.Pn
attribute [local go_sem] Oper.semAt_some
attribute [local go_sem] run_store_func
theorem lbL_get {a : XP} {m : Nat} {but : Int} {i : Nat} (hi : i < a.L.length) : (lbL a m but)[i]? = some (lbAt a m but i) := by
  unfold lbL
  rw [lbTo_get hi, if_pos hi]
theorem s3_len (a : XP) : a.s3.1.length = a.L.length := by simp [XP.s3]
theorem s3_le {a : XP} (hf : a.Fine) {i : Nat} (hi : i < a.L.length) : a.s3.1.getD i 0 ≤ 6 := by
  have hl : i < a.s3.1.length := by rw [s3_len]; exact hi
  obtain ⟨y, hy, e⟩ := List.mem_map.1 (show a.s3.1.getD i 0 ∈ a.L.map Int.toNat from mem_getD hl)
  have := hf.lb y hy
  omega
theorem lbL_spare {a : XP} (hf : a.Fine) {j : Nat} (hj : j < a.L.length) : lbL a 6 (j : Int) = a.s3.1.set j 0 := by
  refine List.ext_getElem? fun i => ?_
  by_cases hi : i < a.L.length
  · rw [lbL_get hi, List.getElem?_set, s3_len]
    unfold lbAt
    by_cases e : j = i
    · subst e
      rw [if_pos rfl, if_pos rfl, if_pos hj]
    · rw [if_neg (by omega), if_neg e, List.getElem?_eq_getElem (by rw [s3_len]; exact hi), ← getD_lt (by rw [s3_len]; exact hi)]
      have := s3_le hf hi
      congr 1
      omega
  · rw [List.getElem?_eq_none (by unfold lbL; rw [lbTo_len]; omega), List.getElem?_eq_none (by rw [List.length_set, s3_len]; omega)]
theorem lbL_most {a : XP} {m : Nat} : lbL a m (-1) = a.s3.1.map (min m) := by
  refine List.ext_getElem? fun i => ?_
  by_cases hi : i < a.L.length
  · rw [lbL_get hi, List.getElem?_map, List.getElem?_eq_getElem (by rw [s3_len]; exact hi), ← getD_lt (by rw [s3_len]; exact hi)]
    unfold lbAt
    rw [if_neg (by omega)]
    show some (min _ _) = some (min _ _)
    congr 1
    omega
  · rw [List.getElem?_eq_none (by unfold lbL; rw [lbTo_len]; omega), List.getElem?_eq_none (by rw [List.length_map, s3_len]; omega)]
end Go.Proofs.Ytbdmmikflkpmpaa
end

section
namespace Go.Proofs.Ytbdmmikflkpmpaa
open Go.RowKit Go.TL Go.Shelf Go.Pn
theorem all_can {a : XP} (hf : a.Fine) : decide (0 < (allF a a.N.length []).length) = canV (toP a.s3) := by
  cases h : canV (toP a.s3) with
  | false => rw [all_none hf h]; rfl
  | true =>
    have h1 := all_head hf h
    cases e : allF a a.N.length [] with
    | nil => rw [e] at h1; cases h1
    | cons x y => simp
theorem canb (a : XP) (hf : a.Fine) (w : World) (ha : a.At w) : Calls Try.prog 97 #[a.val] w fun e w' => e = .returned (.bool (canV (toP a.s3))) ∧ Below w.heap.size w w' := by
  rw [← all_can hf]
  exact can97 a hf w ha
theorem can_loads {x1 y1 : List Nat} {s : List Nat × List (Nat × Nat)} (fx : PFit (toP (x1, s))) (fy : PFit (toP (y1, s))) (hl : y1.length = x1.length) (hle : ∀ j, y1.getD j 0 ≤ x1.getD j 0) (h : canV (toP (y1, s)) = true) : canV (toP (x1, s)) = true := by
  obtain ⟨g, hs⟩ := (can_is fy.ok).1 h
  refine (can_is fx.ok).2 ⟨g, ?_⟩
  have hfit : (toP (y1, s)).fit = (toP (x1, s)).fit := by
    show kinF (List.replicate s.1.length (2 ^ y1.length - 1)) s.2 = kinF (List.replicate s.1.length (2 ^ x1.length - 1)) s.2
    rw [hl]
  refine ⟨⟨fun q i hq hi hg => ?_, fun i hi => ?_⟩, fun q hq => ?_⟩
  · rw [← hfit]
    exact hs.feas.fit q i hq (by show i < y1.length; rw [hl]; exact hi) hg
  · exact Nat.le_trans (hs.feas.load i (by show i < y1.length; rw [hl]; exact hi)) (hle i)
  · have := hs.eq q hq
    have h2 : cntJ g y1.length q = s.1.getD q 0 := this
    rw [hl] at h2
    exact h2
theorem can_most {a : XP} (hf : a.Fine) {n : Nat} (h : canV (toP (a.s3.atMost n)) = true) : canV (toP a.s3) = true := by
  refine can_loads (toP_Fit (XP.good hf)) (toP_Fit (s3_atMost (XP.good hf) n)) (List.length_map _) (fun j => ?_) h
  show (a.s3.1.map (min n)).getD j 0 ≤ a.s3.1.getD j 0
  generalize a.s3.1 = l
  rw [List.getD_eq_getElem?_getD, List.getD_eq_getElem?_getD, List.getElem?_map]
  cases l[j]? with
  | none => exact Nat.le_refl _
  | some y => exact Nat.min_le_right _ _
def Bu42 (w : World) (a : XP) (m : Nat) (t : Array Value) (Y : World) : Prop :=
  ∃ n : Nat, n ≤ 7 ∧ m = 7 - n ∧ (∀ i, i < n → canV (toP (a.s3.atMost i)) = false) ∧ PBx Y w.heap.size a ∧ Below w.heap.size w Y ∧ Slots (none :: some (.pointer (some ⟨w.heap.size, 0, none⟩)) :: none :: none :: some (iv n) :: o4 (o4 (o4 []))) t
set_option maxRecDepth 100000 in
set_option maxHeartbeats 2000000 in
theorem busy42 (a : XP) (w : World) (ha : a.At w) : Calls Try.prog 42 #[a.val] w fun e w' => e = .returned (.tuple #[vi (busyA a).1, vi (busyA a).2]) ∧ Below w.heap.size w w' := by
  have hu25 := Try.underlying25
  have hu85 := Try.underlying85
  have hu22 := Try.underlying22
  obtain ⟨R, hR⟩ : ∃ R, busyA a = R := ⟨_, rfl⟩
  rw [hR]
  have HR := Lib.hid hR
  clear hR
  refine calls_of_exec Try.func42 rfl ?_
  simp only [Try.ntmps42, List.size_toArray, List.length_cons, List.length_nil, Nat.reduceAdd, Nat.reduceSub, Array.replicate_succ, Array.replicate_zero, List.push_toArray, List.append_toArray, List.nil_append, List.cons_append]
  simp only [XP.val]
  refine exec_seq (exec_region_o fun ds => ?_)
  gi_wp2
  refine eq_mk ((Keep.refl w).alloc _) ?_
  show Exec _ _ (Code.seq _ _) _ (w.alloc (.cells #[a.sL, a.sN, a.sK] 25)) _
  have hB := (Below.refl w.heap.size w).alloc (Nat.le_refl _) (.cells #[a.sL, a.sN, a.sK] 25)
  have hX : (w.alloc (.cells #[a.sL, a.sN, a.sK] 25)).heap[w.heap.size]? = some (.cells #[a.sL, a.sN, a.sK] 25 (0, 0)) := World.alloc_heap_new _ _
  generalize w.alloc (.cells #[a.sL, a.sN, a.sK] 25) = X at *
  have haX := ha.below hB
  have c0 := cells_get (cs := [_, _, _]) (k := 0) hX rfl
  have c1 := cells_get (cs := [_, _, _]) (k := 1) hX rfl
  have c2 := cells_get (cs := [_, _, _]) (k := 2) hX rfl
  have hcall := panels22 a X haX
  obtain ⟨q, hq⟩ : ∃ q, a.isP = q := ⟨_, rfl⟩
  rw [hq] at hcall
  have HQ := Lib.hid hq
  have HX := Lib.hid hX
  clear hq hX
  refine exec_seq (exec_seq (exec_region_o fun ds => ?_))
  gi_wp2_with fail
  refine ⟨trivial, rfl, (callsIn_wide.2 hcall).mono ?_⟩
  rintro e Y ⟨rfl, hy⟩
  have haY := haX.below hy
  have hBY := hB.trans (hy.mono hB.size)
  have hXY := (hy.block _ (heap_lt HX.out)).trans HX.out
  clear hcall c0 c1 c2
  have HXY := Lib.hid hXY
  clear hXY
  gi_wp2
  refine eq_mk (Keep.of_below hy) ?_
  show Exec _ _ (Code.cond _ _ _) _ _ _
  cases q with
  | false =>
    refine exec_cond (b := true) rfl (fun _ => ?_) (fun h => by cases h)
    show Exec _ _ (Code.seq _ _) _ _ _
    refine exec_seq (exec_region_o fun ds => ?_)
    gi_wp2
    refine eq_mk (Keep.refl _) ?_
    have hr : R = (0, 1) := by rw [← HR.out]; unfold busyA; rw [HQ.out]; rfl
    exact exec_ret ⟨.inr rfl, fun W' hG => ⟨.tuple #[vi 0, vi 1], by simp [results, Try.f42, go_sem], by rw [hr]; exact ⟨rfl, hBY.trans (hG.below (Nat.le_refl _) hBY.size)⟩⟩⟩
  | true =>
    have hf := a.fine HQ.out
    refine exec_cond (b := false) rfl (fun h => by cases h) (fun _ => exec_skip ?_)
    have hbx : PBx Y w.heap.size a := ⟨HXY.out, haY⟩
    have hr : R = if canV (toP a.s3) then (((busyF a.s3 : Nat) : Int), 0) else (0, 4) := by rw [← HR.out]; unfold busyA; rw [HQ.out]; rfl
    have HRR := Lib.hid hr
    clear hr
    show Exec _ _ (Code.seq (Code.seq _ _) _) _ _ _
    refine exec_seq (exec_seq (exec_region_o fun ds => ?_))
    gi_wp2
    refine eq_mk (Keep.refl _) ?_
    show Exec _ _ (Code.block _ _) _ _ _
    refine exec_block ?_
    refine exec_loop (Bu42 w a) 7 ⟨0, by omega, rfl, fun i h => by omega, hbx, hBY, by simp [Slots, Fits]⟩ ?_
    clear hbx hBY haY HXY hy
    clear Y
    rintro m t Y ⟨n, hn, hm, hno, hbx, hBY, hSl⟩
    have HM := Lib.hid hm
    have HNO := Lib.hid hno
    clear hm hno
    obtain ⟨x, hx⟩ := Slots.open_ hSl; simp only [fill, Nat.reduceAdd] at hx; subst hx; clear hSl
    show Exec _ _ (Code.seq (Code.seq _ _) (Code.seq _ _)) _ _ _
    refine exec_seq (exec_seq (exec_region_o fun ds => ?_))
    gi_wp2
    refine eq_mk (Keep.refl _) ?_
    show Exec _ _ (Code.cond _ _ _) _ _ _
    refine exec_cond (b := decide (n ≤ 6)) (by first | rfl | (show Value.bool _ = _; congr 1; exact decide_eq_decide.2 (by omega))) (fun hp => exec_skip ?_) (fun hp => exec_exit ?_)
    · have hn6 := of_decide_eq_true ‹decide (n ≤ 6) = true›
      have c0 := cells_get (cs := [_, _, _]) (k := 0) hbx.heap rfl
      have c1 := cells_get (cs := [_, _, _]) (k := 1) hbx.heap rfl
      have c2 := cells_get (cs := [_, _, _]) (k := 2) hbx.heap rfl
      have hcall := bounded98 a hf n (by omega) (-1) Y hbx.at_
      show Exec _ _ (Code.seq (Code.block _ _) _) _ _ _
      refine exec_seq (exec_block (exec_seq (exec_region_o fun ds => ?_)))
      gi_wp2_with fail
      refine ⟨trivial, rfl, (callsIn_wide.2 hcall).mono ?_⟩
      rintro e Z ⟨⟨A, c⟩, ⟨rfl, hcut⟩, hz⟩
      have hbZ := hbx.keep hz
      have hBZ := hBY.trans (hz.mono hBY.size)
      have hcb := canb (a.cut A c n (-1)) (XP.cut_fine hf A c n (-1)) Z hcut
      rw [XP.cut_s3, lbL_most] at hcb
      obtain ⟨q, hq⟩ : ∃ q, canV (toP (a.s3.atMost n)) = q := ⟨_, rfl⟩
      replace hcb : Calls Try.prog 97 #[(a.cut A c n (-1)).val] Z fun e w' => e = .returned (.bool q) ∧ Below Z.heap.size Z w' := by rw [← hq]; exact hcb
      have HQ2 := Lib.hid hq
      clear hq hcall c0 c1 c2 hcut
      generalize a.cut A c n (-1) = b at *
      gi_wp2_with fail
      refine ⟨trivial, rfl, (callsIn_wide.2 hcb).mono ?_⟩
      rintro e Z2 ⟨rfl, hz2⟩
      have hbZ2 := hbZ.keep hz2
      have hBZ2 := hBZ.trans (hz2.mono hBZ.size)
      clear hcb
      gi_wp2
      refine eq_mk ((Keep.of_below hz).trans (Keep.of_below hz2)) ?_
      show Exec _ _ (Code.cond _ _ _) _ _ _
      cases q with
      | true =>
        refine exec_cond (b := true) rfl (fun _ => ?_) (fun h => by cases h)
        show Exec _ _ (Code.seq _ _) _ _ _
        refine exec_seq (exec_region_o fun ds => ?_)
        gi_wp2
        refine eq_mk (Keep.refl _) ?_
        have hr : R = ((n : Int), 0) := by rw [HRR.out, can_most hf HQ2.out, if_pos rfl, busy_find hn6 HNO.out HQ2.out]
        exact exec_ret ⟨.inr rfl, fun W' hG => ⟨.tuple #[iv n, vi 0], by simp [results, Try.f42, go_sem], by rw [hr], hBZ2.trans (hG.below (Nat.le_refl _) hBZ2.size)⟩⟩
      | false =>
        refine exec_cond (b := false) rfl (fun h => by cases h) (fun _ => exec_skip ?_)
        have hw : IntKind.i64.wrap ((n : Int) + 1) = ((n + 1 : Nat) : Int) := by rw [IntWalk.i64_in _ (by omega)]; norm_cast
        have HBX := Lib.hid hbZ2
        have hno : ∀ i, i < n + 1 → canV (toP (a.s3.atMost i)) = false := fun i hi => by
          by_cases e : i = n
          · rw [e]; exact HQ2.out
          · exact HNO.out i (by omega)
        have HNO2 := Lib.hid hno
        clear hno hbZ hbZ2 hbx
        show Exec _ _ (Code.region _ _ _) _ _ _
        refine exec_region_o fun ds => ?_
        gi_wp2
        refine eq_mk (Keep.refl _) ?_
        exact ⟨m - 1, by have := HM.out; omega, n + 1, by omega, by have := HM.out; omega, HNO2.out, HBX.out, hBZ2, by simp [Slots, Fits]; try omega⟩
    · have hn7 : n = 7 := by have := of_decide_eq_false ‹decide (n ≤ 6) = false›; omega
      have h6 := HNO.out 6 (by omega)
      rw [atMost_six hf] at h6
      have hr : R = (0, 4) := by rw [HRR.out, h6]; rfl
      have HR4 := Lib.hid hr
      clear hr h6
      show Exec _ _ (Code.seq _ _) _ _ _
      refine exec_seq (exec_region_o fun ds => ?_)
      gi_wp2
      refine eq_mk (Keep.refl _) ?_
      exact exec_ret ⟨.inr rfl, fun W' hG => ⟨.tuple #[vi 0, vi 4], by simp [results, Try.f42, go_sem], by rw [HR4.out], hBY.trans (hG.below (Nat.le_refl _) hBY.size)⟩⟩
end Go.Proofs.Ytbdmmikflkpmpaa
end

section
namespace Go.Proofs.Ytbdmmikflkpmpaa
open Go.RowKit Go.TL Go.Shelf Go.Pn
theorem only_take {a : XP} {s k : Nat} (hk : k < a.N.length) : (onlyN s a.s3.2.1).take (k + 1) = (onlyN s a.s3.2.1).take k ++ [if s.testBit k then a.s3.2.1.getD k 0 else 0] := by
  have hl : k < (onlyN s a.s3.2.1).length := by rw [onlyN_len]; simpa [XP.s3] using hk
  rw [List.take_add_one, List.getElem?_eq_getElem hl, ← getD_lt hl, onlyN_get]
  rfl
theorem only_len (a : XP) (s : Nat) : (onlyN s a.s3.2.1).length = a.N.length := by
  rw [onlyN_len]
  simp [XP.s3]
def XP.sub (a : XP) (A : Option Addr) (c s : Nat) : XP := { a with AN := A, cN := c, N := (onlyN s a.s3.2.1).map fun n : Nat => (n : Int) }
theorem XP.sub_s3 (a : XP) (A : Option Addr) (c s : Nat) : (a.sub A c s).s3 = a.s3.only s := by
  have : ((onlyN s a.s3.2.1).map fun n : Nat => (n : Int)).map Int.toNat = onlyN s a.s3.2.1 := by
    rw [List.map_map]
    conv => rhs; rw [← List.map_id (onlyN s a.s3.2.1)]
    exact List.map_congr_left fun n _ => Int.toNat_natCast n
  show (_, _, _) = (_, _, _)
  rw [← this]
  rfl
theorem XP.sub_fine {a : XP} (hf : a.Fine) (A : Option Addr) (c s : Nat) : (a.sub A c s).Fine := by
  have hlen := only_len a s
  refine ⟨hf.j, by show ((onlyN s a.s3.2.1).map _).length ≤ 6; rw [List.length_map, hlen]; exact hf.p, hf.k, hf.lb, ?_, ?_⟩
  · intro y hy
    obtain ⟨n, hn, rfl⟩ := List.mem_map.1 hy
    rcases onlyN_mem hn with rfl | h
    · omega
    · obtain ⟨z, hz, e⟩ := List.mem_map.1 (show n ∈ a.N.map Int.toNat from h)
      have := hf.nb z hz
      omega
  · intro y hy
    have := hf.kb y hy
    show _ ∧ _ ∧ y.2 < (((onlyN s a.s3.2.1).map _).length : Int)
    rw [List.length_map, hlen]
    exact this
structure OyX (w : World) (a : XP) (l : List Nat) (v : Value) (W : World) : Prop where
  b : Below w.heap.size w W
  x3 : W.heap[w.heap.size]? = some (.cells #[a.sL, a.sN, a.sK] 25 (0, 0))
  x6 : W.heap[w.heap.size + 1]? = some (.cells #[.slice none 0 0, .slice none 0 0, .slice none 0 0] 25 (0, 0))
  x7 : W.heap[w.heap.size + 2]? = some (.cells #[a.sL, v, a.sK] 25 (0, 0))
  o : W.ownsRow (w.heap.size + 3) 3 1 v l.length (l.map iv)
theorem OyX.keep {w : World} {a : XP} {l : List Nat} {v : Value} {W Z : World} (h : OyX w a l v W) (hz : Below W.heap.size W Z) : OyX w a l v Z :=
  ⟨h.b.trans (hz.mono h.b.size), (hz.block _ (heap_lt h.x3)).trans h.x3, (hz.block _ (heap_lt h.x6)).trans h.x6, (hz.block _ (heap_lt h.x7)).trans h.x7, own_grow h.o (Grow.of_below (B := 0) hz)⟩
theorem OyX.push {w : World} {a : XP} {l : List Nat} {v : Value} {W : World} (h : OyX w a l v W) (n : Nat) (hl : l.length ≤ 1000) :
    ∃ v' X, (Builtin.append_ #[22, 22] 22 #[v, .slice (some ⟨W.heap.size, 0, none⟩) 1 1]).run Try.prog (W.alloc (.cells #[iv n] 3)) = .ok v' X ∧ Keep W X ∧ X.heap[w.heap.size + 2]? = some (.cells #[a.sL, v, a.sK] 25 (0, 0)) ∧ OyX w a (l ++ [n]) v' (X.setCell ⟨w.heap.size + 2, 1, none⟩ v') := by
  have hlt := heap_lt h.x7
  obtain ⟨v', X, hrun, hown, hg, hK⟩ := int_push h.o n hl (by omega)
  have hge : ∀ q, v.ownBlock = some q → w.heap.size + 3 ≤ q := fun q e => (h.o.lt q e).1
  have hk : ∀ j o, j < w.heap.size + 3 → W.heap[j]? = some o → X.heap[j]? = some o := fun j o hj ho => (hg.block j (heap_lt ho) (fun e => by have := hge j e.symm; omega)).trans ho
  have hX7 := hk _ _ (by omega) h.x7
  refine ⟨v', X, hrun, hK, hX7, ⟨(h.b.grown hg h.b.size (fun q e => by have := hge q e; omega)).setCell (by show w.heap.size ≤ w.heap.size + 2; omega) _, box_far _ _ _ _ _ _ (hk _ _ (by omega) h.x3) (by omega), box_far _ _ _ _ _ _ (hk _ _ (by omega) h.x6) (by omega), box_set _ _ 1 [_, _, _] 25 _ hX7, ?_⟩⟩
  refine hown.kept (grown_set X _ 1 v') ?_
  cases e : v'.ownBlock with
  | none => exact .inl rfl
  | some q =>
    right
    intro c
    have := (hown.lt q e).1
    have := Option.some.inj c
    omega
def OyI (w : World) (a : XP) (s : Nat) (n : Nat) (t : Array Value) (W : World) : Prop :=
  ∃ (k : Nat) (v : Value), k ≤ a.N.length ∧ n = a.N.length - k ∧ OyX w a ((onlyN s a.s3.2.1).take k) v W ∧ Slots (none :: some (iv s) :: some (.pointer (some ⟨w.heap.size, 0, none⟩)) :: none :: some (.pointer (some ⟨w.heap.size + 1, 0, none⟩)) :: some (.pointer (some ⟨w.heap.size + 2, 0, none⟩)) :: some (iv k) :: none :: o4 (o4 (o16 []))) t
set_option maxRecDepth 100000 in
set_option maxHeartbeats 2000000 in
theorem only103 (a : XP) (hf : a.Fine) (s : Nat) (hs : s < 2 ^ 40) (w : World) (ha : a.At w) : Calls Try.prog 103 #[a.val, iv s] w fun e W' => ∃ q : Option Addr × Nat, (e = .returned (a.sub q.1 q.2 s).val ∧ (a.sub q.1 q.2 s).At W') ∧ Below w.heap.size w W' := by
  have hu25 := Try.underlying25
  have hu22 := Try.underlying22
  have hj6 := hf.p
  refine calls_of_exec Try.func103 rfl ?_
  simp only [Try.ntmps103, List.size_toArray, List.length_cons, List.length_nil, Nat.reduceAdd, Nat.reduceSub, Array.replicate_succ, Array.replicate_zero, List.push_toArray, List.append_toArray, List.nil_append, List.cons_append]
  simp only [XP.val]
  refine exec_seq (exec_region_o fun ds => ?_)
  gi_wp2
  refine eq_mk (((Keep.refl w).alloc _).alloc _) ?_
  show Exec _ _ (Code.seq _ _) _ ((w.alloc (.cells #[a.sL, a.sN, a.sK] 25)).alloc (.cells #[.slice none 0 0, .slice none 0 0, .slice none 0 0] 25)) _
  have hB1 := ((Below.refl w.heap.size w).alloc (Nat.le_refl _) (.cells #[a.sL, a.sN, a.sK] 25)).alloc (by simp) (.cells #[.slice none 0 0, .slice none 0 0, .slice none 0 0] 25)
  have x3 : ((w.alloc (.cells #[a.sL, a.sN, a.sK] 25)).alloc (.cells #[.slice none 0 0, .slice none 0 0, .slice none 0 0] 25)).heap[w.heap.size]? = some (.cells #[a.sL, a.sN, a.sK] 25 (0, 0)) := heap_next (World.alloc_heap_new _ _) _
  have x6 : ((w.alloc (.cells #[a.sL, a.sN, a.sK] 25)).alloc (.cells #[.slice none 0 0, .slice none 0 0, .slice none 0 0] 25)).heap[w.heap.size + 1]? = some (.cells #[.slice none 0 0, .slice none 0 0, .slice none 0 0] 25 (0, 0)) := by
    have := World.alloc_heap_new (w.alloc (.cells #[a.sL, a.sN, a.sK] 25)) (.cells #[.slice none 0 0, .slice none 0 0, .slice none 0 0] 25)
    rwa [World.size_alloc] at this
  have hsz : ((w.alloc (.cells #[a.sL, a.sN, a.sK] 25)).alloc (.cells #[.slice none 0 0, .slice none 0 0, .slice none 0 0] 25)).heap.size = w.heap.size + 2 := by simp
  generalize (w.alloc (.cells #[a.sL, a.sN, a.sK] 25)).alloc (.cells #[.slice none 0 0, .slice none 0 0, .slice none 0 0] 25) = X at *
  have HSZ := Lib.hid hsz
  clear hsz
  have hh := x3
  simp only [XP.sL, XP.sN, XP.sK] at hh
  have c0 := cells_get (cs := [_, _, _]) (k := 0) hh rfl
  have c1 := cells_get (cs := [_, _, _]) (k := 1) hh rfl
  have c2 := cells_get (cs := [_, _, _]) (k := 2) hh rfl
  clear hh
  refine exec_seq (exec_region_o fun ds => ?_)
  gi_wp2
  refine eq_mk ((Keep.refl _).alloc _) ?_
  show Exec _ _ (Code.seq _ _) _ (X.alloc (.cells #[a.sL, a.sN, a.sK] 25)) _
  have y3 := heap_next x3 (.cells #[a.sL, a.sN, a.sK] 25)
  have y6 := heap_next x6 (.cells #[a.sL, a.sN, a.sK] 25)
  have y7 : (X.alloc (.cells #[a.sL, a.sN, a.sK] 25)).heap[w.heap.size + 2]? = some (.cells #[a.sL, a.sN, a.sK] 25 (0, 0)) := by
    have := World.alloc_heap_new X (.cells #[a.sL, a.sN, a.sK] 25)
    rwa [HSZ.out] at this
  have hBY := hB1.alloc hB1.size (.cells #[a.sL, a.sN, a.sK] 25)
  rw [HSZ.out]
  clear c0 c1 c2 x3 x6 hB1 HSZ
  generalize X.alloc (.cells #[a.sL, a.sN, a.sK] 25) = Y at *
  clear X
  have d0 := cells_get (cs := [_, _, _]) (k := 1) y7 rfl
  have df : Y.frozen? ⟨w.heap.size + 2, 1, none⟩ = false := frozen_cells y7
  have h0 : OyX w a ((onlyN s a.s3.2.1).take 0) (.slice none 0 0) (Y.setCell ⟨w.heap.size + 2, 1, none⟩ (.slice none 0 0)) := ⟨hBY.setCell (by show w.heap.size ≤ w.heap.size + 2; omega) _, box_far _ _ _ _ _ _ y3 (by omega), box_far _ _ _ _ _ _ y6 (by omega), box_set _ _ 1 [_, _, _] 25 _ y7, World.ownsRow_nil _ _ _ _⟩
  clear y3 y6 y7 hBY
  refine exec_seq (exec_region_o fun ds => ?_)
  gi_wp2
  refine eq_mk ((Keep.refl _).setCell _ _) ?_
  clear d0 df
  generalize Y.setCell ⟨w.heap.size + 2, 1, none⟩ (.slice none 0 0) = Z at *
  clear Y
  show Exec _ _ (Code.seq (Code.seq _ _) _) _ _ _
  refine exec_seq (exec_seq (exec_region_o fun ds => ?_))
  gi_wp2
  refine eq_mk (Keep.refl _) ?_
  show Exec _ _ (Code.block _ _) _ _ _
  refine exec_block ?_
  refine exec_loop (OyI w a s) a.N.length ⟨0, .slice none 0 0, by omega, rfl, h0, by simp [Slots, Fits]⟩ ?_
  clear h0
  clear Z
  rintro n t W ⟨k, v, hk, hn, hX, hSl⟩
  have HN := Lib.hid hn
  have HX := Lib.hid hX
  have haW := ha.below hX.b
  have hh := hX.x3
  simp only [XP.sN] at hh
  have c0 := cells_get (cs := [_, _, _]) (k := 1) hh rfl
  clear hn hh hX
  obtain ⟨x, hx⟩ := Slots.open_ hSl; simp only [fill, Nat.reduceAdd] at hx; subst hx; clear hSl
  show Exec _ _ (Code.seq (Code.seq _ _) (Code.seq _ _)) _ _ _
  refine exec_seq (exec_seq (exec_region_o fun ds => ?_))
  gi_wp2
  refine eq_mk (Keep.refl _) ?_
  show Exec _ _ (Code.cond _ _ _) _ _ _
  refine exec_cond (b := decide (k < a.N.length)) (by first | rfl | (show Value.bool _ = _; congr 1; exact decide_eq_decide.2 (by omega))) (fun hp => exec_skip ?_) (fun hp => exec_exit ?_)
  · have hkl := of_decide_eq_true ‹decide (k < a.N.length) = true›
    obtain ⟨ad, hA, hcl⟩ := row_int haW.n hkl
    have hyb := hf.nb _ (List.getElem_mem hkl)
    obtain ⟨y, hy⟩ : ∃ y : Nat, a.N[k] = y := ⟨(a.N[k]).toNat, by omega⟩
    have hsy : a.s3.2.1.getD k 0 = y := by
      show (a.N.map Int.toNat).getD k 0 = y
      rw [List.getD_eq_getElem?_getD, List.getElem?_map, List.getElem?_eq_getElem hkl]
      simp [hy]
    rw [hy] at hcl hyb
    have hkI : (k : Int) < a.N.length := by omega
    have hat : (if s.testBit k then a.s3.2.1.getD k 0 else 0) = if s.testBit k then y else 0 := by rw [hsy]
    have HAT := Lib.hid hat
    have htk := only_take (a := a) (s := s) hkl
    have HTK := Lib.hid htk
    have hlk : ((onlyN s a.s3.2.1).take k).length = k := by rw [List.length_take, only_len]; omega
    have HLK := Lib.hid hlk
    clear hat htk hlk hy hsy haW
    simp only [hA] at c0 ⊢
    have HA := Lib.hid hA
    clear hA
    have hend : ∀ z : Nat, z = (if s.testBit k then a.s3.2.1.getD k 0 else 0) → ∀ t' Y, OyX w a ((onlyN s a.s3.2.1).take k) v Y → Slots (none :: some (iv s) :: some (.pointer (some ⟨w.heap.size, 0, none⟩)) :: none :: some (.pointer (some ⟨w.heap.size + 1, 0, none⟩)) :: some (.pointer (some ⟨w.heap.size + 2, 0, none⟩)) :: some (iv k) :: some (iv z) :: o4 (o4 (o16 []))) t' → ∀ Q : Exit → Array Value → World → Prop, (∀ t2 Y2 v2, OyX w a ((onlyN s a.s3.2.1).take (k + 1)) v2 Y2 → Slots (none :: some (iv s) :: some (.pointer (some ⟨w.heap.size, 0, none⟩)) :: none :: some (.pointer (some ⟨w.heap.size + 1, 0, none⟩)) :: some (.pointer (some ⟨w.heap.size + 2, 0, none⟩)) :: some (iv k) :: none :: o4 (o4 (o16 []))) t2 → Q .normal t2 Y2) → Exec Try.prog none (sub (Try.f103.body.getD .skip) [1, 1, 1, 0, 1, 0, 0, 1, 0, 0, 1, 1]) t' Y Q := by
      intro z hz t' Y hX hSl Q hQ
      have HQ := Lib.hid hQ
      clear hQ c0 hcl
      obtain ⟨v', X, hrun, hK, h7, hX'⟩ := hX.push z (by rw [HLK.out]; omega)
      rw [hz, ← HTK.out] at hX'
      clear hz
      have hlk2 : ((onlyN s a.s3.2.1).take (k + 1)).length = k + 1 := by rw [List.length_take, only_len]; omega
      obtain ⟨Av, cv, hv, _⟩ := row_of_own hX.o
      obtain ⟨Aw, cw, hv', _⟩ := row_of_own hX'.o
      rw [HLK.out] at hv
      rw [hlk2] at hv'
      subst hv hv'
      clear hlk2
      have d0 := cells_get (cs := [_, _, _]) (k := 1) hX.x7 rfl
      have HX' := Lib.hid hX'
      clear hX hX'
      have e0 := cells_get (cs := [_, _, _]) (k := 1) h7 rfl
      have ef : X.frozen? ⟨w.heap.size + 2, 1, none⟩ = false := frozen_cells h7
      obtain ⟨x, hx⟩ := Slots.open_ hSl; simp only [fill, Nat.reduceAdd] at hx; subst hx; clear hSl
      show Exec _ _ (Code.region _ _ _) _ _ _
      refine exec_region_o fun ds => ?_
      gi_wp2_with (gi_at_builtin; refine wpListIn_app rfl _ _ 22 rfl rfl rfl hrun ?_)
      refine eq_mk (hK.setCell _ _) ?_
      exact HQ.out _ _ _ HX'.out (by simp [Slots, Fits])
    have HEND := Lib.hid hend
    clear hend
    show Exec _ _ (Code.seq (Code.block _ _) _) _ _ _
    refine exec_seq (exec_block (exec_seq (exec_region_o fun ds => ?_)))
    have hpost : ∀ t2 Y2 v2, OyX w a ((onlyN s a.s3.2.1).take (k + 1)) v2 Y2 → Slots (none :: some (iv s) :: some (.pointer (some ⟨w.heap.size, 0, none⟩)) :: none :: some (.pointer (some ⟨w.heap.size + 1, 0, none⟩)) :: some (.pointer (some ⟨w.heap.size + 2, 0, none⟩)) :: some (iv k) :: none :: o4 (o4 (o16 []))) t2 → Exec Try.prog none (sub (Try.f103.body.getD .skip) [1, 1, 1, 0, 1, 0, 0, 1, 1]) t2 Y2 (fun e t' W' => e = .normal ∧ ∃ m', m' < n ∧ OyI w a s m' t' W') := by
      rintro t2 Y2 v2 hX2 hSl
      have HX2 := Lib.hid hX2
      clear hX2 c0 hcl
      have hw : IntKind.i64.wrap ((k : Int) + 1) = ((k + 1 : Nat) : Int) := by rw [IntWalk.i64_in _ (by omega)]; norm_cast
      obtain ⟨x, hx⟩ := Slots.open_ hSl; simp only [fill, Nat.reduceAdd] at hx; subst hx; clear hSl
      show Exec _ _ (Code.region _ _ _) _ _ _
      refine exec_region_o fun ds => ?_
      gi_wp2
      refine eq_mk (Keep.refl _) ?_
      exact ⟨rfl, n - 1, by have := HN.out; omega, k + 1, v2, by omega, by have := HN.out; omega, HX2.out, by simp [Slots, Fits]; try omega⟩
    have HP := Lib.hid hpost
    clear hpost
    have hcall := has71 s k hs (by omega) W
    obtain ⟨q, hq⟩ : ∃ q, s.testBit k = q := ⟨_, rfl⟩
    rw [hq] at hcall
    have HQ := Lib.hid hq
    clear hq
    gi_wp2
    refine eq_mk (Keep.refl _) ?_
    show Exec _ _ (Code.seq (Code.seq _ _) _) _ _ _
    refine exec_seq (exec_seq (exec_region_o fun ds => ?_))
    gi_wp2_with fail
    refine ⟨trivial, rfl, (callsIn_wide.2 hcall).mono ?_⟩
    rintro e Z ⟨rfl, hz⟩
    have HXZ := Lib.hid (HX.out.keep hz)
    replace hcl := (Grow.of_below (B := 0) hz).cell hcl
    replace c0 := (Grow.of_below (B := 0) hz).cell c0
    clear hcall
    gi_wp2
    refine eq_mk (Keep.of_below hz) ?_
    have HPP : RowKit.Hid (∀ t2 Y2 v2, OyX w a ((onlyN s a.s3.2.1).take (k + 1)) v2 Y2 → Slots (none :: some (iv s) :: some (.pointer (some ⟨w.heap.size, 0, none⟩)) :: none :: some (.pointer (some ⟨w.heap.size + 1, 0, none⟩)) :: some (.pointer (some ⟨w.heap.size + 2, 0, none⟩)) :: some (iv k) :: none :: o4 (o4 (o16 []))) t2 → Exec Try.prog none (sub (Try.f103.body.getD .skip) [1, 1, 1, 0, 1, 0, 0, 1, 1]) t2 Y2 (fun e t' W' => e = .normal ∧ ∃ m', m' < n ∧ OyI w a s m' t' W')) := HP
    show Exec _ _ (Code.cond _ _ _) _ _ _
    cases q with
    | false =>
      refine exec_cond (b := false) rfl (fun h => by cases h) (fun _ => exec_skip ?_)
      refine HEND.out 0 (by rw [HQ.out]; rfl) _ _ HXZ.out (by simp [Slots, Fits]) _ fun t2 Y2 v2 hX2 hS2 => ?_
      refine (HPP.out t2 Y2 v2 hX2 hS2).mono ?_
      rintro e t W ⟨rfl, h⟩
      exact h
    | true =>
      refine exec_cond (b := true) rfl (fun _ => ?_) (fun h => by cases h)
      show Exec _ _ (Code.region _ _ _) _ _ _
      refine exec_region_o fun ds => ?_
      gi_wp2
      refine eq_mk (Keep.refl _) ?_
      refine HEND.out y (by rw [HAT.out, HQ.out]; rfl) _ _ HXZ.out (by simp [Slots, Fits, HA.out]) _ fun t2 Y2 v2 hX2 hS2 => ?_
      refine (HPP.out t2 Y2 v2 hX2 hS2).mono ?_
      rintro e t W ⟨rfl, h⟩
      exact h
  · have hkl : k = a.N.length := by have := of_decide_eq_false ‹decide (k < a.N.length) = false›; omega
    have hlen : (onlyN s a.s3.2.1).length = a.N.length := only_len a s
    have htk : (onlyN s a.s3.2.1).take k = (onlyN s a.s3.2.1) := by rw [List.take_of_length_le (by omega)]
    have hX := HX.out
    rw [htk] at hX
    obtain ⟨A, c, rfl, hrow⟩ := row_of_own hX.o
    have hXo := hX.o
    rw [hlen] at hX
    have hat0 := ha.below hX.b
    have hyA : (a.sub A c s).At W := by
      refine ⟨hat0.l, ?_, hat0.k, hat0.l4, by show ((onlyN s a.s3.2.1).map _).length ≤ 40; rw [List.length_map, hlen]; omega, hat0.k4⟩
      show RowV W A (((onlyN s a.s3.2.1).map fun n : Nat => (n : Int)).map vi)
      rw [List.map_map]
      exact hrow
    have hyv : (a.sub A c s).val = .agg #[a.sL, .slice A a.N.length c, a.sK] := by
      simp [XP.val, XP.sL, XP.sN, XP.sK, XP.sub, hlen]
    have HYV := Lib.hid hyv
    have HYA := Lib.hid hyA
    have HXX := Lib.hid hX
    have h7 := hX.x7
    have h6 := hX.x6
    simp only [XP.sL, XP.sK] at h7
    have d0 := cells_get (cs := [_, _, _]) (k := 0) h7 rfl
    have d1 := cells_get (cs := [_, _, _]) (k := 1) h7 rfl
    have d2 := cells_get (cs := [_, _, _]) (k := 2) h7 rfl
    have s1 := box_set W (w.heap.size + 1) 0 [_, _, _] 25 (.slice a.AL a.L.length a.cL) h6
    have s2 := box_set _ (w.heap.size + 1) 1 [_, _, _] 25 (.slice A a.N.length c) s1
    have s3 := box_set _ (w.heap.size + 1) 2 [_, _, _] 25 (.slice a.AK a.K.length a.cK) s2
    have g0 := cells_get (cs := [_, _, _]) (k := 0) h6 rfl
    have g1 := cells_get (cs := [_, _, _]) (k := 1) s1 rfl
    have g2 := cells_get (cs := [_, _, _]) (k := 2) s2 rfl
    have f0 : W.frozen? ⟨w.heap.size + 1, 0, none⟩ = false := frozen_cells h6
    have f1 : (W.setCell ⟨w.heap.size + 1, 0, none⟩ (.slice a.AL a.L.length a.cL)).frozen? ⟨w.heap.size + 1, 1, none⟩ = false := frozen_cells s1
    have f2 : ((W.setCell ⟨w.heap.size + 1, 0, none⟩ (.slice a.AL a.L.length a.cL)).setCell ⟨w.heap.size + 1, 1, none⟩ (.slice A a.N.length c)).frozen? ⟨w.heap.size + 1, 2, none⟩ = false := frozen_cells s2
    have e0 := cells_get (cs := [_, _, _]) (k := 0) s3 rfl
    have e1 := cells_get (cs := [_, _, _]) (k := 1) s3 rfl
    have e2 := cells_get (cs := [_, _, _]) (k := 2) s3 rfl
    have E0 := Lib.hid e0
    have E1 := Lib.hid e1
    have E2 := Lib.hid e2
    have hge : w.heap.size ≤ w.heap.size + 1 := by omega
    have hBB := ((hX.b.setCell (p := ⟨w.heap.size + 1, 0, none⟩) hge (.slice a.AL a.L.length a.cL)).setCell (p := ⟨w.heap.size + 1, 1, none⟩) hge (.slice A a.N.length c)).setCell (p := ⟨w.heap.size + 1, 2, none⟩) hge (.slice a.AK a.K.length a.cK)
    have hYB : (a.sub A c s).At (((W.setCell ⟨w.heap.size + 1, 0, none⟩ (.slice a.AL a.L.length a.cL)).setCell ⟨w.heap.size + 1, 1, none⟩ (.slice A a.N.length c)).setCell ⟨w.heap.size + 1, 2, none⟩ (.slice a.AK a.K.length a.cK)) := by
      have hne : (Value.slice A ((onlyN s a.s3.2.1).length) c).ownBlock = none ∨ (Value.slice A ((onlyN s a.s3.2.1).length) c).ownBlock ≠ some (w.heap.size + 1) := by
        cases e : (Value.slice A ((onlyN s a.s3.2.1).length) c).ownBlock with
        | none => exact .inl rfl
        | some q =>
          right
          intro cc
          have := (hXo.lt q e).1
          have := Option.some.inj cc
          omega
      have h3 := ((hXo.kept (grown_set W (w.heap.size + 1) 0 (.slice a.AL a.L.length a.cL)) hne).kept (grown_set _ (w.heap.size + 1) 1 (.slice A a.N.length c)) hne).kept (grown_set _ (w.heap.size + 1) 2 (.slice a.AK a.K.length a.cK)) hne
      obtain ⟨A2, c2, e, hr2⟩ := row_of_own h3
      cases e
      have hb2 := ha.below hBB
      refine ⟨hb2.l, ?_, hb2.k, hb2.l4, by show ((onlyN s a.s3.2.1).map _).length ≤ 40; rw [List.length_map, hlen]; omega, hb2.k4⟩
      show RowV _ A (((onlyN s a.s3.2.1).map fun n : Nat => (n : Int)).map vi)
      rw [List.map_map]
      exact hr2
    have HBB := Lib.hid hBB
    have HYB := Lib.hid hYB
    clear hX hXo hyv hyA hat0 htk hlen haW c0 HX h7 h6 s1 s2 s3 e0 e1 e2 hBB hYB
    show Exec _ _ (Code.seq _ _) _ _ _
    refine exec_seq (exec_region_o fun ds => ?_)
    gi_wp2
    refine eq_mk ((((Keep.refl _).setCell _ _).setCell _ _).setCell _ _) ?_
    exact exec_ret ⟨.inr rfl, fun W' hG => ⟨.agg #[.slice a.AL a.L.length a.cL, .slice A a.N.length c, .slice a.AK a.K.length a.cK], by simp [results, Try.f103, go_sem, hG.cell E0.out, hG.cell E1.out, hG.cell E2.out], ⟨(A, c), ⟨by have := HYV.out; simp only [XP.val] at this ⊢; rw [this]; rfl, HYB.out.grow hG⟩, HBB.out.trans (hG.below (Nat.le_refl _) HBB.out.size)⟩⟩⟩
end Go.Proofs.Ytbdmmikflkpmpaa
end

section
namespace Go.Proofs.Ytbdmmikflkpmpaa
open Go.RowKit Go.TL Go.Shelf Go.Pn
structure BestS (a : XP) (b k : Nat) : Prop where
  lt : b < 2 ^ a.N.length
  no : canV (toP (a.s3.only b)) = false
  min : ∀ t, t < k → canV (toP (a.s3.only t)) = false → pop b < pop t ∨ (pop b = pop t ∧ b ≤ t)
  old : b < k ∨ b = 2 ^ a.N.length - 1
theorem best_zero {a : XP} (h : canV (toP a.s3) = false) : BestS a (2 ^ a.N.length - 1) 0 := by
  have hp : 0 < 2 ^ a.N.length := Nat.pow_pos (by omega)
  refine ⟨by omega, ?_, fun t ht => by omega, .inr rfl⟩
  rw [only_all]
  · exact h
  · intro i hi
    have hi' : i < a.N.length := by simpa [XP.s3] using hi
    rw [Nat.testBit_two_pow_sub_one, decide_eq_true hi']
theorem best_new {a : XP} {b k : Nat} (h : BestS a b k) (hk : k < 2 ^ a.N.length) (hp : pop k < pop b) (hn : canV (toP (a.s3.only k)) = false) : BestS a k (k + 1) := by
  refine ⟨hk, hn, fun t ht hc => ?_, .inl (by omega)⟩
  by_cases e : t = k
  · exact .inr ⟨by rw [e], by omega⟩
  · rcases h.min t (by omega) hc with h1 | ⟨h1, _⟩
    · exact .inl (by omega)
    · exact .inl (by omega)
theorem best_old {a : XP} {b k : Nat} (hf : a.Fine) (h : BestS a b k) (hk : k < 2 ^ a.N.length) (hp : ¬ (pop k < pop b ∧ canV (toP (a.s3.only k)) = false)) : BestS a b (k + 1) := by
  have hN := hf.p
  have h10 : 2 ^ a.N.length ≤ 2 ^ 10 := Nat.pow_le_pow_right (by omega) (by omega)
  refine ⟨h.lt, h.no, fun t ht hc => ?_, h.old.imp (fun x => by omega) id⟩
  by_cases e : t = k
  · subst e
    have hle : pop b ≤ pop t := by
      rcases Nat.lt_or_ge (pop t) (pop b) with c | c
      · exact absurd ⟨c, hc⟩ hp
      · exact c
    rcases Nat.lt_or_ge (pop b) (pop t) with c | c
    · exact .inl c
    · refine .inr ⟨by omega, ?_⟩
      rcases h.old with h1 | h1
      · omega
      · have hb := pop_eq_bits (s := b) (t := t) (fun i hi hb => by
          have := bit_lt hk hb
          rw [h1, Nat.testBit_two_pow_sub_one, decide_eq_true this]) hle
        have : t = b := Nat.eq_of_testBit_eq fun i => by
          by_cases hi : i < 10
          · exact hb i hi
          · have hbl := h.lt
            rw [Nat.testBit_lt_two_pow (Nat.lt_of_lt_of_le hk (Nat.le_trans h10 (Nat.pow_le_pow_right (by omega) (by omega)))), Nat.testBit_lt_two_pow (Nat.lt_of_lt_of_le hbl (Nat.le_trans h10 (Nat.pow_le_pow_right (by omega) (by omega))))]
        omega
  · exact h.min t (by omega) hc
theorem best_end {a : XP} {b : Nat} (hf : a.Fine) (hc : canV (toP a.s3) = false) (h : BestS a b (2 ^ a.N.length)) : shortF a.s3 = some b := by
  cases e : shortF a.s3 with
  | none =>
    rw [short_none hf e] at hc
    cases hc
  | some s =>
    obtain ⟨f, _⟩ := short_facts hf e
    have h1 := h.min s f.lt f.no
    have h2 := f.min b h.lt h.no
    congr 1
    omega
end Go.Proofs.Ytbdmmikflkpmpaa
end
