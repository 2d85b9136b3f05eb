/- Parts of the proof: Panels: PanelTurned: kin are laid. Panels: PanelTurned: kin are laid, one by one. Panels: PanelTurned: kin are copied. Panels: PanelTurned: a pair is told twice; the rows are copied. Panels: PanelTurned: the panels that are numbered otherwise. Panels: regions whose order is fixed. Panels: PanelTurned: the tests. Panels: PanelTurned: judge by judge, plot by plot: the regions. Panels: PanelTurned: judge by judge, plot by plot. Panels: PanelTurned: pair by pair. Panels: the chapter's names. Panels: PanelTurned: from the calls on. -/
import Derived.Test.YtbdmmikflkpmpaaProg
import Derived.Test.YtbdmmikflkpmpaaTP1
import Derived.Test.YtbdmmikflkpmpaaTP4
import Derived.Test.YtbdmmikflkpmpaaTP2
import Derived.Maps.AppendAt
import Derived.WalkKit
import Derived.WalkSpells
import Derived.WalkLawsBesides
import Derived.Outline
import Derived.OwnWalkIn
import Derived.TacticsInMore
import Derived.LoopNIn
import Derived.LoopIn
import Derived.Shelf.RegionOpen
import Derived.Deep.QuietTactic
import Derived.BigQuiet
import Derived.Lib.Hide
import Derived.Test.YtbdmmikflkpmpaaTP3
set_option linter.unusedVariables false
set_option linter.unusedSimpArgs false
section
namespace Go.Proofs.Ytbdmmikflkpmpaa
open Go.RowKit Go.TL Go.Shelf Go.Pn
theorem Tr.app_pair {W V X : World} {l : List (Nat × Obj)} {g k1 k2 : Nat} (h : Tr W V X ((g, .cells #[iv k1, iv k2] 50 (0, 0)) :: l)) {base n : Nat} {v : Value} {K : List (Nat × Nat)} (hn : n = K.length) (ho : X.ownsRow base 50 2 v n (flatV K)) (hne : ∀ p ∈ l, v.ownBlock ≠ some p.1) (hg : ∀ q, v.ownBlock = some q → q < X.heap.size) (h1000 : n ≤ 1000) (hb : base ≤ X.heap.size) (hw : W.heap.size ≤ base) :
    ∃ g2 c2 Y, (Builtin.append_ #[23, 23] 23 #[v, .slice (some ⟨g, 0, none⟩) 1 1]).run Try.prog X = .ok (.slice (some ⟨g2, 0, none⟩) (n + 1) c2) Y ∧ Tr W V Y l ∧ Y.ownsRow base 50 2 (.slice (some ⟨g2, 0, none⟩) (n + 1) c2) (n + 1) (flatV (K ++ [(k1, k2)])) ∧ X.heap.size ≤ Y.heap.size ∧ (∀ j, j < X.heap.size → v.ownBlock ≠ some j → Y.heap[j]? = X.heap[j]?) ∧ ∀ p ∈ l, p.1 ≠ g2 := by
  subst hn
  obtain ⟨i0, z, hi0, hz, hzs, hsz, hby⟩ := info50
  have hcg := h.get 0 rfl
  obtain ⟨v', Y, hrun, hown, hgr, _, hat⟩ := run_append_own_at (P := Try.prog) (w := X) base 23 23 50 i0 z 2 16 Try.underlying23 hi0 hz hsz hby hzs (by decide) v K.length (flatV K) ho ⟨g, 0, none⟩ 1 1 [iv k1, iv k2] rfl (by
    intro j y hj
    match j, hj with
    | 0, hj =>
      cases hj
      exact cells_get (cs := [iv k1, iv k2]) (k := 0) hcg rfl
    | 1, hj =>
      cases hj
      exact cells_get (cs := [iv k1, iv k2]) (k := 1) hcg rfl) (by
    intro y hy
    simp at hy
    rcases hy with rfl | rfl <;> rfl) (by unfold maxLen; omega) (by omega) hb
  have hbq : ∀ q, v.ownBlock = some q → base ≤ q := fun q e => (ho.lt q e).1
  obtain ⟨g2, c2, rfl⟩ : ∃ g2 c2, v' = .slice (some ⟨g2, 0, none⟩) (K.length + 1) c2 := by
    rcases hown.2 with ⟨_, h0⟩ | ⟨g2, c2, _, e, _⟩
    · omega
    · exact ⟨g2, c2, e⟩
  refine ⟨g2, c2, Y, hrun, ⟨h.below.grown hgr h.below.size fun q e => Nat.le_trans hw (hbq q e), h.keep.grown hgr fun j o hj ho' => ?_, fun p hp => h.ge p (List.mem_cons_of_mem _ hp), fun p hp => ?_, (List.nodup_cons.1 h.nd).2⟩, ?_, hgr.size, fun j hj hne => hgr.block j hj (Ne.symm hne), fun p hp e => ?_⟩
  · rcases ho.2 with ⟨rfl, _⟩ | ⟨g, cap, cur, rfl, _, hg', _⟩
    · simp [Value.ownBlock] at hj
    · simp only [Value.ownBlock, Option.some.injEq] at hj
      subst hj
      rw [hg'] at ho'
      cases ho'
      rfl
  · exact (hgr.block _ (h.lt p (List.mem_cons_of_mem _ hp)) (Ne.symm (hne p hp))).trans (h.at_ p (List.mem_cons_of_mem _ hp))
  · rw [flatV_app]
    exact hown
  · subst e
    rcases hat with h2 | h2
    · exact hne p hp h2.symm
    · have := h.lt p (List.mem_cons_of_mem _ hp)
      simp only [Value.ownBlock, Option.some.injEq] at h2
      omega
theorem own_off {X : World} {base e size n : Nat} {v u : Value} {xs : List Value} (h : X.ownsRow base e size v n xs) {b j : Nat} (hb : ∀ q, v.ownBlock = some q → q ≠ b) : (X.setCell ⟨b, j, none⟩ u).ownsRow base e size v n xs := by
  refine ⟨h.1, h.2.imp id ?_⟩
  rintro ⟨g, cap, cur, h1, h2, h3, h4⟩
  exact ⟨g, cap, cur, h1, h2, (Below.heap_setCell X ⟨b, j, none⟩ u g (hb g (by rw [h1]; rfl))).trans h3, h4⟩
theorem own_keep {X Y : World} {base e size n : Nat} {v : Value} {xs : List Value} (h : X.ownsRow base e size v n xs) (hs : ∀ q, v.ownBlock = some q → Y.heap[q]? = X.heap[q]?) : Y.ownsRow base e size v n xs := by
  refine ⟨h.1, h.2.imp id ?_⟩
  rintro ⟨g, cap, cur, h1, h2, h3, h4⟩
  exact ⟨g, cap, cur, h1, h2, (hs g (by rw [h1]; rfl)).trans h3, h4⟩
theorem own_set {X : World} {base e size n : Nat} {v u : Value} {xs : List Value} (h : X.ownsRow base e size v n xs) {b j : Nat} (hb : b < base) : (X.setCell ⟨b, j, none⟩ u).ownsRow base e size v n xs := by
  refine ⟨h.1, h.2.imp id ?_⟩
  rintro ⟨g, cap, cur, h1, h2, h3, h4⟩
  exact ⟨g, cap, cur, h1, h2, (Below.heap_setCell X ⟨b, j, none⟩ u g (by show g ≠ b; omega)).trans h3, h4⟩
def t21_0t : It := ⟨(Op.fieldAddr 25 (Operand.tmp 9) 2), some 138, 0, true, none⟩
def t21_1t : It := ⟨(Op.load 23 (Operand.tmp 138)), some 139, 23, true, none⟩
def t21_2t : It := ⟨(Op.move (Operand.tmp 7)), some 140, 43, true, none⟩
def t21_3t : It := ⟨(Op.fieldAddr 50 (Operand.tmp 16) 0), some 141, 0, true, none⟩
def t21_4t : It := ⟨(Op.load 3 (Operand.tmp 141)), some 142, 3, true, none⟩
def t21_6t : It := ⟨(Op.move (Operand.tmp 8)), some 144, 43, true, none⟩
def t21_7t : It := ⟨(Op.fieldAddr 50 (Operand.tmp 16) 1), some 145, 0, true, none⟩
def t21_8t : It := ⟨(Op.load 3 (Operand.tmp 145)), some 146, 3, true, none⟩
def t21_5 : It := ⟨(Op.call { callee := (Callee.value (Operand.tmp 140)), args := #[(Operand.tmp 142)], argTypes := #[3] }), some 143, 3, false, none⟩
def t21_9 : It := ⟨(Op.call { callee := (Callee.value (Operand.tmp 144)), args := #[(Operand.tmp 146)], argTypes := #[3] }), some 147, 3, false, none⟩
def t21_10 : It := ⟨(Op.build 50 #[(0, (Operand.tmp 143)), (1, (Operand.tmp 147))]), some 148, 50, false, none⟩
def t21_11 : It := ⟨(Op.buildSlice 23 1 #[(0, (Operand.tmp 148))]), some 149, 23, false, none⟩
def t21_12 : It := ⟨(Op.call { callee := (Callee.builtin Builtin.append), args := #[(Operand.tmp 139), (Operand.tmp 149)], argTypes := #[23, 23] }), some 150, 23, false, none⟩
def t21_13 : It := ⟨(Op.fieldAddr 25 (Operand.tmp 9) 2), some 151, 0, false, none⟩
def t21_14 : It := ⟨(Op.store 23 (Operand.tmp 151) (Operand.tmp 150)), none, 0, false, none⟩
set_option maxRecDepth 100000 in
set_option maxHeartbeats 4000000 in
theorem tu_r21 {w W : World} {a : XP} {b ba bb m1 m2 : Nat} {bx bt gL gN gk k jn pn r1 r2 B : Nat} {cuL cuN : List Value} {v : Value} {D : List (Nat × Nat)} (hf : a.Fine) (ha : a.At w) (hm1 : m1 < 256) (hm2 : m2 < 256) (hj : jn < a.L.length) (hp : pn < a.N.length) (hr1 : (jn + m1) % a.L.length = r1) (hr2 : (pn + m2) % a.N.length = r2) (hDl : k = D.length) (hk : k ≤ 40) (ho0 : W.ownsRow B 50 2 v k (flatV D)) (hne : ∀ x ∈ [b, ba, bb, bx, bt, gL, gN, gk], v.ownBlock ≠ some x) (hbx : bx < B) (hBg : B ≤ gk) (hwB : w.heap.size ≤ B) (hT : Tr w W W [(b, .cells #[a.sL, a.sN, a.sK] 25 (0, 0)), (ba, .cells #[.int .u8 (m1 : Int)] 5 (0, 0)), (bb, .cells #[.int .u8 (m2 : Int)] 5 (0, 0)), (bx, .cells #[.slice (some ⟨gL, 0, none⟩) a.L.length a.L.length, .slice (some ⟨gN, 0, none⟩) a.N.length a.N.length, v] 25 (0, 0)), (bt, .cells #[a.sL, a.sN, a.sK] 25 (0, 0)), (gL, .cells (cuL).toArray 3 (0, 0)), (gN, .cells (cuN).toArray 3 (0, 0)), (gk, .cells #[iv jn, iv pn] 50 (0, 0))]) {t : Array Value} (hSl : Slots (none :: none :: none :: some (.pointer (some ⟨b, 0, none⟩)) :: some (.pointer (some ⟨ba, 0, none⟩)) :: some (.pointer (some ⟨bb, 0, none⟩)) :: some (.bool false) :: some (.func (.func 48) #[] #[.pointer (some ⟨ba, 0, none⟩), .pointer (some ⟨b, 0, none⟩)]) :: some (.func (.func 49) #[] #[.pointer (some ⟨bb, 0, none⟩), .pointer (some ⟨b, 0, none⟩)]) :: some (.pointer (some ⟨bx, 0, none⟩)) :: some (.pointer (some ⟨bt, 0, none⟩)) :: none :: o4 (some (.pointer (some ⟨gk, 0, none⟩)) :: none :: none :: o4 (o4 (o16 (o16 (o64 (some (a.sK) :: some (iv a.K.length) :: some (iv k) :: o4 (o4 (o16 (o16 (o16 (o64 (o64 (o64 (o64 []))))))))))))))) t) :
    Exec Try.prog none (sub (Try.f12.body.getD .skip) [1, 1, 1, 1, 1, 1, 1, 1, 0, 1, 0, 0, 1, 1, 0, 0, 1, 1]) t W (andThen (fun t' W' => ∃ g2 c2, Tr w W' W' [(b, .cells #[a.sL, a.sN, a.sK] 25 (0, 0)), (ba, .cells #[.int .u8 (m1 : Int)] 5 (0, 0)), (bb, .cells #[.int .u8 (m2 : Int)] 5 (0, 0)), (bx, .cells #[.slice (some ⟨gL, 0, none⟩) a.L.length a.L.length, .slice (some ⟨gN, 0, none⟩) a.N.length a.N.length, .slice (some ⟨g2, 0, none⟩) (k + 1) c2] 25 (0, 0)), (bt, .cells #[a.sL, a.sN, a.sK] 25 (0, 0)), (gL, .cells (cuL).toArray 3 (0, 0)), (gN, .cells (cuN).toArray 3 (0, 0))] ∧ W'.ownsRow B 50 2 (.slice (some ⟨g2, 0, none⟩) (k + 1) c2) (k + 1) (flatV (D ++ [(r1, r2)])) ∧ Slots (none :: none :: none :: some (.pointer (some ⟨b, 0, none⟩)) :: some (.pointer (some ⟨ba, 0, none⟩)) :: some (.pointer (some ⟨bb, 0, none⟩)) :: some (.bool false) :: some (.func (.func 48) #[] #[.pointer (some ⟨ba, 0, none⟩), .pointer (some ⟨b, 0, none⟩)]) :: some (.func (.func 49) #[] #[.pointer (some ⟨bb, 0, none⟩), .pointer (some ⟨b, 0, none⟩)]) :: some (.pointer (some ⟨bx, 0, none⟩)) :: some (.pointer (some ⟨bt, 0, none⟩)) :: o16 (o16 (o16 (o64 (some (a.sK) :: some (iv a.K.length) :: some (iv k) :: o4 (o4 (o16 (o16 (o16 (o64 (o64 (o64 (o64 []))))))))))))) t') fun _ _ _ => False) := by
  have hu25 := Try.underlying25
  have hu23 := Try.underlying23
  have hu50 := Try.underlying50
  have hcall1 := fun (X : World) (h1 : X.heap[ba]? = some (.cells #[.int .u8 (m1 : Int)] 5 (0, 0))) (h2 : PBx X b a) => judge48 hm1 h1 h2 hj
  have hcall2 := fun (X : World) (h1 : X.heap[bb]? = some (.cells #[.int .u8 (m2 : Int)] 5 (0, 0))) (h2 : PBx X b a) => plot49 hm2 h1 h2 hp
  rw [hr1] at hcall1
  rw [hr2] at hcall2
  have ho := own_grow ho0 (Grow.of_below (B := 0) (Below.refl _ W).drew)
  have hT0 := hT.again.drew
  refine region_tree2 (c := (sub (Try.f12.body.getD .skip) [1, 1, 1, 1, 1, 1, 1, 1, 0, 1, 0, 0, 1, 1, 0, 0, 1, 1])) (id := 21) 13 2 (.one 0 true (.one 1 true (.one 2 true (.one 3 true (.one 4 true (.one 6 true (.one 7 true (.one 8 true (.one 5 false (.one 9 false (.one 10 false (.one 11 false (.one 12 false (.nil)))))))))))))) (.one 13 false (.one 14 false (.nil))) (Opq ((regOps (sub (Try.f12.body.getD .skip) [1, 1, 1, 1, 1, 1, 1, 1, 0, 1, 0, 0, 1, 1, 0, 0, 1, 1])).toList.take 13).toArray) (Opq (regOps (sub (Try.f12.body.getD .skip) [1, 1, 1, 1, 1, 1, 1, 1, 0, 1, 0, 0, 1, 1, 0, 0, 1, 1]))) rfl rfl rfl (by kernel_rfl) (by kernel_rfl) (by kernel_rfl) (by kernel_rfl) (by kernel_rfl) (by kernel_rfl) (by kernel_rfl) (by kernel_rfl) (by kernel_rfl) (by kernel_rfl) (by kernel_rfl) [0, 1, 0, 0, 8, 20, 0, 0, 128, 352, 544, 1024, 2562] [0, 1, 0, 0, 8, 20, 0, 0, 128, 352, 544, 1024, 2562, 8191, 16383] (by kernel_rfl) (by kernel_rfl) (by kernel_rfl) (by kernel_rfl) (fun W' => W'.cell? ⟨bx, 2, none⟩ = some (v) ∧ W'.cell? ⟨gk, 0, none⟩ = some (iv jn) ∧ W'.cell? ⟨gk, 1, none⟩ = some (iv pn)) fun ds Q' Qh hQn hQT => ?_
  have F0 : Fr (none :: none :: none :: some (.pointer (some ⟨b, 0, none⟩)) :: some (.pointer (some ⟨ba, 0, none⟩)) :: some (.pointer (some ⟨bb, 0, none⟩)) :: some (.bool false) :: some (.func (.func 48) #[] #[.pointer (some ⟨ba, 0, none⟩), .pointer (some ⟨b, 0, none⟩)]) :: some (.func (.func 49) #[] #[.pointer (some ⟨bb, 0, none⟩), .pointer (some ⟨b, 0, none⟩)]) :: some (.pointer (some ⟨bx, 0, none⟩)) :: some (.pointer (some ⟨bt, 0, none⟩)) :: none :: o4 (some (.pointer (some ⟨gk, 0, none⟩)) :: none :: none :: o4 (o4 (o16 (o16 (o64 (some (a.sK) :: some (iv a.K.length) :: some (iv k) :: o4 (o4 (o16 (o16 (o16 (o64 (o64 (o64 (o64 []))))))))))))))) ds { tmps := t, defers := ds } := Fr.start hSl
  clear hSl
  generalize ({ tmps := t, defers := ds } : Act) = a0 at *
  generalize W.drew = X0 at *
  refine tr_take t21_0t (.pointer (some ⟨bx, 2, none⟩)) (by kernel_rfl) rfl rfl (fun wq hq => ?_) ⟨hT0.cell 3 rfl rfl, hT0.cell 7 rfl rfl, hT0.cell 7 rfl rfl⟩ ?_; (focus (have e9 : a0.eval (.tmp 9) = (.pointer (some ⟨bx, 0, none⟩)) := F0.ev 9 (by kernel_rfl); generalize a0.eval = ev at e9 ⊢; simp [go_sem, mkO, t21_0t, e9, hu25]; done))
  refine F0.next 138 (.pointer (some ⟨bx, 2, none⟩)) fun a1 F1 => ?_
  clear F0
  refine tr_take t21_1t (v) (by kernel_rfl) rfl rfl (fun wq hq => ?_) ⟨hT0.cell 3 rfl rfl, hT0.cell 7 rfl rfl, hT0.cell 7 rfl rfl⟩ ?_; (focus (have e138 : a1.eval (.tmp 138) = (.pointer (some ⟨bx, 2, none⟩)) := F1.ev 138 (by kernel_rfl); generalize a1.eval = ev at e138 ⊢; simp [go_sem, mkO, t21_1t, e138, hq.1]; done))
  refine F1.next 139 (v) fun a2 F2 => ?_
  clear F1 a1
  refine tr_take t21_2t (.func (.func 48) #[] #[.pointer (some ⟨ba, 0, none⟩), .pointer (some ⟨b, 0, none⟩)]) (by kernel_rfl) rfl rfl (fun wq hq => ?_) ⟨hT0.cell 3 rfl rfl, hT0.cell 7 rfl rfl, hT0.cell 7 rfl rfl⟩ ?_; (focus (have e7 : a2.eval (.tmp 7) = (.func (.func 48) #[] #[.pointer (some ⟨ba, 0, none⟩), .pointer (some ⟨b, 0, none⟩)]) := F2.ev 7 (by kernel_rfl); generalize a2.eval = ev at e7 ⊢; simp [go_sem, mkO, t21_2t, e7]; done))
  refine F2.next 140 (.func (.func 48) #[] #[.pointer (some ⟨ba, 0, none⟩), .pointer (some ⟨b, 0, none⟩)]) fun a3 F3 => ?_
  clear F2 a2
  refine tr_take t21_3t (.pointer (some ⟨gk, 0, none⟩)) (by kernel_rfl) rfl rfl (fun wq hq => ?_) ⟨hT0.cell 3 rfl rfl, hT0.cell 7 rfl rfl, hT0.cell 7 rfl rfl⟩ ?_; (focus (have e16 : a3.eval (.tmp 16) = (.pointer (some ⟨gk, 0, none⟩)) := F3.ev 16 (by kernel_rfl); generalize a3.eval = ev at e16 ⊢; simp [go_sem, mkO, t21_3t, e16, hu50]; done))
  refine F3.next 141 (.pointer (some ⟨gk, 0, none⟩)) fun a4 F4 => ?_
  clear F3 a3
  refine tr_take t21_4t (iv jn) (by kernel_rfl) rfl rfl (fun wq hq => ?_) ⟨hT0.cell 3 rfl rfl, hT0.cell 7 rfl rfl, hT0.cell 7 rfl rfl⟩ ?_; (focus (have e141 : a4.eval (.tmp 141) = (.pointer (some ⟨gk, 0, none⟩)) := F4.ev 141 (by kernel_rfl); generalize a4.eval = ev at e141 ⊢; simp [go_sem, mkO, t21_4t, e141, hq.2.1]; done))
  refine F4.next 142 (iv jn) fun a5 F5 => ?_
  clear F4 a4
  refine tr_take t21_6t (.func (.func 49) #[] #[.pointer (some ⟨bb, 0, none⟩), .pointer (some ⟨b, 0, none⟩)]) (by kernel_rfl) rfl rfl (fun wq hq => ?_) ⟨hT0.cell 3 rfl rfl, hT0.cell 7 rfl rfl, hT0.cell 7 rfl rfl⟩ ?_; (focus (have e8 : a5.eval (.tmp 8) = (.func (.func 49) #[] #[.pointer (some ⟨bb, 0, none⟩), .pointer (some ⟨b, 0, none⟩)]) := F5.ev 8 (by kernel_rfl); generalize a5.eval = ev at e8 ⊢; simp [go_sem, mkO, t21_6t, e8]; done))
  refine F5.next 144 (.func (.func 49) #[] #[.pointer (some ⟨bb, 0, none⟩), .pointer (some ⟨b, 0, none⟩)]) fun a6 F6 => ?_
  clear F5 a5
  refine tr_take t21_7t (.pointer (some ⟨gk, 1, none⟩)) (by kernel_rfl) rfl rfl (fun wq hq => ?_) ⟨hT0.cell 3 rfl rfl, hT0.cell 7 rfl rfl, hT0.cell 7 rfl rfl⟩ ?_; (focus (have e16 : a6.eval (.tmp 16) = (.pointer (some ⟨gk, 0, none⟩)) := F6.ev 16 (by kernel_rfl); generalize a6.eval = ev at e16 ⊢; simp [go_sem, mkO, t21_7t, e16, hu50]; done))
  refine F6.next 145 (.pointer (some ⟨gk, 1, none⟩)) fun a7 F7 => ?_
  clear F6 a6
  refine tr_take t21_8t (iv pn) (by kernel_rfl) rfl rfl (fun wq hq => ?_) ⟨hT0.cell 3 rfl rfl, hT0.cell 7 rfl rfl, hT0.cell 7 rfl rfl⟩ ?_; (focus (have e145 : a7.eval (.tmp 145) = (.pointer (some ⟨gk, 1, none⟩)) := F7.ev 145 (by kernel_rfl); generalize a7.eval = ev at e145 ⊢; simp [go_sem, mkO, t21_8t, e145, hq.2.2]; done))
  refine F7.next 146 (iv pn) fun a8 F8 => ?_
  clear F7 a7
  refine tr_call t21_5 (f := 48) (args := #[iv jn, .pointer (some ⟨ba, 0, none⟩), .pointer (some ⟨b, 0, none⟩)]) (by kernel_rfl) rfl rfl ?_ ?_
  · (have e140 : a8.eval (.tmp 140) = (.func (.func 48) #[] #[.pointer (some ⟨ba, 0, none⟩), .pointer (some ⟨b, 0, none⟩)]) := F8.ev 140 (by kernel_rfl); have e142 : a8.eval (.tmp 142) = (iv jn) := F8.ev 142 (by kernel_rfl); generalize a8.eval = ev at e140 e142 ⊢; simp [go_sem, mkO, t21_5, e140, e142]; done)
  refine (hcall1 X0 (hT0.get 1 rfl) ⟨hT0.get 0 rfl, ha.below hT0.below⟩).mono ?_
  rintro e X1 ⟨rfl, hy⟩
  have hT1 := hT0.step hy
  replace ho := own_grow ho (Grow.of_below (B := 0) hy)
  refine .inl ⟨_, rfl, ⟨hT1.cell 3 rfl rfl, hT1.cell 7 rfl rfl, hT1.cell 7 rfl rfl⟩, ?_⟩
  clear hy hT0
  clear X0
  refine F8.next 143 (iv r1) fun a9 F9 => ?_
  clear F8 a8
  refine tr_call t21_9 (f := 49) (args := #[iv pn, .pointer (some ⟨bb, 0, none⟩), .pointer (some ⟨b, 0, none⟩)]) (by kernel_rfl) rfl rfl ?_ ?_
  · (have e144 : a9.eval (.tmp 144) = (.func (.func 49) #[] #[.pointer (some ⟨bb, 0, none⟩), .pointer (some ⟨b, 0, none⟩)]) := F9.ev 144 (by kernel_rfl); have e146 : a9.eval (.tmp 146) = (iv pn) := F9.ev 146 (by kernel_rfl); generalize a9.eval = ev at e144 e146 ⊢; simp [go_sem, mkO, t21_9, e144, e146]; done)
  refine (hcall2 X1 (hT1.get 2 rfl) ⟨hT1.get 0 rfl, ha.below hT1.below⟩).mono ?_
  rintro e X2 ⟨rfl, hy⟩
  have hT2 := hT1.step hy
  replace ho := own_grow ho (Grow.of_below (B := 0) hy)
  refine .inl ⟨_, rfl, ⟨hT2.cell 3 rfl rfl, hT2.cell 7 rfl rfl, hT2.cell 7 rfl rfl⟩, ?_⟩
  clear hy hT1
  clear X1
  refine F9.next 147 (iv r2) fun a10 F10 => ?_
  clear F9 a9
  refine tr_make t21_10 (.agg #[iv r1, iv r2]) _ (by kernel_rfl) rfl rfl ?_ ⟨hT2.cell 3 rfl rfl, hT2.cell 7 rfl rfl, hT2.cell 7 rfl rfl⟩ ?_; (focus (have hq := (show (fun W' : World => W'.cell? ⟨bx, 2, none⟩ = some (v) ∧ W'.cell? ⟨gk, 0, none⟩ = some (iv jn) ∧ W'.cell? ⟨gk, 1, none⟩ = some (iv pn)) X2 from ⟨hT2.cell 3 rfl rfl, hT2.cell 7 rfl rfl, hT2.cell 7 rfl rfl⟩); have e143 : a10.eval (.tmp 143) = (iv r1) := F10.ev 143 (by kernel_rfl); have e147 : a10.eval (.tmp 147) = (iv r2) := F10.ev 147 (by kernel_rfl); generalize a10.eval = ev at e143 e147 ⊢; simp [go_sem, mkO, t21_10, e143, e147, hu50]; done))
  refine F10.next 148 (.agg #[iv r1, iv r2]) fun a11 F11 => ?_
  clear F10 a10
  have hT3 : Tr w W (X2.alloc (.cells #[iv r1, iv r2] 50)) [(X2.heap.size, .cells #[iv r1, iv r2] 50 (0, 0)), (b, .cells #[a.sL, a.sN, a.sK] 25 (0, 0)), (ba, .cells #[.int .u8 (m1 : Int)] 5 (0, 0)), (bb, .cells #[.int .u8 (m2 : Int)] 5 (0, 0)), (bx, .cells #[.slice (some ⟨gL, 0, none⟩) a.L.length a.L.length, .slice (some ⟨gN, 0, none⟩) a.N.length a.N.length, v] 25 (0, 0)), (bt, .cells #[a.sL, a.sN, a.sK] 25 (0, 0)), (gL, .cells (cuL).toArray 3 (0, 0)), (gN, .cells (cuN).toArray 3 (0, 0)), (gk, .cells #[iv jn, iv pn] 50 (0, 0))] := hT2.alloc (.cells #[iv r1, iv r2] 50)
  refine tr_make t21_11 (.slice (some ⟨X2.heap.size, 0, none⟩) 1 1) (X2.alloc (.cells #[iv r1, iv r2] 50)) (by kernel_rfl) rfl rfl ?_ ⟨hT3.cell 4 rfl rfl, hT3.cell 8 rfl rfl, hT3.cell 8 rfl rfl⟩ ?_; (focus (have e148 : a11.eval (.tmp 148) = (.agg #[iv r1, iv r2]) := F11.ev 148 (by kernel_rfl); generalize a11.eval = ev at e148 ⊢; simp [go_sem, mkO, t21_11, e148, hu23, hu50]; done))
  replace ho := World.ownsRow.alloc ho (.cells #[iv r1, iv r2] 50)
  obtain ⟨gq, hggq⟩ : ∃ b, X2.heap.size = b := ⟨_, rfl⟩
  simp only [hggq] at hT3 ⊢
  generalize X2.alloc (.cells #[iv r1, iv r2] 50) = X3 at *
  clear hggq hT2
  clear X2
  refine F11.next 149 (.slice (some ⟨gq, 0, none⟩) 1 1) fun a12 F12 => ?_
  clear F11 a11
  have h9 : gk < X3.heap.size := heap_lt (hT3.get 8 rfl)
  obtain ⟨g2, c2, X4, hrun, hTa, hoa, hsa, hkb, hnb⟩ := hT3.app_pair hDl ho (fun p hp => hne p.1 (by simp only [List.mem_cons, List.not_mem_nil, or_false] at hp ⊢; rcases hp with rfl | rfl | rfl | rfl | rfl | rfl | rfl | rfl <;> simp)) (fun q e => (ho.lt q e).2) (by omega) (by omega) hwB
  have hT4 : Tr w W X4 [(b, .cells #[a.sL, a.sN, a.sK] 25 (0, 0)), (ba, .cells #[.int .u8 (m1 : Int)] 5 (0, 0)), (bb, .cells #[.int .u8 (m2 : Int)] 5 (0, 0)), (bx, .cells #[.slice (some ⟨gL, 0, none⟩) a.L.length a.L.length, .slice (some ⟨gN, 0, none⟩) a.N.length a.N.length, v] 25 (0, 0)), (bt, .cells #[a.sL, a.sN, a.sK] 25 (0, 0)), (gL, .cells (cuL).toArray 3 (0, 0)), (gN, .cells (cuN).toArray 3 (0, 0)), (gk, .cells #[iv jn, iv pn] 50 (0, 0))] := hTa
  replace ho := hoa
  clear hTa hoa h9
  refine tr_make t21_12 (.slice (some ⟨g2, 0, none⟩) (k + 1) c2) X4 (by kernel_rfl) rfl rfl (exec_append _ _ 23 rfl (F12.ev 139 (by kernel_rfl)) (F12.ev 149 (by kernel_rfl)) hrun) ⟨hT4.cell 3 rfl rfl, hT4.cell 7 rfl rfl, hT4.cell 7 rfl rfl⟩ ?_
  clear hrun hT3 hsa hkb hnb
  clear X3
  refine F12.next 150 (.slice (some ⟨g2, 0, none⟩) (k + 1) c2) fun a13 F13 => ?_
  clear F12 a12
  refine hQT _ _ ?_
  refine tr_make t21_13 (.pointer (some ⟨bx, 2, none⟩)) X4 (by kernel_rfl) rfl rfl ?_ trivial ?_; (focus (have e9 : a13.eval (.tmp 9) = (.pointer (some ⟨bx, 0, none⟩)) := F13.ev 9 (by kernel_rfl); generalize a13.eval = ev at e9 ⊢; simp [go_sem, mkO, t21_13, e9, hu25]; done))
  refine F13.next 151 (.pointer (some ⟨bx, 2, none⟩)) fun a14 F14 => ?_
  clear F13 a13
  have hz := hT4.fz 3 rfl
  have hc0 : X4.cell? ⟨bx, 2, none⟩ = some (v) := hT4.cell 3 rfl rfl
  have hT5 : Tr w W (X4.setCell ⟨bx, 2, none⟩ (.slice (some ⟨g2, 0, none⟩) (k + 1) c2)) [(b, .cells #[a.sL, a.sN, a.sK] 25 (0, 0)), (ba, .cells #[.int .u8 (m1 : Int)] 5 (0, 0)), (bb, .cells #[.int .u8 (m2 : Int)] 5 (0, 0)), (bx, .cells #[.slice (some ⟨gL, 0, none⟩) a.L.length a.L.length, .slice (some ⟨gN, 0, none⟩) a.N.length a.N.length, .slice (some ⟨g2, 0, none⟩) (k + 1) c2] 25 (0, 0)), (bt, .cells #[a.sL, a.sN, a.sK] 25 (0, 0)), (gL, .cells (cuL).toArray 3 (0, 0)), (gN, .cells (cuN).toArray 3 (0, 0)), (gk, .cells #[iv jn, iv pn] 50 (0, 0))] := (hT4.set 3 rfl 2 (.slice (some ⟨g2, 0, none⟩) (k + 1) c2))
  refine tr_store t21_14 (X4.setCell ⟨bx, 2, none⟩ (.slice (some ⟨g2, 0, none⟩) (k + 1) c2)) (by kernel_rfl) rfl rfl ?_ trivial ?_; (focus (have e150 : a14.eval (.tmp 150) = (.slice (some ⟨g2, 0, none⟩) (k + 1) c2) := F14.ev 150 (by kernel_rfl); have e151 : a14.eval (.tmp 151) = (.pointer (some ⟨bx, 2, none⟩)) := F14.ev 151 (by kernel_rfl); generalize a14.eval = ev at e150 e151 ⊢; simp [go_sem, mkO, t21_14, e150, e151, hz, hc0]; done))
  replace ho := own_set ho hbx (j := 2) (u := .slice (some ⟨g2, 0, none⟩) (k + 1) c2)
  clear hz hc0
  generalize (X4.setCell ⟨bx, 2, none⟩ (.slice (some ⟨g2, 0, none⟩) (k + 1) c2)) = X5 at *
  clear hT4
  clear X4
  show seqT _ _ _ _ _ a14 _
  exact F14.out hQn hT5.keep ⟨g2, c2, (hT5.drop (List.sublist_append_left ([(b, .cells #[a.sL, a.sN, a.sK] 25 (0, 0)), (ba, .cells #[.int .u8 (m1 : Int)] 5 (0, 0)), (bb, .cells #[.int .u8 (m2 : Int)] 5 (0, 0)), (bx, .cells #[.slice (some ⟨gL, 0, none⟩) a.L.length a.L.length, .slice (some ⟨gN, 0, none⟩) a.N.length a.N.length, .slice (some ⟨g2, 0, none⟩) (k + 1) c2] 25 (0, 0)), (bt, .cells #[a.sL, a.sN, a.sK] 25 (0, 0)), (gL, .cells (cuL).toArray 3 (0, 0)), (gN, .cells (cuN).toArray 3 (0, 0))] : List (Nat × Obj)) [_])).again, ho, (F14.fin [138, 139, 140, 141, 142, 143, 144, 145, 146, 147, 148, 149, 150, 151, 16] (by kernel_rfl))⟩
end Go.Proofs.Ytbdmmikflkpmpaa
end

section
namespace Go.Proofs.Ytbdmmikflkpmpaa
open Go.RowKit Go.TL Go.Shelf Go.Pn
def kinTo (K : List (Nat × Nat)) (s t : Nat → Nat) (k : Nat) : List (Nat × Nat) := (List.range k).map fun i => (s (K.getD (K.length - 1 - i) (0, 0)).1, t (K.getD (K.length - 1 - i) (0, 0)).2)
theorem kinTo_len (K : List (Nat × Nat)) (s t : Nat → Nat) (k : Nat) : (kinTo K s t k).length = k := by simp [kinTo]
theorem kinTo_succ (K : List (Nat × Nat)) (s t : Nat → Nat) (k : Nat) : kinTo K s t (k + 1) = kinTo K s t k ++ [(s (K.getD (K.length - 1 - k) (0, 0)).1, t (K.getD (K.length - 1 - k) (0, 0)).2)] := by
  unfold kinTo
  rw [List.range_succ, List.map_append]
  rfl
def TkI (w : World) (a : XP) (b ba bb m1 m2 bx bt gL gN : Nat) (cuL cuN : List Value) (B : Nat) (n : Nat) (t : Array Value) (W : World) : Prop :=
  ∃ (k : Nat) (v : Value), k ≤ a.K.length ∧ n = a.K.length - k ∧ Tr w W W [(b, .cells #[a.sL, a.sN, a.sK] 25 (0, 0)), (ba, .cells #[.int .u8 (m1 : Int)] 5 (0, 0)), (bb, .cells #[.int .u8 (m2 : Int)] 5 (0, 0)), (bx, .cells #[.slice (some ⟨gL, 0, none⟩) a.L.length a.L.length, .slice (some ⟨gN, 0, none⟩) a.N.length a.N.length, v] 25 (0, 0)), (bt, .cells #[a.sL, a.sN, a.sK] 25 (0, 0)), (gL, .cells (cuL).toArray 3 (0, 0)), (gN, .cells (cuN).toArray 3 (0, 0))] ∧ W.ownsRow B 50 2 v k (flatV (kinTo a.s3.2.2 (fun j => (j + m1) % a.L.length) (fun j => (j + m2) % a.N.length) k)) ∧ B ≤ W.heap.size ∧ Slots (none :: none :: none :: some (.pointer (some ⟨b, 0, none⟩)) :: some (.pointer (some ⟨ba, 0, none⟩)) :: some (.pointer (some ⟨bb, 0, none⟩)) :: some (.bool false) :: some (.func (.func 48) #[] #[.pointer (some ⟨ba, 0, none⟩), .pointer (some ⟨b, 0, none⟩)]) :: some (.func (.func 49) #[] #[.pointer (some ⟨bb, 0, none⟩), .pointer (some ⟨b, 0, none⟩)]) :: some (.pointer (some ⟨bx, 0, none⟩)) :: some (.pointer (some ⟨bt, 0, none⟩)) :: o16 (o16 (o16 (o64 (some (a.sK) :: some (iv a.K.length) :: some (iv k) :: o4 (o4 (o16 (o16 (o16 (o64 (o64 (o64 (o64 []))))))))))))) t
set_option maxRecDepth 100000 in
set_option maxHeartbeats 4000000 in
theorem tu_kin {w W : World} {a : XP} {b ba bb m1 m2 : Nat} {bx bt gL gN : Nat} {cuL cuN : List Value} (hf : a.Fine) (ha : a.At w) (hm1 : m1 < 256) (hm2 : m2 < 256) (hT : Tr w W W [(b, .cells #[a.sL, a.sN, a.sK] 25 (0, 0)), (ba, .cells #[.int .u8 (m1 : Int)] 5 (0, 0)), (bb, .cells #[.int .u8 (m2 : Int)] 5 (0, 0)), (bx, .cells #[.slice (some ⟨gL, 0, none⟩) a.L.length a.L.length, .slice (some ⟨gN, 0, none⟩) a.N.length a.N.length, .slice none 0 0] 25 (0, 0)), (bt, .cells #[a.sL, a.sN, a.sK] 25 (0, 0)), (gL, .cells (cuL).toArray 3 (0, 0)), (gN, .cells (cuN).toArray 3 (0, 0))]) {t : Array Value} (hSl : Slots (none :: none :: none :: some (.pointer (some ⟨b, 0, none⟩)) :: some (.pointer (some ⟨ba, 0, none⟩)) :: some (.pointer (some ⟨bb, 0, none⟩)) :: some (.bool false) :: some (.func (.func 48) #[] #[.pointer (some ⟨ba, 0, none⟩), .pointer (some ⟨b, 0, none⟩)]) :: some (.func (.func 49) #[] #[.pointer (some ⟨bb, 0, none⟩), .pointer (some ⟨b, 0, none⟩)]) :: some (.pointer (some ⟨bx, 0, none⟩)) :: some (.pointer (some ⟨bt, 0, none⟩)) :: none :: none :: none :: o4 (o4 (o16 (o16 (o64 (o64 (o64 (o64 (o64 (o64 [])))))))))) t) :
    Exec Try.prog none (sub (Try.f12.body.getD .skip) [1, 1, 1, 1, 1, 1, 1, 1, 0]) t W (andThen (fun t' W' => ∃ v, Tr w W' W' [(b, .cells #[a.sL, a.sN, a.sK] 25 (0, 0)), (ba, .cells #[.int .u8 (m1 : Int)] 5 (0, 0)), (bb, .cells #[.int .u8 (m2 : Int)] 5 (0, 0)), (bx, .cells #[.slice (some ⟨gL, 0, none⟩) a.L.length a.L.length, .slice (some ⟨gN, 0, none⟩) a.N.length a.N.length, v] 25 (0, 0)), (bt, .cells #[a.sL, a.sN, a.sK] 25 (0, 0)), (gL, .cells (cuL).toArray 3 (0, 0)), (gN, .cells (cuN).toArray 3 (0, 0))] ∧ W'.ownsRow W.heap.size 50 2 v a.K.length (flatV (kinTo a.s3.2.2 (fun j => (j + m1) % a.L.length) (fun j => (j + m2) % a.N.length) a.K.length)) ∧ Slots (none :: none :: none :: some (.pointer (some ⟨b, 0, none⟩)) :: some (.pointer (some ⟨ba, 0, none⟩)) :: some (.pointer (some ⟨bb, 0, none⟩)) :: some (.bool false) :: some (.func (.func 48) #[] #[.pointer (some ⟨ba, 0, none⟩), .pointer (some ⟨b, 0, none⟩)]) :: some (.func (.func 49) #[] #[.pointer (some ⟨bb, 0, none⟩), .pointer (some ⟨b, 0, none⟩)]) :: some (.pointer (some ⟨bx, 0, none⟩)) :: some (.pointer (some ⟨bt, 0, none⟩)) :: none :: none :: none :: o4 (o4 (o16 (o16 (o64 (o64 (o64 (o64 (o64 (o64 [])))))))))) t') fun _ _ _ => False) := by
  have hu25 := Try.underlying25
  have hu23 := Try.underlying23
  have hu50 := Try.underlying50
  have h10 := hf.k
  have hKl : a.s3.2.2.length = a.K.length := by simp [XP.s3]
  have c0 := hT.cell 0 rfl (j := 2) rfl
  simp only [XP.sK] at c0
  obtain ⟨x, hx⟩ := Slots.open_ hSl; simp only [fill, Nat.reduceAdd] at hx; subst hx; clear hSl
  show Exec _ _ (Code.seq _ (Code.block _ _)) _ _ _
  refine exec_seq (exec_region_o fun ds => ?_)
  gi_wp2
  refine eq_mk (Keep.refl _) ?_
  show Exec _ _ (Code.block _ _) _ _ _
  clear c0
  have hBw := hT.below.size
  have l0 := hT.lt _ (List.mem_of_getElem? (i := 0) rfl)
  have l1 := hT.lt _ (List.mem_of_getElem? (i := 1) rfl)
  have l2 := hT.lt _ (List.mem_of_getElem? (i := 2) rfl)
  have l3 := hT.lt _ (List.mem_of_getElem? (i := 3) rfl)
  have l4 := hT.lt _ (List.mem_of_getElem? (i := 4) rfl)
  have l5 := hT.lt _ (List.mem_of_getElem? (i := 5) rfl)
  have l6 := hT.lt _ (List.mem_of_getElem? (i := 6) rfl)
  refine exec_block ?_
  refine exec_loop (TkI w a b ba bb m1 m2 bx bt gL gN cuL cuN W.heap.size) a.K.length ⟨0, .slice none 0 0, by omega, rfl, hT, World.ownsRow_nil _ _ _ _, Nat.le_refl _, by simp [Slots, Fits, XP.sK]⟩ ?_
  obtain ⟨B, hBd⟩ : ∃ B, W.heap.size = B := ⟨_, rfl⟩
  rw [hBd] at hBw l0 l1 l2 l3 l4 l5 l6 ⊢
  clear hT x hBd
  clear W
  rintro n t W ⟨k, v, hk, hn, hT, ho, hBW, hSl⟩
  have HN := Lib.hid hn
  have HLL := Lib.hid (show b < B ∧ ba < B ∧ bb < B ∧ bx < B ∧ bt < B ∧ gL < B ∧ gN < B from ⟨l0, l1, l2, l3, l4, l5, l6⟩)
  clear hn l0 l1 l2 l3 l4 l5 l6
  obtain ⟨x, hx⟩ := Slots.open_ hSl; simp only [fill, Nat.reduceAdd] at hx; subst hx; clear hSl
  show Exec _ _ (Code.seq _ (Code.seq _ _)) _ _ _
  refine exec_seq (exec_region_o fun ds => ?_)
  gi_wp2
  refine eq_mk (Keep.refl _) ?_
  show Exec _ _ (Code.seq (Code.cond _ _ _) _) _ _ _
  refine exec_seq (exec_cond (b := decide (k < a.K.length)) (by first | rfl | (show Value.bool _ = _; congr 1; exact decide_eq_decide.2 (by omega))) (fun hp => exec_skip ?_) (fun hp => exec_exit ?_))
  · have hkl : k < a.K.length := by have := of_decide_eq_true hp; omega
    clear hp
    obtain ⟨q, hq⟩ : ∃ q, a.K[a.K.length - 1 - k]? = some q := ⟨_, List.getElem?_eq_getElem (by omega)⟩
    obtain ⟨⟨q1, q2⟩, q3, q4⟩ := hf.kb q (List.mem_of_getElem? hq)
    obtain ⟨ad, hA, ck1, ck2⟩ := (ha.below hT.below).k _ q hq
    have hs3 : a.s3.2.2.getD (a.s3.2.2.length - 1 - k) (0, 0) = (q.1.toNat, q.2.toNat) := by
      rw [hKl, List.getD_eq_getElem?_getD, show a.s3.2.2[a.K.length - 1 - k]? = some (q.1.toNat, q.2.toNat) from by
        show (a.K.map fun k => (k.1.toNat, k.2.toNat))[a.K.length - 1 - k]? = _
        rw [List.getElem?_map, hq]
        rfl]
      rfl
    obtain ⟨jn, hjn⟩ : ∃ jn : Nat, q.1 = jn := ⟨q.1.toNat, by omega⟩
    obtain ⟨pn, hpn⟩ : ∃ pn : Nat, q.2 = pn := ⟨q.2.toNat, by omega⟩
    rw [hjn] at q1 q2 ck1 hs3
    rw [hpn] at q3 q4 ck2 hs3
    rw [Int.toNat_natCast, Int.toNat_natCast] at hs3
    clear hq hjn hpn q
    have hjl : jn < a.L.length := by omega
    have hpl : pn < a.N.length := by omega
    have HQ := Lib.hid hs3
    clear hs3 q1 q2 q3 q4
    have w1 : IntKind.i64.wrap ((a.K.length : Int) - 1) = ((a.K.length - 1 : Nat) : Int) := by rw [IntWalk.i64_in _ (by omega)]; omega
    have w2 : IntKind.i64.wrap (((a.K.length - 1 : Nat) : Int) - (k : Int)) = ((a.K.length - 1 - k : Nat) : Int) := by rw [IntWalk.i64_in _ (by omega)]; omega
    have hrl : a.K.length - 1 - k < a.K.length := by omega
    obtain ⟨r, hr⟩ : ∃ r, a.K.length - 1 - k = r := ⟨_, rfl⟩
    obtain ⟨nm, hnm⟩ : ∃ nm, a.K.length - 1 = nm := ⟨_, rfl⟩
    rw [hr] at w2 hrl ck1 ck2
    rw [hnm] at w1 w2
    clear hr hnm
    have hrI : (r : Int) < a.K.length := by omega
    have c0 := hT.cell 0 rfl (j := 2) rfl
    simp only [XP.sK, hA] at c0
    have hal := (Below.refl W.heap.size W).alloc (Nat.le_refl _) (.cells #[iv jn, iv pn] 50)
    have hTa := hT.alloc (.cells #[iv jn, iv pn] 50)
    have hoa := World.ownsRow.alloc ho (.cells #[iv jn, iv pn] 50)
    have hne : ∀ x ∈ [b, ba, bb, bx, bt, gL, gN, W.heap.size], v.ownBlock ≠ some x := fun x hx e => by
      have h1 := ho.lt x e
      have h2 := HLL.out
      simp only [List.mem_cons, List.not_mem_nil, or_false] at hx
      rcases hx with rfl | rfl | rfl | rfl | rfl | rfl | rfl | rfl <;> omega
    have hTb : Tr w (W.alloc (.cells #[iv jn, iv pn] 50)) (W.alloc (.cells #[iv jn, iv pn] 50)) [(b, .cells #[a.sL, a.sN, a.sK] 25 (0, 0)), (ba, .cells #[.int .u8 (m1 : Int)] 5 (0, 0)), (bb, .cells #[.int .u8 (m2 : Int)] 5 (0, 0)), (bx, .cells #[.slice (some ⟨gL, 0, none⟩) a.L.length a.L.length, .slice (some ⟨gN, 0, none⟩) a.N.length a.N.length, v] 25 (0, 0)), (bt, .cells #[a.sL, a.sN, a.sK] 25 (0, 0)), (gL, .cells (cuL).toArray 3 (0, 0)), (gN, .cells (cuN).toArray 3 (0, 0)), (W.heap.size, .cells #[iv jn, iv pn] 50 (0, 0))] := hTa.again.sort (List.forall_mem_cons.2 ⟨List.mem_of_getElem? (i := 1) rfl, List.forall_mem_cons.2 ⟨List.mem_of_getElem? (i := 2) rfl, List.forall_mem_cons.2 ⟨List.mem_of_getElem? (i := 3) rfl, List.forall_mem_cons.2 ⟨List.mem_of_getElem? (i := 4) rfl, List.forall_mem_cons.2 ⟨List.mem_of_getElem? (i := 5) rfl, List.forall_mem_cons.2 ⟨List.mem_of_getElem? (i := 6) rfl, List.forall_mem_cons.2 ⟨List.mem_of_getElem? (i := 7) rfl, List.forall_mem_cons.2 ⟨List.mem_of_getElem? (i := 0) rfl, fun _ h => (by cases h)⟩⟩⟩⟩⟩⟩⟩⟩) (List.forall_mem_cons.2 ⟨List.mem_of_getElem? (i := 7) rfl, List.forall_mem_cons.2 ⟨List.mem_of_getElem? (i := 0) rfl, List.forall_mem_cons.2 ⟨List.mem_of_getElem? (i := 1) rfl, List.forall_mem_cons.2 ⟨List.mem_of_getElem? (i := 2) rfl, List.forall_mem_cons.2 ⟨List.mem_of_getElem? (i := 3) rfl, List.forall_mem_cons.2 ⟨List.mem_of_getElem? (i := 4) rfl, List.forall_mem_cons.2 ⟨List.mem_of_getElem? (i := 5) rfl, List.forall_mem_cons.2 ⟨List.mem_of_getElem? (i := 6) rfl, fun _ h => (by cases h)⟩⟩⟩⟩⟩⟩⟩⟩) (Nat.le_refl _)
    have HA := Lib.hid hA
    clear hA hTa
    show Exec _ _ (Code.seq (Code.block _ _) _) _ _ _
    refine exec_cut (fun t' W => ∃ g2 c2, Tr w W W [(b, .cells #[a.sL, a.sN, a.sK] 25 (0, 0)), (ba, .cells #[.int .u8 (m1 : Int)] 5 (0, 0)), (bb, .cells #[.int .u8 (m2 : Int)] 5 (0, 0)), (bx, .cells #[.slice (some ⟨gL, 0, none⟩) a.L.length a.L.length, .slice (some ⟨gN, 0, none⟩) a.N.length a.N.length, .slice (some ⟨g2, 0, none⟩) (k + 1) c2] 25 (0, 0)), (bt, .cells #[a.sL, a.sN, a.sK] 25 (0, 0)), (gL, .cells (cuL).toArray 3 (0, 0)), (gN, .cells (cuN).toArray 3 (0, 0))] ∧ W.ownsRow B 50 2 (.slice (some ⟨g2, 0, none⟩) (k + 1) c2) (k + 1) (flatV (kinTo a.s3.2.2 (fun j => (j + m1) % a.L.length) (fun j => (j + m2) % a.N.length) (k + 1))) ∧ B ≤ W.heap.size ∧ Slots (none :: none :: none :: some (.pointer (some ⟨b, 0, none⟩)) :: some (.pointer (some ⟨ba, 0, none⟩)) :: some (.pointer (some ⟨bb, 0, none⟩)) :: some (.bool false) :: some (.func (.func 48) #[] #[.pointer (some ⟨ba, 0, none⟩), .pointer (some ⟨b, 0, none⟩)]) :: some (.func (.func 49) #[] #[.pointer (some ⟨bb, 0, none⟩), .pointer (some ⟨b, 0, none⟩)]) :: some (.pointer (some ⟨bx, 0, none⟩)) :: some (.pointer (some ⟨bt, 0, none⟩)) :: o16 (o16 (o16 (o64 (some (a.sK) :: some (iv a.K.length) :: some (iv k) :: o4 (o4 (o16 (o16 (o16 (o64 (o64 (o64 (o64 []))))))))))))) t') (exec_block ?_) ?_
    · show Exec _ _ (Code.seq _ (Code.seq _ _)) _ _ _
      refine exec_seq (exec_region_o fun ds => ?_)
      gi_wp2
      refine eq_mk (Keep.refl _) ?_
      show Exec _ _ (Code.seq _ _) _ _ _
      refine exec_seq (exec_region_o fun ds => ?_)
      gi_wp2
      refine eq_mk ((Keep.refl _).alloc _) ?_
      show Exec _ _ (sub (Try.f12.body.getD .skip) [1, 1, 1, 1, 1, 1, 1, 1, 0, 1, 0, 0, 1, 1, 0, 0, 1, 1]) _ _ _
      have hsz : W.heap.size ≤ (W.alloc (.cells #[iv jn, iv pn] 50)).heap.size := hal.size
      refine (tu_r21 (k := k) hf ha hm1 hm2 hjl hpl rfl rfl (by rw [kinTo_len]) (by omega) hoa hne HLL.out.2.2.2.1 hBW hBw hTb ?_).mono ?_
      · simp [Slots, Fits, XP.sK, HA.out]
      · intro e t' Z hh
        obtain ⟨rfl, g2, c2, hT2, ho2, hS2⟩ := only_normal hh
        have hA2 := HA.out
        refine ⟨g2, c2, hT2, ?_, ?_, hS2⟩
        · rw [kinTo_succ, HQ.out]
          exact ho2
        · have := (ho2.lt g2 rfl)
          omega
    · clear hT x ck1 ck2 ho hoa hTb hne hal c0 HQ
      clear hBW
      clear W
      rintro t' Y ⟨g2, c2, hT, ho, hBW, hSl⟩
      obtain ⟨x, hx⟩ := Slots.open_ hSl; simp only [fill, Nat.reduceAdd] at hx; subst hx; clear hSl
      have hw : IntKind.i64.wrap ((k : Int) + 1) = ((k + 1 : Nat) : Int) := by rw [IntWalk.i64_in _ (by omega)]; norm_cast
      clear w1 w2
      refine exec_region_o fun ds => ?_
      gi_wp2
      exact eq_mk (Keep.refl _) ⟨n - 1, by rw [HN.out]; omega, k + 1, _, by omega, by rw [HN.out]; omega, hT, ho, hBW, by simp only [Slots, Fits, and_self]; simp⟩
  · have hk2 : k = a.K.length := by have := of_decide_eq_false hp; omega
    subst hk2
    exact ⟨v, hT, ho, by simp [Slots, Fits]⟩
end Go.Proofs.Ytbdmmikflkpmpaa
end

section
namespace Go.Proofs.Ytbdmmikflkpmpaa
open Go.RowKit Go.TL Go.Shelf Go.Pn
theorem rowK_of {a : XP} (hf : a.Fine) {w : World} (ha : a.At w) : RowK w a.AK a.s3.2.2 := (XP.np_at ha hf).k
theorem add_next (a : Addr) (m : Nat) : (⟨(a.add m).block, (a.add m).off + 1, none⟩ : Addr) = a.add (m + 1) := by
  unfold Addr.add
  by_cases h : m = 0 <;> simp [h]
  omega
theorem rowK_cells {X : World} {a : Addr} {K : List (Nat × Nat)} (hr : RowK X (some a) K) : ∀ j u, (flatV K)[j]? = some u → X.cell? (a.add j) = some u := by
  intro j u hj
  have hjl : j < K.length * 2 := by
    have := (List.getElem?_eq_some_iff.1 hj).1
    rw [flatV_len] at this
    exact this
  have hi : j / 2 < K.length := by omega
  have hk : K[j / 2]? = some K[j / 2] := List.getElem?_eq_getElem hi
  obtain ⟨ad, e, h1, h2⟩ := hr (j / 2) _ hk
  cases e
  obtain ⟨g1, g2⟩ := flatV_get K (j / 2) _ hk
  rcases (show j = j / 2 * 2 ∨ j = j / 2 * 2 + 1 by omega) with hh | hh
  · rw [← hh, hj] at g1
    rw [← hh] at h1
    rw [h1, g1]
  · rw [← hh, hj] at g2
    rw [add_next, ← hh] at h2
    rw [h2, g2]
theorem Tr.app_kin {W V X : World} {l : List (Nat × Obj)} (h : Tr W V X l) (i : Nat) {z : Nat} (hi : l[i]? = some (z, .cells #[] 50 (0, 0))) {A : Option Addr} {K : List (Nat × Nat)} {n c : Nat} (hr : RowK X A K) (hl : K.length ≤ 1000) (hn : n = K.length) (ty : TypeId) :
    ∃ g c' cur Y, (Builtin.append_ #[23, 23] ty #[.slice (some ⟨z, 0, none⟩) 0 0, .slice A n c]).run Try.prog X = .ok (.slice (some ⟨g, 0, none⟩) n c') Y ∧ Tr W V Y (l.set i (g, .cells cur.toArray 50 (0, 0))) ∧ (Pre cur (flatV K) ∧ Y.ownsRow W.heap.size 50 2 (.slice (some ⟨g, 0, none⟩) n c') n (flatV K) ∧ (g = z ∨ X.heap.size ≤ g)) ∧ Below X.heap.size X Y := by
  subst hn
  obtain ⟨i0, zv, hi0, hz0, hzs, hz1, hz2⟩ := info50
  have hzz := h.get i hi
  have hge := h.ge _ (List.mem_of_getElem? hi)
  cases K with
  | nil =>
    refine ⟨z, 0, [], X, ?_, ?_, ⟨fun i v hv => by simp [flatV] at hv, ⟨rfl, .inr ⟨z, 0, #[], rfl, hge, hzz, Nat.le_refl _, by unfold maxLen; omega, rfl, rfl⟩⟩, .inl rfl⟩, Below.refl _ _⟩
    · have hs : Src Try.prog i0.size 23 (.slice A 0 c) 0 [] X := by
        cases A with
        | none => exact Src.ofNil X Try.underlying23 c
        | some a => exact Src.ofSlice X Try.underlying23 a 0 c [] (by simp) (fun j u hu => by simp at hu) (fun u hu => by cases hu)
      exact run_append_nothing X 23 23 ty 50 i0 Try.underlying23 hi0 (some ⟨z, 0, none⟩) 0 0 (Nat.le_refl _) _ hs
    · have : l.set i (z, .cells [].toArray 50 (0, 0)) = l := by
        refine List.ext_getElem? fun j => ?_
        rw [List.getElem?_set]
        split
        · rename_i e
          subst e
          rw [if_pos (List.getElem?_eq_some_iff.1 hi).1, hi]
        · rfl
      rw [this]
      exact h
  | cons y K =>
    obtain ⟨a, rfl, _⟩ := hr 0 _ rfl
    obtain ⟨v', Y, hrun, hown, hgr⟩ := run_append_arg_grows (P := Try.prog) X 23 ty 50 i0 zv 2 16 Try.underlying23 hi0 hz0 hz1 hz2 hzs (by decide) ⟨z, 0, none⟩ 0 0 [] rfl (fun j u h => by simp at h) a (y :: K).length c (flatV (y :: K)) (flatV_len _) (rowK_cells hr) (by simp) (by unfold maxLen; omega) (by omega)
    rw [Nat.zero_add, List.nil_append] at hown
    have hown' := hown.mono h.below.size
    rcases hown.2 with ⟨_, h0⟩ | ⟨g, cap, cur, rfl, hge2, hg, hnc, _, hsz, htk⟩
    · simp at h0
    · have hB : Below X.heap.size X Y := (Below.refl _ X).grown hgr (Nat.le_refl _) (fun q e => by cases e)
      have hT := h.step hB
      refine ⟨g, cap, cur.toList, Y, hrun, ?_, ⟨fun i v hv => ?_, hown', .inr hge2⟩, hB⟩
      · have hne : ∀ p ∈ l, p.1 ≠ g := fun p hp => by have := h.lt p hp; omega
        exact hT.put hT.below hT.keep hi (Nat.le_trans h.below.size hge2) (.inr hne) (fun p hp _ => hT.at_ p hp) (by simpa using hg)
      · rw [← htk] at hv
        rw [List.getElem?_take] at hv
        split at hv
        · exact hv
        · cases hv
theorem wpListIn_app {F : Fence} {nF : Nat} {P : Program} {ops : Array Oper} {rest : List Oper} {o : Oper} {a : Act} {Q : Exit → Act → World → Prop} {w : World} (hgd : o.guard = none) (s y : Operand) (t : TypeId) (ho : o.op = .call { callee := .builtin .append, args := #[s, y], argTypes := #[t, t] }) {v xv v' : Value} {w' : World} (hs : a.eval s = v) (hx : a.eval y = xv)
    (hr : (Builtin.append_ #[t, t] o.type #[v, xv]).run P w = .ok v' w') (h : wpListIn F nF P ops Q rest (a.put o.dst v') w') : wpListIn F nF P ops Q (o :: rest) a w := by
  refine wpListIn_plain hgd fun K hK => ?_
  unfold Oper.wpIn
  refine ⟨by simp [Oper.about, ho, resolve, Target.leads, Sem.run_pure], ?_⟩
  rw [Oper.semAt_plain F _ _ (by rw [ho]; intro c hc'; cases hc')]
  simp [execOp, ho, resolve, invoke, builtin, hs, hx, hr, Result.andThen]
  exact hK _ _ h
set_option maxRecDepth 100000 in
set_option maxHeartbeats 4000000 in
theorem tu_r23 {w W : World} {a : XP} {b ba bb m1 m2 : Nat} {bx bt gL gN B : Nat} {cuL cuN : List Value} {v : Value} {K : List (Nat × Nat)} (hf : a.Fine) (ha : a.At w) (hbt : bt < B) (ho : W.ownsRow B 50 2 v a.K.length (flatV K)) (hT : Tr w W W [(b, .cells #[a.sL, a.sN, a.sK] 25 (0, 0)), (ba, .cells #[.int .u8 (m1 : Int)] 5 (0, 0)), (bb, .cells #[.int .u8 (m2 : Int)] 5 (0, 0)), (bx, .cells #[.slice (some ⟨gL, 0, none⟩) a.L.length a.L.length, .slice (some ⟨gN, 0, none⟩) a.N.length a.N.length, v] 25 (0, 0)), (bt, .cells #[a.sL, a.sN, a.sK] 25 (0, 0)), (gL, .cells (cuL).toArray 3 (0, 0)), (gN, .cells (cuN).toArray 3 (0, 0))]) {t : Array Value} (hSl : Slots (none :: none :: none :: some (.pointer (some ⟨b, 0, none⟩)) :: some (.pointer (some ⟨ba, 0, none⟩)) :: some (.pointer (some ⟨bb, 0, none⟩)) :: some (.bool false) :: some (.func (.func 48) #[] #[.pointer (some ⟨ba, 0, none⟩), .pointer (some ⟨b, 0, none⟩)]) :: some (.func (.func 49) #[] #[.pointer (some ⟨bb, 0, none⟩), .pointer (some ⟨b, 0, none⟩)]) :: some (.pointer (some ⟨bx, 0, none⟩)) :: some (.pointer (some ⟨bt, 0, none⟩)) :: none :: none :: none :: o4 (o4 (o16 (o16 (o64 (o64 (o64 (o64 (o64 (o64 [])))))))))) t) :
    Exec Try.prog none (sub (Try.f12.body.getD .skip) [1, 1, 1, 1, 1, 1, 1, 1, 1, 0]) t W (andThen (fun t' W' => ∃ (gT cT : Nat) (cuT : List Value), Tr w W' W' [(b, .cells #[a.sL, a.sN, a.sK] 25 (0, 0)), (ba, .cells #[.int .u8 (m1 : Int)] 5 (0, 0)), (bb, .cells #[.int .u8 (m2 : Int)] 5 (0, 0)), (bx, .cells #[.slice (some ⟨gL, 0, none⟩) a.L.length a.L.length, .slice (some ⟨gN, 0, none⟩) a.N.length a.N.length, v] 25 (0, 0)), (bt, .cells #[a.sL, a.sN, .slice (some ⟨gT, 0, none⟩) a.K.length cT] 25 (0, 0)), (gL, .cells (cuL).toArray 3 (0, 0)), (gN, .cells (cuN).toArray 3 (0, 0)), (gT, .cells (cuT).toArray 50 (0, 0))] ∧ W'.ownsRow B 50 2 v a.K.length (flatV K) ∧ W'.ownsRow w.heap.size 50 2 (.slice (some ⟨gT, 0, none⟩) a.K.length cT) a.K.length (flatV a.s3.2.2) ∧ (∀ q, v.ownBlock = some q → q ≠ gT) ∧ Slots (none :: none :: none :: some (.pointer (some ⟨b, 0, none⟩)) :: some (.pointer (some ⟨ba, 0, none⟩)) :: some (.pointer (some ⟨bb, 0, none⟩)) :: some (.bool false) :: some (.func (.func 48) #[] #[.pointer (some ⟨ba, 0, none⟩), .pointer (some ⟨b, 0, none⟩)]) :: some (.func (.func 49) #[] #[.pointer (some ⟨bb, 0, none⟩), .pointer (some ⟨b, 0, none⟩)]) :: some (.pointer (some ⟨bx, 0, none⟩)) :: some (.pointer (some ⟨bt, 0, none⟩)) :: none :: none :: none :: o4 (o4 (o16 (o16 (o64 (o64 (o64 (o64 (o64 (o64 [])))))))))) t') fun _ _ _ => False) := by
  have hu25 := Try.underlying25
  have hu23 := Try.underlying23
  have hu50 := Try.underlying50
  have hKl : a.s3.2.2.length = a.K.length := by simp [XP.s3]
  have h40 := ha.k4
  have hTa := hT.again.alloc (.cells #[] 50)
  have c2 := hTa.cell 1 rfl (j := 2) rfl
  have hvT : ∀ q, v.ownBlock = some q → q < W.heap.size := fun q e => (ho.lt q e).2
  obtain ⟨gT, cT, cuT, Y, hrun, hTb, ⟨hpT, hoT, hgT⟩, hba⟩ := hTa.app_kin 0 rfl (n := a.K.length) (c := a.cK) (rowK_of hf (ha.below hTa.below)) (by omega) hKl.symm 23
  have hTc : Tr w W Y [(b, .cells #[a.sL, a.sN, a.sK] 25 (0, 0)), (ba, .cells #[.int .u8 (m1 : Int)] 5 (0, 0)), (bb, .cells #[.int .u8 (m2 : Int)] 5 (0, 0)), (bx, .cells #[.slice (some ⟨gL, 0, none⟩) a.L.length a.L.length, .slice (some ⟨gN, 0, none⟩) a.N.length a.N.length, v] 25 (0, 0)), (bt, .cells #[a.sL, a.sN, a.sK] 25 (0, 0)), (gL, .cells (cuL).toArray 3 (0, 0)), (gN, .cells (cuN).toArray 3 (0, 0)), (gT, .cells (cuT).toArray 50 (0, 0))] := hTb.sort (List.forall_mem_cons.2 ⟨List.mem_of_getElem? (i := 1) rfl, List.forall_mem_cons.2 ⟨List.mem_of_getElem? (i := 2) rfl, List.forall_mem_cons.2 ⟨List.mem_of_getElem? (i := 3) rfl, List.forall_mem_cons.2 ⟨List.mem_of_getElem? (i := 4) rfl, List.forall_mem_cons.2 ⟨List.mem_of_getElem? (i := 5) rfl, List.forall_mem_cons.2 ⟨List.mem_of_getElem? (i := 6) rfl, List.forall_mem_cons.2 ⟨List.mem_of_getElem? (i := 7) rfl, List.forall_mem_cons.2 ⟨List.mem_of_getElem? (i := 0) rfl, fun _ h => (by cases h)⟩⟩⟩⟩⟩⟩⟩⟩) (List.forall_mem_cons.2 ⟨List.mem_of_getElem? (i := 7) rfl, List.forall_mem_cons.2 ⟨List.mem_of_getElem? (i := 0) rfl, List.forall_mem_cons.2 ⟨List.mem_of_getElem? (i := 1) rfl, List.forall_mem_cons.2 ⟨List.mem_of_getElem? (i := 2) rfl, List.forall_mem_cons.2 ⟨List.mem_of_getElem? (i := 3) rfl, List.forall_mem_cons.2 ⟨List.mem_of_getElem? (i := 4) rfl, List.forall_mem_cons.2 ⟨List.mem_of_getElem? (i := 5) rfl, List.forall_mem_cons.2 ⟨List.mem_of_getElem? (i := 6) rfl, fun _ h => (by cases h)⟩⟩⟩⟩⟩⟩⟩⟩) (Nat.le_refl _)
  have d2 := hTc.cell 4 rfl (j := 2) rfl
  have fz := hTc.fz 4 rfl 2
  have hTd := hTc.set 4 rfl 2 (.slice (some ⟨gT, 0, none⟩) a.K.length cT)
  have hoB := own_grow (World.ownsRow.alloc ho (.cells #[] 50)) (Grow.of_below (B := 0) hba)
  have hoC := own_set hoB hbt (j := 2) (u := .slice (some ⟨gT, 0, none⟩) a.K.length cT)
  have hoD : (Y.setCell ⟨bt, 2, none⟩ (.slice (some ⟨gT, 0, none⟩) a.K.length cT)).ownsRow w.heap.size 50 2 (.slice (some ⟨gT, 0, none⟩) a.K.length cT) a.K.length (flatV a.s3.2.2) := by
    refine ⟨hoT.1, hoT.2.imp id ?_⟩
    rintro ⟨g, cap, cur, h1, h2, h3, h4⟩
    have hn : gT ≠ bt := by
      have := hTc.nd
      simp only [List.map_cons, List.map_nil, List.nodup_cons, List.mem_cons, List.not_mem_nil, not_or, or_false] at this
      exact fun c => this.2.2.2.2.1.2.2 c.symm
    cases h1
    exact ⟨gT, cT, cur, rfl, h2, (Below.heap_setCell Y ⟨bt, 2, none⟩ _ gT hn).trans h3, h4⟩
  have hK := hTd.keep
  have hvn : ∀ q, v.ownBlock = some q → q ≠ gT := fun q e => by
    have := hvT q e
    rcases hgT with h | h
    · omega
    · have : W.heap.size ≤ (W.alloc (.cells #[] 50)).heap.size := ((Below.refl W.heap.size W).alloc (Nat.le_refl _) _).size
      omega
  have HT := Lib.hid (⟨hTd.again, hoC, hoD, hvn⟩ : _ ∧ _ ∧ _ ∧ _)
  simp only [XP.sK] at c2 d2
  clear hTa hTb hTc hTd hoB hoC hoD hpT hoT hba ho hvn hvT hgT
  obtain ⟨x, hx⟩ := Slots.open_ hSl; simp only [fill, Nat.reduceAdd] at hx; subst hx; clear hSl
  refine exec_region_o fun ds => ?_
  show (Code.region _ _ _).wpIn _ _ _ _ _ _
  gi_wp2_with (gi_at_builtin; refine wpListIn_app rfl _ _ 23 rfl rfl rfl hrun ?_)
  refine eq_mk hK ?_
  exact ⟨gT, cT, cuT, HT.out.1, HT.out.2.1, HT.out.2.2.1, HT.out.2.2.2, by simp [Slots, Fits]⟩
end Go.Proofs.Ytbdmmikflkpmpaa
end

section
namespace Go.Proofs.Ytbdmmikflkpmpaa
open Go.RowKit Go.TL Go.Shelf Go.Pn
def t26_0t : It := ⟨(Op.fieldAddr 25 (Operand.tmp 10) 2), some 163, 0, true, none⟩
def t26_1t : It := ⟨(Op.load 23 (Operand.tmp 163)), some 164, 23, true, none⟩
def t26_2t : It := ⟨(Op.fieldAddr 25 (Operand.tmp 3) 2), some 165, 0, true, none⟩
def t26_3t : It := ⟨(Op.load 23 (Operand.tmp 165)), some 166, 23, true, none⟩
def t26_4t : It := ⟨(Op.load 5 (Operand.tmp 4)), some 167, 5, true, none⟩
def t26_5t : It := ⟨(Op.convert 5 3 (Operand.tmp 167)), some 168, 3, true, none⟩
def t26_6 : It := ⟨(Op.move (Operand.tmp 17)), some 169, 3, false, none⟩
def t26_7 : It := ⟨(Op.binOp BinOp.rem 3 (Operand.tmp 168) (Operand.tmp 169) 3), some 170, 3, false, none⟩
def t26_8 : It := ⟨(Op.indexAddr 23 (Operand.tmp 166) (Operand.tmp 170)), some 171, 0, false, none⟩
def t26_9 : It := ⟨(Op.load 50 (Operand.tmp 171)), some 172, 50, false, none⟩
def t26_10 : It := ⟨(Op.buildSlice 23 1 #[(0, (Operand.tmp 172))]), some 173, 23, false, none⟩
def t26_11 : It := ⟨(Op.call { callee := (Callee.builtin Builtin.append), args := #[(Operand.tmp 164), (Operand.tmp 173)], argTypes := #[23, 23] }), some 174, 23, false, none⟩
def t26_12 : It := ⟨(Op.fieldAddr 25 (Operand.tmp 10) 2), some 175, 0, false, none⟩
def t26_13 : It := ⟨(Op.store 23 (Operand.tmp 175) (Operand.tmp 174)), none, 0, false, none⟩
set_option maxRecDepth 100000 in
set_option maxHeartbeats 4000000 in
theorem tu_r26 {w W : World} {a : XP} {b ba bb m1 m2 : Nat} {bx bt gL gN gT cT B r : Nat} {cuL cuN cuT : List Value} {v : Value} {K2 : List (Nat × Nat)} {q : Nat × Nat} {ad : Addr} (hf : a.Fine) (ha : a.At w) (hA : a.AK = some ad) (hm : m1 < 256) (hp1 : 0 < a.K.length) (hr : m1 % a.K.length = r) (hq : a.s3.2.2[r]? = some q) (hbt : bt < B) (hov0 : W.ownsRow B 50 2 v a.K.length (flatV K2)) (hvT : ∀ q, v.ownBlock = some q → q ≠ gT) (ho0 : W.ownsRow w.heap.size 50 2 (.slice (some ⟨gT, 0, none⟩) a.K.length cT) a.K.length (flatV a.s3.2.2)) (hT : Tr w W W [(b, .cells #[a.sL, a.sN, a.sK] 25 (0, 0)), (ba, .cells #[.int .u8 (m1 : Int)] 5 (0, 0)), (bb, .cells #[.int .u8 (m2 : Int)] 5 (0, 0)), (bx, .cells #[.slice (some ⟨gL, 0, none⟩) a.L.length a.L.length, .slice (some ⟨gN, 0, none⟩) a.N.length a.N.length, v] 25 (0, 0)), (bt, .cells #[a.sL, a.sN, .slice (some ⟨gT, 0, none⟩) a.K.length cT] 25 (0, 0)), (gL, .cells (cuL).toArray 3 (0, 0)), (gN, .cells (cuN).toArray 3 (0, 0)), (gT, .cells (cuT).toArray 50 (0, 0))]) {t : Array Value} (hSl : Slots (none :: none :: none :: some (.pointer (some ⟨b, 0, none⟩)) :: some (.pointer (some ⟨ba, 0, none⟩)) :: some (.pointer (some ⟨bb, 0, none⟩)) :: some (.bool false) :: some (.func (.func 48) #[] #[.pointer (some ⟨ba, 0, none⟩), .pointer (some ⟨b, 0, none⟩)]) :: some (.func (.func 49) #[] #[.pointer (some ⟨bb, 0, none⟩), .pointer (some ⟨b, 0, none⟩)]) :: some (.pointer (some ⟨bx, 0, none⟩)) :: some (.pointer (some ⟨bt, 0, none⟩)) :: none :: none :: o4 (some (iv a.K.length) :: o4 (o16 (o16 (o64 (o64 (o64 (o64 (o64 (o64 [])))))))))) t) :
    Exec Try.prog none (sub (Try.f12.body.getD .skip) [1, 1, 1, 1, 1, 1, 1, 1, 1, 1, 0, 1, 1, 0]) t W (andThen (fun t' W' => ∃ g2 c2, Tr w W' W' [(b, .cells #[a.sL, a.sN, a.sK] 25 (0, 0)), (ba, .cells #[.int .u8 (m1 : Int)] 5 (0, 0)), (bb, .cells #[.int .u8 (m2 : Int)] 5 (0, 0)), (bx, .cells #[.slice (some ⟨gL, 0, none⟩) a.L.length a.L.length, .slice (some ⟨gN, 0, none⟩) a.N.length a.N.length, v] 25 (0, 0)), (bt, .cells #[a.sL, a.sN, .slice (some ⟨g2, 0, none⟩) (a.K.length + 1) c2] 25 (0, 0)), (gL, .cells (cuL).toArray 3 (0, 0)), (gN, .cells (cuN).toArray 3 (0, 0))] ∧ W'.ownsRow w.heap.size 50 2 (.slice (some ⟨g2, 0, none⟩) (a.K.length + 1) c2) (a.K.length + 1) (flatV (a.s3.2.2 ++ [q])) ∧ W'.ownsRow B 50 2 v a.K.length (flatV K2) ∧ Slots (none :: none :: none :: some (.pointer (some ⟨b, 0, none⟩)) :: some (.pointer (some ⟨ba, 0, none⟩)) :: some (.pointer (some ⟨bb, 0, none⟩)) :: some (.bool false) :: some (.func (.func 48) #[] #[.pointer (some ⟨ba, 0, none⟩), .pointer (some ⟨b, 0, none⟩)]) :: some (.func (.func 49) #[] #[.pointer (some ⟨bb, 0, none⟩), .pointer (some ⟨b, 0, none⟩)]) :: some (.pointer (some ⟨bx, 0, none⟩)) :: some (.pointer (some ⟨bt, 0, none⟩)) :: none :: none :: o4 (some (iv a.K.length) :: o4 (o16 (o16 (o64 (o64 (o64 (o64 (o64 (o64 [])))))))))) t') fun _ _ _ => False) := by
  have hu25 := Try.underlying25
  have hu23 := Try.underlying23
  have hu50 := Try.underlying50
  obtain ⟨i0, z0, hi0, _, _, hs50, _⟩ := info50
  have h40 := ha.k4
  have hDl : a.K.length = a.s3.2.2.length := (s3_kin_len a).symm
  have hml : r < a.K.length := by rw [← hr]; exact Nat.mod_lt _ hp1
  have hm1 : Int.tmod (m1 : Int) (a.K.length : Int) = (r : Int) := by rw [Int.tmod_eq_emod_of_nonneg (by omega), ← hr]; norm_cast
  have hrI : (r : Int) < a.K.length := by omega
  have hconv : IntKind.i64.wrap (m1 : Int) = (m1 : Int) := IntWalk.i64_in _ (by omega)
  have hw1 : IntKind.i64.wrap (r : Int) = (r : Int) := IntWalk.i64_in _ (by omega)
  have hn0 : ¬ a.K.length = 0 := by omega
  have hck : ∀ Y, Below w.heap.size w Y → Y.cell? (ad.add (r * 2)) = some (iv q.1) ∧ Y.cell? ⟨(ad.add (r * 2)).block, (ad.add (r * 2)).off + 1, none⟩ = some (iv q.2) := fun Y hY => by
    obtain ⟨_, e, h1, h2⟩ := rowK_of hf (ha.below hY) r q hq
    rw [hA] at e
    cases e
    exact ⟨h1, h2⟩
  have hgn : gT ≠ b ∧ gT ≠ ba ∧ gT ≠ bb ∧ gT ≠ bx ∧ gT ≠ bt ∧ gT ≠ gL ∧ gT ≠ gN := by
    have := hT.nd
    simp only [List.map_cons, List.map_nil, List.nodup_cons, List.mem_cons, List.not_mem_nil, not_or, or_false] at this
    exact ⟨fun c => this.1.2.2.2.2.2.2 c.symm, fun c => this.2.1.2.2.2.2.2 c.symm, fun c => this.2.2.1.2.2.2.2 c.symm, fun c => this.2.2.2.1.2.2.2 c.symm, fun c => this.2.2.2.2.1.2.2 c.symm, fun c => this.2.2.2.2.2.1.2 c.symm, fun c => this.2.2.2.2.2.2.1 c.symm⟩
  have ho := own_grow ho0 (Grow.of_below (B := 0) (Below.refl _ W).drew)
  have hov := own_grow hov0 (Grow.of_below (B := 0) (Below.refl _ W).drew)
  have hT0 := hT.again.drew
  refine region_tree2 (c := (sub (Try.f12.body.getD .skip) [1, 1, 1, 1, 1, 1, 1, 1, 1, 1, 0, 1, 1, 0])) (id := 26) 12 2 (.one 0 true (.one 1 true (.one 2 true (.one 3 true (.one 4 true (.one 5 true (.one 6 false (.one 7 false (.one 8 false (.one 9 false (.one 10 false (.one 11 false (.nil))))))))))))) (.one 12 false (.one 13 false (.nil))) (Opq ((regOps (sub (Try.f12.body.getD .skip) [1, 1, 1, 1, 1, 1, 1, 1, 1, 1, 0, 1, 1, 0])).toList.take 12).toArray) (Opq (regOps (sub (Try.f12.body.getD .skip) [1, 1, 1, 1, 1, 1, 1, 1, 1, 1, 0, 1, 1, 0]))) rfl rfl rfl (by kernel_rfl) (by kernel_rfl) (by kernel_rfl) (by kernel_rfl) (by kernel_rfl) (by kernel_rfl) (by kernel_rfl) (by kernel_rfl) (by kernel_rfl) (by kernel_rfl) (by kernel_rfl) [0, 1, 0, 4, 0, 16, 0, 96, 136, 256, 512, 1026] [0, 1, 0, 4, 0, 16, 0, 96, 136, 256, 512, 1026, 4095, 8191] (by kernel_rfl) (by kernel_rfl) (by kernel_rfl) (by kernel_rfl) (fun W' => W'.cell? ⟨bt, 2, none⟩ = some (.slice (some ⟨gT, 0, none⟩) a.K.length cT) ∧ W'.cell? ⟨b, 2, none⟩ = some (a.sK) ∧ W'.cell? ⟨ba, 0, none⟩ = some (.int .u8 (m1 : Int)) ∧ W'.cell? (ad.add (r * 2)) = some (iv q.1) ∧ W'.cell? ⟨(ad.add (r * 2)).block, (ad.add (r * 2)).off + 1, none⟩ = some (iv q.2)) fun ds Q' Qh hQn hQT => ?_
  have F0 : Fr (none :: none :: none :: some (.pointer (some ⟨b, 0, none⟩)) :: some (.pointer (some ⟨ba, 0, none⟩)) :: some (.pointer (some ⟨bb, 0, none⟩)) :: some (.bool false) :: some (.func (.func 48) #[] #[.pointer (some ⟨ba, 0, none⟩), .pointer (some ⟨b, 0, none⟩)]) :: some (.func (.func 49) #[] #[.pointer (some ⟨bb, 0, none⟩), .pointer (some ⟨b, 0, none⟩)]) :: some (.pointer (some ⟨bx, 0, none⟩)) :: some (.pointer (some ⟨bt, 0, none⟩)) :: none :: none :: o4 (some (iv a.K.length) :: o4 (o16 (o16 (o64 (o64 (o64 (o64 (o64 (o64 [])))))))))) ds { tmps := t, defers := ds } := Fr.start hSl
  clear hSl
  generalize ({ tmps := t, defers := ds } : Act) = a0 at *
  generalize W.drew = X0 at *
  refine tr_take t26_0t (.pointer (some ⟨bt, 2, none⟩)) (by kernel_rfl) rfl rfl (fun wq hq => ?_) ⟨hT0.cell 4 rfl rfl, hT0.cell 0 rfl rfl, hT0.cell 1 rfl rfl, (hck _ hT0.below).1, (hck _ hT0.below).2⟩ ?_; (focus (have e10 : a0.eval (.tmp 10) = (.pointer (some ⟨bt, 0, none⟩)) := F0.ev 10 (by kernel_rfl); generalize a0.eval = ev at e10 ⊢; simp [go_sem, mkO, t26_0t, e10, hu25]; done))
  refine F0.next 163 (.pointer (some ⟨bt, 2, none⟩)) fun a1 F1 => ?_
  clear F0
  refine tr_take t26_1t (.slice (some ⟨gT, 0, none⟩) a.K.length cT) (by kernel_rfl) rfl rfl (fun wq hq => ?_) ⟨hT0.cell 4 rfl rfl, hT0.cell 0 rfl rfl, hT0.cell 1 rfl rfl, (hck _ hT0.below).1, (hck _ hT0.below).2⟩ ?_; (focus (have e163 : a1.eval (.tmp 163) = (.pointer (some ⟨bt, 2, none⟩)) := F1.ev 163 (by kernel_rfl); generalize a1.eval = ev at e163 ⊢; simp [go_sem, mkO, t26_1t, e163, hq.1]; done))
  refine F1.next 164 (.slice (some ⟨gT, 0, none⟩) a.K.length cT) fun a2 F2 => ?_
  clear F1 a1
  refine tr_take t26_2t (.pointer (some ⟨b, 2, none⟩)) (by kernel_rfl) rfl rfl (fun wq hq => ?_) ⟨hT0.cell 4 rfl rfl, hT0.cell 0 rfl rfl, hT0.cell 1 rfl rfl, (hck _ hT0.below).1, (hck _ hT0.below).2⟩ ?_; (focus (have e3 : a2.eval (.tmp 3) = (.pointer (some ⟨b, 0, none⟩)) := F2.ev 3 (by kernel_rfl); generalize a2.eval = ev at e3 ⊢; simp [go_sem, mkO, t26_2t, e3, hu25]; done))
  refine F2.next 165 (.pointer (some ⟨b, 2, none⟩)) fun a3 F3 => ?_
  clear F2 a2
  refine tr_take t26_3t (.slice (some ad) a.K.length a.cK) (by kernel_rfl) rfl rfl (fun wq hq => ?_) ⟨hT0.cell 4 rfl rfl, hT0.cell 0 rfl rfl, hT0.cell 1 rfl rfl, (hck _ hT0.below).1, (hck _ hT0.below).2⟩ ?_; (focus (have e165 : a3.eval (.tmp 165) = (.pointer (some ⟨b, 2, none⟩)) := F3.ev 165 (by kernel_rfl); generalize a3.eval = ev at e165 ⊢; simp [go_sem, mkO, t26_3t, e165, hq.2.1, XP.sK, hA]; done))
  refine F3.next 166 (.slice (some ad) a.K.length a.cK) fun a4 F4 => ?_
  clear F3 a3
  refine tr_take t26_4t (.int .u8 (m1 : Int)) (by kernel_rfl) rfl rfl (fun wq hq => ?_) ⟨hT0.cell 4 rfl rfl, hT0.cell 0 rfl rfl, hT0.cell 1 rfl rfl, (hck _ hT0.below).1, (hck _ hT0.below).2⟩ ?_; (focus (have e4 : a4.eval (.tmp 4) = (.pointer (some ⟨ba, 0, none⟩)) := F4.ev 4 (by kernel_rfl); generalize a4.eval = ev at e4 ⊢; simp [go_sem, mkO, t26_4t, e4, hq.2.2.1]; done))
  refine F4.next 167 (.int .u8 (m1 : Int)) fun a5 F5 => ?_
  clear F4 a4
  refine tr_take t26_5t (iv m1) (by kernel_rfl) rfl rfl (fun wq hq => ?_) ⟨hT0.cell 4 rfl rfl, hT0.cell 0 rfl rfl, hT0.cell 1 rfl rfl, (hck _ hT0.below).1, (hck _ hT0.below).2⟩ ?_; (focus (have e167 : a5.eval (.tmp 167) = (.int .u8 (m1 : Int)) := F5.ev 167 (by kernel_rfl); generalize a5.eval = ev at e167 ⊢; simp [go_sem, mkO, t26_5t, e167, hconv]; done))
  refine F5.next 168 (iv m1) fun a6 F6 => ?_
  clear F5 a5
  refine tr_make t26_6 (iv a.K.length) _ (by kernel_rfl) rfl rfl ?_ ⟨hT0.cell 4 rfl rfl, hT0.cell 0 rfl rfl, hT0.cell 1 rfl rfl, (hck _ hT0.below).1, (hck _ hT0.below).2⟩ ?_; (focus (have hq := (show (fun W' : World => W'.cell? ⟨bt, 2, none⟩ = some (.slice (some ⟨gT, 0, none⟩) a.K.length cT) ∧ W'.cell? ⟨b, 2, none⟩ = some (a.sK) ∧ W'.cell? ⟨ba, 0, none⟩ = some (.int .u8 (m1 : Int)) ∧ W'.cell? (ad.add (r * 2)) = some (iv q.1) ∧ W'.cell? ⟨(ad.add (r * 2)).block, (ad.add (r * 2)).off + 1, none⟩ = some (iv q.2)) X0 from ⟨hT0.cell 4 rfl rfl, hT0.cell 0 rfl rfl, hT0.cell 1 rfl rfl, (hck _ hT0.below).1, (hck _ hT0.below).2⟩); have e17 : a6.eval (.tmp 17) = (iv a.K.length) := F6.ev 17 (by kernel_rfl); generalize a6.eval = ev at e17 ⊢; simp [go_sem, mkO, t26_6, e17]; done))
  refine F6.next 169 (iv a.K.length) fun a7 F7 => ?_
  clear F6 a6
  refine tr_make t26_7 (iv r) _ (by kernel_rfl) rfl rfl ?_ ⟨hT0.cell 4 rfl rfl, hT0.cell 0 rfl rfl, hT0.cell 1 rfl rfl, (hck _ hT0.below).1, (hck _ hT0.below).2⟩ ?_; (focus (have hq := (show (fun W' : World => W'.cell? ⟨bt, 2, none⟩ = some (.slice (some ⟨gT, 0, none⟩) a.K.length cT) ∧ W'.cell? ⟨b, 2, none⟩ = some (a.sK) ∧ W'.cell? ⟨ba, 0, none⟩ = some (.int .u8 (m1 : Int)) ∧ W'.cell? (ad.add (r * 2)) = some (iv q.1) ∧ W'.cell? ⟨(ad.add (r * 2)).block, (ad.add (r * 2)).off + 1, none⟩ = some (iv q.2)) X0 from ⟨hT0.cell 4 rfl rfl, hT0.cell 0 rfl rfl, hT0.cell 1 rfl rfl, (hck _ hT0.below).1, (hck _ hT0.below).2⟩); have e168 : a7.eval (.tmp 168) = (iv m1) := F7.ev 168 (by kernel_rfl); have e169 : a7.eval (.tmp 169) = (iv a.K.length) := F7.ev 169 (by kernel_rfl); generalize a7.eval = ev at e168 e169 ⊢; simp [go_sem, mkO, t26_7, e168, e169, hm1, hw1, hn0]; done))
  refine F7.next 170 (iv r) fun a8 F8 => ?_
  clear F7 a7
  refine tr_make t26_8 (.pointer (some (ad.add (r * 2)))) _ (by kernel_rfl) rfl rfl ?_ ⟨hT0.cell 4 rfl rfl, hT0.cell 0 rfl rfl, hT0.cell 1 rfl rfl, (hck _ hT0.below).1, (hck _ hT0.below).2⟩ ?_; (focus (have hq := (show (fun W' : World => W'.cell? ⟨bt, 2, none⟩ = some (.slice (some ⟨gT, 0, none⟩) a.K.length cT) ∧ W'.cell? ⟨b, 2, none⟩ = some (a.sK) ∧ W'.cell? ⟨ba, 0, none⟩ = some (.int .u8 (m1 : Int)) ∧ W'.cell? (ad.add (r * 2)) = some (iv q.1) ∧ W'.cell? ⟨(ad.add (r * 2)).block, (ad.add (r * 2)).off + 1, none⟩ = some (iv q.2)) X0 from ⟨hT0.cell 4 rfl rfl, hT0.cell 0 rfl rfl, hT0.cell 1 rfl rfl, (hck _ hT0.below).1, (hck _ hT0.below).2⟩); have e166 : a8.eval (.tmp 166) = (.slice (some ad) a.K.length a.cK) := F8.ev 166 (by kernel_rfl); have e170 : a8.eval (.tmp 170) = (iv r) := F8.ev 170 (by kernel_rfl); generalize a8.eval = ev at e166 e170 ⊢; simp [go_sem, mkO, t26_8, e166, e170, hu23, hi0, hs50, hrI]; done))
  refine F8.next 171 (.pointer (some (ad.add (r * 2)))) fun a9 F9 => ?_
  clear F8 a8
  refine tr_make t26_9 (.agg #[iv q.1, iv q.2]) _ (by kernel_rfl) rfl rfl ?_ ⟨hT0.cell 4 rfl rfl, hT0.cell 0 rfl rfl, hT0.cell 1 rfl rfl, (hck _ hT0.below).1, (hck _ hT0.below).2⟩ ?_; (focus (have hq := (show (fun W' : World => W'.cell? ⟨bt, 2, none⟩ = some (.slice (some ⟨gT, 0, none⟩) a.K.length cT) ∧ W'.cell? ⟨b, 2, none⟩ = some (a.sK) ∧ W'.cell? ⟨ba, 0, none⟩ = some (.int .u8 (m1 : Int)) ∧ W'.cell? (ad.add (r * 2)) = some (iv q.1) ∧ W'.cell? ⟨(ad.add (r * 2)).block, (ad.add (r * 2)).off + 1, none⟩ = some (iv q.2)) X0 from ⟨hT0.cell 4 rfl rfl, hT0.cell 0 rfl rfl, hT0.cell 1 rfl rfl, (hck _ hT0.below).1, (hck _ hT0.below).2⟩); have e171 : a9.eval (.tmp 171) = (.pointer (some (ad.add (r * 2)))) := F9.ev 171 (by kernel_rfl); generalize a9.eval = ev at e171 ⊢; simp [go_sem, mkO, t26_9, e171, hu50, hq.2.2.2.1, hq.2.2.2.2]; done))
  refine F9.next 172 (.agg #[iv q.1, iv q.2]) fun a10 F10 => ?_
  clear F9 a9
  have hT1 : Tr w W (X0.alloc (.cells #[iv q.1, iv q.2] 50)) [(X0.heap.size, .cells #[iv q.1, iv q.2] 50 (0, 0)), (b, .cells #[a.sL, a.sN, a.sK] 25 (0, 0)), (ba, .cells #[.int .u8 (m1 : Int)] 5 (0, 0)), (bb, .cells #[.int .u8 (m2 : Int)] 5 (0, 0)), (bx, .cells #[.slice (some ⟨gL, 0, none⟩) a.L.length a.L.length, .slice (some ⟨gN, 0, none⟩) a.N.length a.N.length, v] 25 (0, 0)), (bt, .cells #[a.sL, a.sN, .slice (some ⟨gT, 0, none⟩) a.K.length cT] 25 (0, 0)), (gL, .cells (cuL).toArray 3 (0, 0)), (gN, .cells (cuN).toArray 3 (0, 0)), (gT, .cells (cuT).toArray 50 (0, 0))] := hT0.alloc (.cells #[iv q.1, iv q.2] 50)
  refine tr_make t26_10 (.slice (some ⟨X0.heap.size, 0, none⟩) 1 1) (X0.alloc (.cells #[iv q.1, iv q.2] 50)) (by kernel_rfl) rfl rfl ?_ ⟨hT1.cell 5 rfl rfl, hT1.cell 1 rfl rfl, hT1.cell 2 rfl rfl, (hck _ hT1.below).1, (hck _ hT1.below).2⟩ ?_; (focus (have e172 : a10.eval (.tmp 172) = (.agg #[iv q.1, iv q.2]) := F10.ev 172 (by kernel_rfl); generalize a10.eval = ev at e172 ⊢; simp [go_sem, mkO, t26_10, e172, hu23, hu50]; done))
  replace ho := World.ownsRow.alloc ho (.cells #[iv q.1, iv q.2] 50)
  replace hov := World.ownsRow.alloc hov (.cells #[iv q.1, iv q.2] 50)
  obtain ⟨gq, hggq⟩ : ∃ b, X0.heap.size = b := ⟨_, rfl⟩
  simp only [hggq] at hT1 ⊢
  generalize X0.alloc (.cells #[iv q.1, iv q.2] 50) = X1 at *
  clear hggq hT0
  clear X0
  refine F10.next 173 (.slice (some ⟨gq, 0, none⟩) 1 1) fun a11 F11 => ?_
  clear F10 a10
  have hTx : Tr w W X1 [(gq, .cells #[iv q.1, iv q.2] 50 (0, 0)), (b, .cells #[a.sL, a.sN, a.sK] 25 (0, 0)), (ba, .cells #[.int .u8 (m1 : Int)] 5 (0, 0)), (bb, .cells #[.int .u8 (m2 : Int)] 5 (0, 0)), (bx, .cells #[.slice (some ⟨gL, 0, none⟩) a.L.length a.L.length, .slice (some ⟨gN, 0, none⟩) a.N.length a.N.length, v] 25 (0, 0)), (bt, .cells #[a.sL, a.sN, .slice (some ⟨gT, 0, none⟩) a.K.length cT] 25 (0, 0)), (gL, .cells (cuL).toArray 3 (0, 0)), (gN, .cells (cuN).toArray 3 (0, 0))] := hT1.drop (List.sublist_append_left ([(gq, .cells #[iv q.1, iv q.2] 50 (0, 0)), (b, .cells #[a.sL, a.sN, a.sK] 25 (0, 0)), (ba, .cells #[.int .u8 (m1 : Int)] 5 (0, 0)), (bb, .cells #[.int .u8 (m2 : Int)] 5 (0, 0)), (bx, .cells #[.slice (some ⟨gL, 0, none⟩) a.L.length a.L.length, .slice (some ⟨gN, 0, none⟩) a.N.length a.N.length, v] 25 (0, 0)), (bt, .cells #[a.sL, a.sN, .slice (some ⟨gT, 0, none⟩) a.K.length cT] 25 (0, 0)), (gL, .cells (cuL).toArray 3 (0, 0)), (gN, .cells (cuN).toArray 3 (0, 0))] : List (Nat × Obj)) [_])
  obtain ⟨g2, c2, X2, hrun, hTa, hoa, hsa, hkb, hnb⟩ := hTx.app_pair hDl ho (fun p hp => by simp only [List.mem_cons, List.not_mem_nil, or_false] at hp; simp only [Value.ownBlock, ne_eq, Option.some.injEq]; have := hgn; rcases hp with rfl | rfl | rfl | rfl | rfl | rfl | rfl <;> simp only <;> omega) (fun q e => (ho.lt q e).2) (by omega) (hT1.below.size) (Nat.le_refl _)
  have hT2 : Tr w W X2 [(b, .cells #[a.sL, a.sN, a.sK] 25 (0, 0)), (ba, .cells #[.int .u8 (m1 : Int)] 5 (0, 0)), (bb, .cells #[.int .u8 (m2 : Int)] 5 (0, 0)), (bx, .cells #[.slice (some ⟨gL, 0, none⟩) a.L.length a.L.length, .slice (some ⟨gN, 0, none⟩) a.N.length a.N.length, v] 25 (0, 0)), (bt, .cells #[a.sL, a.sN, .slice (some ⟨gT, 0, none⟩) a.K.length cT] 25 (0, 0)), (gL, .cells (cuL).toArray 3 (0, 0)), (gN, .cells (cuN).toArray 3 (0, 0))] := hTa
  replace ho := hoa
  replace hov := own_keep hov fun q e => hkb q (hov.lt q e).2 (by simp only [Value.ownBlock, ne_eq, Option.some.injEq]; exact fun c => hvT q e c.symm)
  have hgbt := hnb _ (List.mem_of_getElem? (i := 4) rfl)
  clear hTa hoa hTx hnb
  refine tr_make t26_11 (.slice (some ⟨g2, 0, none⟩) (a.K.length + 1) c2) X2 (by kernel_rfl) rfl rfl (exec_append _ _ 23 rfl (F11.ev 164 (by kernel_rfl)) (F11.ev 173 (by kernel_rfl)) hrun) ⟨hT2.cell 4 rfl rfl, hT2.cell 0 rfl rfl, hT2.cell 1 rfl rfl, (hck _ hT2.below).1, (hck _ hT2.below).2⟩ ?_
  clear hrun hT1 hsa hkb
  clear X1
  refine F11.next 174 (.slice (some ⟨g2, 0, none⟩) (a.K.length + 1) c2) fun a12 F12 => ?_
  clear F11 a11
  refine hQT _ _ ?_
  refine tr_make t26_12 (.pointer (some ⟨bt, 2, none⟩)) X2 (by kernel_rfl) rfl rfl ?_ trivial ?_; (focus (have e10 : a12.eval (.tmp 10) = (.pointer (some ⟨bt, 0, none⟩)) := F12.ev 10 (by kernel_rfl); generalize a12.eval = ev at e10 ⊢; simp [go_sem, mkO, t26_12, e10, hu25]; done))
  refine F12.next 175 (.pointer (some ⟨bt, 2, none⟩)) fun a13 F13 => ?_
  clear F12 a12
  have hz := hT2.fz 4 rfl
  have hc0 : X2.cell? ⟨bt, 2, none⟩ = some (.slice (some ⟨gT, 0, none⟩) a.K.length cT) := hT2.cell 4 rfl rfl
  have hT3 : Tr w W (X2.setCell ⟨bt, 2, none⟩ (.slice (some ⟨g2, 0, none⟩) (a.K.length + 1) c2)) [(b, .cells #[a.sL, a.sN, a.sK] 25 (0, 0)), (ba, .cells #[.int .u8 (m1 : Int)] 5 (0, 0)), (bb, .cells #[.int .u8 (m2 : Int)] 5 (0, 0)), (bx, .cells #[.slice (some ⟨gL, 0, none⟩) a.L.length a.L.length, .slice (some ⟨gN, 0, none⟩) a.N.length a.N.length, v] 25 (0, 0)), (bt, .cells #[a.sL, a.sN, .slice (some ⟨g2, 0, none⟩) (a.K.length + 1) c2] 25 (0, 0)), (gL, .cells (cuL).toArray 3 (0, 0)), (gN, .cells (cuN).toArray 3 (0, 0))] := (hT2.set 4 rfl 2 (.slice (some ⟨g2, 0, none⟩) (a.K.length + 1) c2))
  refine tr_store t26_13 (X2.setCell ⟨bt, 2, none⟩ (.slice (some ⟨g2, 0, none⟩) (a.K.length + 1) c2)) (by kernel_rfl) rfl rfl ?_ trivial ?_; (focus (have e174 : a13.eval (.tmp 174) = (.slice (some ⟨g2, 0, none⟩) (a.K.length + 1) c2) := F13.ev 174 (by kernel_rfl); have e175 : a13.eval (.tmp 175) = (.pointer (some ⟨bt, 2, none⟩)) := F13.ev 175 (by kernel_rfl); generalize a13.eval = ev at e174 e175 ⊢; simp [go_sem, mkO, t26_13, e174, e175, hz, hc0]; done))
  replace ho := own_off ho (j := 2) (u := .slice (some ⟨g2, 0, none⟩) (a.K.length + 1) c2) (fun q e => by simp only [Value.ownBlock, Option.some.injEq] at e; subst e; exact fun c => hgbt c.symm)
  replace hov := own_set hov hbt (j := 2) (u := .slice (some ⟨g2, 0, none⟩) (a.K.length + 1) c2)
  clear hz hc0
  generalize (X2.setCell ⟨bt, 2, none⟩ (.slice (some ⟨g2, 0, none⟩) (a.K.length + 1) c2)) = X3 at *
  clear hT2
  clear X2
  show seqT _ _ _ _ _ a13 _
  exact F13.out hQn hT3.keep ⟨g2, c2, hT3.again, ho, hov, (F13.fin [163, 164, 165, 166, 167, 168, 169, 170, 171, 172, 173, 174, 175] (by kernel_rfl))⟩
end Go.Proofs.Ytbdmmikflkpmpaa
end

section
namespace Go.Proofs.Ytbdmmikflkpmpaa
open Go.RowKit Go.TL Go.Shelf Go.Pn
theorem toNatD (l : List Int) (j : Nat) : (l.map Int.toNat).getD j 0 = (l.getD j 0).toNat := by
  rw [List.getD_eq_getElem?_getD, List.getD_eq_getElem?_getD, List.getElem?_map]
  cases l[j]? <;> rfl
def XP.turn (a : XP) (gL gN : Nat) (A : Option Addr) (c : Nat) (s t : Nat → Nat) : XP := ⟨some ⟨gL, 0, none⟩, a.L.length, rotTo a.L s a.L.length, some ⟨gN, 0, none⟩, a.N.length, rotTo a.N t a.N.length, A, c, (kinTo a.s3.2.2 s t a.K.length).map fun k => ((k.1 : Int), (k.2 : Int))⟩
def XP.twice (a : XP) (A : Option Addr) (c : Nat) (K : List (Nat × Nat)) : XP := { a with AK := A, cK := c, K := K.map fun k => ((k.1 : Int), (k.2 : Int)) }
theorem back_id (l : List (Nat × Nat)) : ((l.map fun k => ((k.1 : Int), (k.2 : Int))).map fun k => (k.1.toNat, k.2.toNat)) = l := by
  rw [List.map_map]
  conv => rhs; rw [← List.map_id l]
  exact List.map_congr_left fun k _ => by simp
theorem rotTo_mem {L : List Int} {s si : Nat → Nat} (h : Ren L.length s si) {y : Int} (hy : y ∈ rotTo L s L.length) : y ∈ L := by
  obtain ⟨i, hi, e⟩ := List.getElem_of_mem hy
  rw [rotTo_len] at hi
  have h1 := rotTo_get h L.length (Nat.le_refl _) (si i) (h.ilt i hi)
  rw [h.si i hi] at h1
  have h2 := getDJ (rotTo L s L.length) (r := i) (by rw [rotTo_len]; exact hi)
  rw [List.getElem?_eq_getElem (by rw [rotTo_len]; exact hi), e] at h2
  rw [Option.some.inj h2, h1]
  exact List.mem_of_getElem? (getDJ L (h.ilt i hi))
section
variable {a : XP} {gL gN c : Nat} {A : Option Addr} {s si t ti : Nat → Nat}
theorem turn_s3 (a : XP) (gL gN c : Nat) (A : Option Addr) (s t : Nat → Nat) : (a.turn gL gN A c s t).s3 = ((rotTo a.L s a.L.length).map Int.toNat, (rotTo a.N t a.N.length).map Int.toNat, kinTo a.s3.2.2 s t a.K.length) := by
  show (_, _, _) = _
  rw [show ((a.turn gL gN A c s t).K.map fun k => (k.1.toNat, k.2.toNat)) = kinTo a.s3.2.2 s t a.K.length from back_id _]
  rfl
theorem kin_at (hf : a.Fine) {k : Nat × Nat} (hk : k ∈ a.s3.2.2) : k.1 < a.L.length ∧ k.2 < a.N.length := by
  have g := XP.good hf
  have h1 := g.k1 k hk
  have h2 := g.k2 k hk
  rw [s3_jl] at h1
  rw [s3_pl] at h2
  exact ⟨h1, h2⟩
theorem kinTo_mem (hf : a.Fine) (hs : Ren a.L.length s si) (ht : Ren a.N.length t ti) {q : Nat × Nat} (hq : q ∈ kinTo a.s3.2.2 s t a.K.length) : q.1 < a.L.length ∧ q.2 < a.N.length := by
  obtain ⟨i, hi, rfl⟩ := List.mem_map.1 hq
  rw [List.mem_range] at hi
  have hl := s3_kin_len a
  have hm : a.s3.2.2.getD (a.s3.2.2.length - 1 - i) (0, 0) ∈ a.s3.2.2 := by
    rw [List.getD_eq_getElem?_getD, List.getElem?_eq_getElem (by omega)]
    exact List.getElem_mem _
  have := kin_at hf hm
  exact ⟨hs.lt _ this.1, ht.lt _ this.2⟩
theorem turn_fine (hf : a.Fine) (hs : Ren a.L.length s si) (ht : Ren a.N.length t ti) : (a.turn gL gN A c s t).Fine := by
  have e1 : (a.turn gL gN A c s t).L.length = a.L.length := rotTo_len _ _ _
  have e2 : (a.turn gL gN A c s t).N.length = a.N.length := rotTo_len _ _ _
  refine ⟨by rw [e1]; exact hf.j, by rw [e2]; exact hf.p, ?_, fun y hy => hf.lb y (rotTo_mem hs hy), fun y hy => hf.nb y (rotTo_mem ht hy), fun y hy => ?_⟩
  · show ((kinTo _ _ _ _).map _).length ≤ 10
    rw [List.length_map, kinTo_len]
    exact hf.k
  · obtain ⟨q, hq, rfl⟩ := List.mem_map.1 hy
    have := kinTo_mem hf hs ht hq
    rw [e1, e2]
    simp only
    omega
theorem turn_krev (hf : a.Fine) : KRev a.s3 (a.turn gL gN A c s t).s3 s t := by
  have hl := s3_kin_len a
  rw [turn_s3]
  refine ⟨by show (kinTo _ _ _ _).length = _; rw [kinTo_len, hl], fun i k hk => ?_⟩
  have hi := (List.getElem?_eq_some_iff.1 hk).1
  show (kinTo a.s3.2.2 s t a.K.length)[a.s3.2.2.length - 1 - i]? = _
  unfold kinTo
  rw [List.getElem?_map, List.getElem?_range (by omega)]
  dsimp only [Option.map]
  rw [show a.s3.2.2.length - 1 - (a.s3.2.2.length - 1 - i) = i by omega, List.getD_eq_getElem?_getD, hk]
  rfl
theorem turn_tn (hf : a.Fine) (hs : Ren a.L.length s si) (ht : Ren a.N.length t ti) : Tn a.s3 (a.turn gL gN A c s t).s3 s si t ti := by
  have hk := turn_krev (gL := gL) (gN := gN) (A := A) (c := c) (s := s) (t := t) hf
  have hs' : Ren a.s3.1.length s si := by rw [s3_jl]; exact hs
  have ht' : Ren a.s3.2.1.length t ti := by rw [s3_pl]; exact ht
  refine ⟨?_, ?_, hs', ht', fun j hj => ?_, fun p hp => ?_, fun p j hp hj => hk.mem (XP.good hf) hs' ht' p j hp hj⟩
  · rw [turn_s3, s3_jl]
    show ((rotTo _ _ _).map _).length = _
    rw [List.length_map, rotTo_len]
  · rw [turn_s3, s3_pl]
    show ((rotTo _ _ _).map _).length = _
    rw [List.length_map, rotTo_len]
  · rw [s3_jl] at hj
    rw [turn_s3]
    show ((rotTo a.L s a.L.length).map Int.toNat).getD (s j) 0 = (a.L.map Int.toNat).getD j 0
    rw [toNatD, toNatD, rotTo_get hs a.L.length (Nat.le_refl _) j hj]
  · rw [s3_pl] at hp
    rw [turn_s3]
    show ((rotTo a.N t a.N.length).map Int.toNat).getD (t p) 0 = (a.N.map Int.toNat).getD p 0
    rw [toNatD, toNatD, rotTo_get ht a.N.length (Nat.le_refl _) p hp]
theorem twice_s3 (a : XP) (A : Option Addr) (c : Nat) (K : List (Nat × Nat)) : (a.twice A c K).s3 = (a.s3.1, a.s3.2.1, K) := by
  show (_, _, _) = _
  rw [show ((a.twice A c K).K.map fun k => (k.1.toNat, k.2.toNat)) = K from back_id _]
  rfl
theorem twice_fine (hf : a.Fine) {K : List (Nat × Nat)} (hK : K.length ≤ 10) (hm : ∀ k ∈ K, k ∈ a.s3.2.2) : (a.twice A c K).Fine := by
  refine ⟨hf.j, hf.p, ?_, hf.lb, hf.nb, fun y hy => ?_⟩
  · show (K.map _).length ≤ 10
    rw [List.length_map]
    exact hK
  · obtain ⟨q, hq, rfl⟩ := List.mem_map.1 hy
    have := kin_at hf (hm q hq)
    show ((_ : Int) ≤ _ ∧ _ < (a.L.length : Int)) ∧ _ ≤ _ ∧ _ < (a.N.length : Int)
    simp only
    omega
theorem twice_count (hf : a.Fine) {K : List (Nat × Nat)} (hK : K.length ≤ 10) (hm : ∀ k, k ∈ K ↔ k ∈ a.s3.2.2) : countF a = countF (a.twice A c K) := by
  have hx := twice_fine (A := A) (c := c) hf hK fun k h => (hm k).1 h
  have hT : Tn a.s3 (a.twice A c K).s3 (fun k => k) (fun k => k) (fun k => k) (fun k => k) := by
    rw [twice_s3]
    exact ⟨rfl, rfl, Ren.id _, Ren.id _, fun _ _ => rfl, fun _ _ => rfl, fun p j _ _ => hm (j, p)⟩
  exact Nat.le_antisymm (tn_count hf hx hT) (tn_count hx hf hT.symm)
end
structure TuV (a x tw : XP) (s t : Nat → Nat) (n se bu be : Int) (s0 s1 : Nat) (es : Int) (u0 u1 : Nat) (eh : Int) (w0 w1 : Nat) (ew : Int) : Prop where
  c1 : countA a = (n, 0)
  c2 : countA x = (n, 0)
  c3 : countA tw = (n, 0)
  se1 : seatsA a = (se, 0)
  se2 : seatsA x = (se, 0)
  b1 : busyA a = (bu, be)
  b2 : busyA x = (bu, be)
  p1 : spareA a = ((s0 : Int), es)
  p2 : spareA x = ((s1 : Int), es)
  pb : ∀ j, j < a.L.length → s0.testBit j = s1.testBit (s j)
  pl : s0 < 1024 ∧ s1 < 1024
  h1 : shortA a = ((u0 : Int), eh)
  h2 : shortA x = ((u1 : Int), eh)
  hp : pop u0 = pop u1
  hl : u0 < 1024 ∧ u1 < 1024
  v1 : waiveA a = ((w0 : Int), ew)
  v2 : waiveA x = ((w1 : Int), ew)
  vp : pop w0 = pop w1
  vl : w0 < 1024 ∧ w1 < 1024
  pa : ∀ p j, p < a.N.length → j < a.L.length → pairA a j p = pairA x (s j : Nat) (t p : Nat)
theorem two_10 {n k : Nat} (h : n < 2 ^ k) (hk : k ≤ 10) : n < 1024 := Nat.lt_of_lt_of_le h (Nat.pow_le_pow_right (n := 2) (by omega) hk)
theorem tu_vals {a x tw : XP} {s si t ti : Nat → Nat} (hf : a.Fine) (hx : x.Fine) (htw : tw.Fine) (hL : x.L.length = a.L.length) (hN : x.N.length = a.N.length) (hs : Ren a.L.length s si) (ht : Ren a.N.length t ti) (hF : TuFacts a x s t) (hc3 : countF a = countF tw) :
    ∃ n se bu be s0 s1 es u0 u1 eh w0 w1 ew, TuV a x tw s t n se bu be s0 s1 es u0 u1 eh w0 w1 ew := by
  have ia := isP_of_fine hf
  have ix := isP_of_fine hx
  have it := isP_of_fine htw
  have hj6 := hf.j
  have hp6 := hf.p
  have hk10 := hf.k
  have hxk := hx.k
  obtain ⟨s0, s1, es, p1, p2, pb, pl⟩ : ∃ (s0 s1 : Nat) (es : Int), spareA a = ((s0 : Int), es) ∧ spareA x = ((s1 : Int), es) ∧ (∀ j, j < a.L.length → s0.testBit j = s1.testBit (s j)) ∧ s0 < 1024 ∧ s1 < 1024 := by
    unfold spareA
    rw [if_pos ia, if_pos ix, ← hF.can]
    cases canV (toP a.s3) with
    | true => exact ⟨_, _, 0, rfl, rfl, hF.spare, two_10 (mkS_lt _ _) (by omega), two_10 (mkS_lt _ _) (by omega)⟩
    | false => exact ⟨0, 0, 4, rfl, rfl, fun _ _ => by simp, by omega, by omega⟩
  obtain ⟨u0, u1, eh, h1, h2, hp, hl⟩ : ∃ (u0 u1 : Nat) (eh : Int), shortA a = ((u0 : Int), eh) ∧ shortA x = ((u1 : Int), eh) ∧ pop u0 = pop u1 ∧ u0 < 1024 ∧ u1 < 1024 := by
    unfold shortA
    rw [if_pos ia, if_pos ix]
    rcases hF.short with ⟨e1, e2⟩ | ⟨u, v, e1, e2, e3, e4, e5⟩
    · rw [e1, e2]
      exact ⟨0, 0, 4, rfl, rfl, rfl, by omega, by omega⟩
    · rw [e1, e2]
      exact ⟨u, v, 0, rfl, rfl, e3, two_10 e4 (by omega), two_10 e5 (by omega)⟩
  obtain ⟨w0, w1, ew, v1, v2, vp, vl⟩ : ∃ (w0 w1 : Nat) (ew : Int), waiveA a = ((w0 : Int), ew) ∧ waiveA x = ((w1 : Int), ew) ∧ pop w0 = pop w1 ∧ w0 < 1024 ∧ w1 < 1024 := by
    unfold waiveA
    rw [if_pos ia, if_pos ix, ← hF.waive]
    have hwd := hF.waived
    have hwv := hF.waive
    cases hc : canV (toP (a.s3.waive (every a.K.length))) with
    | true =>
      refine ⟨_, _, 0, rfl, rfl, hwd hc, two_10 (waive_facts hf hc).lt hk10, two_10 (waive_facts hx (by rw [← hwv]; exact hc)).lt hxk⟩
    | false => exact ⟨0, 0, 4, rfl, rfl, rfl, by omega, by omega⟩
  have hbu : busyA x = busyA a := by unfold busyA; rw [if_pos ia, if_pos ix, hF.can, hF.busy]
  refine ⟨((countF a : Nat) : Int), ((seatsV (toP a.s3) : Nat) : Int), (busyA a).1, (busyA a).2, s0, s1, es, u0, u1, eh, w0, w1, ew, ⟨?_, ?_, ?_, ?_, ?_, rfl, ?_, p1, p2, pb, pl, h1, h2, hp, hl, v1, v2, vp, vl, fun p j hp hj => ?_⟩⟩
  · unfold countA; rw [if_pos ia]
  · unfold countA; rw [if_pos ix, hF.count]
  · unfold countA; rw [if_pos it, hc3]
  · unfold seatsA; rw [if_pos ia]
  · unfold seatsA; rw [if_pos ix, hF.seats]
  · exact hbu
  · have i1 := hs.lt j hj
    have i2 := ht.lt p hp
    have b1 : inB (j : Int) 0 ((a.L.length : Int) - 1) = true := by unfold inB; rw [Bool.and_eq_true, decide_eq_true_eq, decide_eq_true_eq]; omega
    have b2 : inB (p : Int) 0 ((a.N.length : Int) - 1) = true := by unfold inB; rw [Bool.and_eq_true, decide_eq_true_eq, decide_eq_true_eq]; omega
    have b3 : inB ((s j : Nat) : Int) 0 ((x.L.length : Int) - 1) = true := by unfold inB; rw [hL, Bool.and_eq_true, decide_eq_true_eq, decide_eq_true_eq]; omega
    have b4 : inB ((t p : Nat) : Int) 0 ((x.N.length : Int) - 1) = true := by unfold inB; rw [hN, Bool.and_eq_true, decide_eq_true_eq, decide_eq_true_eq]; omega
    unfold pairA
    rw [if_pos ia, if_pos ix, b1, b2, b3, b4, ← hF.can, Int.toNat_natCast, Int.toNat_natCast, Int.toNat_natCast, Int.toNat_natCast, hF.pair p j hp hj]
end Go.Proofs.Ytbdmmikflkpmpaa
end

section
namespace Go.Proofs.Ytbdmmikflkpmpaa
open Go.RowKit Go.TL Go.Shelf Go.Pn
/-! ### Regions whose order is fixed -/
def Ord (P : Program) (ops : Array Oper) (Q : Exit → Act → World → Prop) (k : Nat) (a : Act) (w : World) : Prop := wpListIn Fence.wide 0 P ops Q (ops.toList.drop k) a w
section
variable {P : Program} {ops : Array Oper} {Q : Exit → Act → World → Prop} {k : Nat} {a : Act} {w : World}
theorem ord_cons {o : Oper} (ho : ops[k]? = some o) (h : wpListIn Fence.wide 0 P ops Q (o :: ops.toList.drop (k + 1)) a w) : Ord P ops Q k a w := by
  unfold Ord
  obtain ⟨hk, e⟩ := Array.getElem?_eq_some_iff.1 ho
  have hk' : k < ops.toList.length := by simpa using hk
  rw [List.drop_eq_getElem_cons hk']
  have : ops.toList[k] = o := by simpa using e
  rw [this]
  exact h
theorem ord_op {x : It} {t : Bool} (hx : itemOf ops k t = some x) (hg : gdOk x.gd a.tmps true) (h : ∀ o : Oper, o.dst = x.dst → o.uponIn Fence.wide 0 P a (Ord P ops Q (k + 1)) Q ((execOp a.eval (mkO x)).run P w)) : Ord P ops Q k a w := by
  obtain ⟨o, ho, e1, e2, e3, e4, hw⟩ := itemOf_spec hx
  refine ord_cons ho ?_
  simp only [wpListIn, hw _ _ hg, if_true]
  refine ⟨fun _ _ => trivial, ?_⟩
  have h2 := h o e2.symm
  rw [Go.TL.execOp_congr (o := mkO x) (o' := o) e1 e3] at h2
  exact h2
theorem ord_make (x : It) (v : Value) (w' : World) (hx : itemOf ops k false = some x) (ht : x.take = false) (hg : gdOk x.gd a.tmps true) (he : (execOp a.eval (mkO x)).run P w = .ok (.value v) w') (hS : True) (h : Ord P ops Q (k + 1) (a.put x.dst v) w') : Ord P ops Q k a w :=
  ord_op hx hg fun o ho => by
    rw [he, Oper.uponIn_value, ho]
    exact h
theorem ord_call (x : It) {f : FuncId} {args : Array Value} (hx : itemOf ops k false = some x) (ht : x.take = false) (hg : gdOk x.gd a.tmps true) (he : (execOp a.eval (mkO x)).run P w = .ok (.enter f args) w)
    (hc : Calls P f args w fun e w' => (∃ v, e = .returned v ∧ True ∧ Ord P ops Q (k + 1) (a.put x.dst v) w') ∨ False) : Ord P ops Q k a w :=
  ord_op hx hg fun o ho => by
    rw [he, Oper.uponIn_enter]
    refine ⟨fun h => (by cases h), callsIn_wide.2 (hc.mono fun e w' h => ?_)⟩
    rcases h with ⟨v, rfl, _, h⟩ | h
    · rw [ho]; exact h
    · exact h.elim
theorem ord_end (hk : Nat.ble ops.size k = true) (h : Q .normal a w) : Ord P ops Q k a w := by
  unfold Ord
  rw [List.drop_of_length_le (by have := Nat.le_of_ble_eq_true hk; simpa using this)]
  exact h
theorem Fr.nextO {p : List (Option Value)} {ds : List Deferred} (h : Fr p ds a) (d : Nat) (v : Value) (hk : ∀ a', Fr (p.set d (some v)) ds a' → Ord P ops Q k a' w) : Ord P ops Q k (a.put (some d) v) w := hk _ (h.put d v)
theorem exec_ord {Q : Exit → Array Value → World → Prop} {c : Code} {id : Nat} (ops : Array Oper) (hops : regOps c = ops) (hc : c = .region id (regOps c) false) {t : Array Value} (h : ∀ ds, Ord P ops (EQ w ds Q) 0 { tmps := t, defers := ds } w) : Exec P none c t w Q := by
  subst hops
  rw [hc]
  refine exec_region_o fun ds => ?_
  refine wpIn_region_list ?_
  have := h ds
  unfold Ord at this
  simpa using this
theorem Fr.eq {Q : Exit → Array Value → World → Prop} {p : List (Option Value)} {ds : List Deferred} {W : World} (h : Fr p ds a) (hk : Keep w W) (hq : Q .normal a.tmps W) : EQ w ds Q .normal a W := ⟨hk, ⟨[], h.d, trivial⟩, hq⟩
end
end Go.Proofs.Ytbdmmikflkpmpaa
end

section
namespace Go.Proofs.Ytbdmmikflkpmpaa
open Go.RowKit Go.TL Go.Shelf Go.Pn
def t42_0 : It := ⟨(Op.move (Operand.tmp 21)), some 253, 3, false, none⟩
def t42_1 : It := ⟨(Op.move (Operand.tmp 23)), some 254, 3, false, none⟩
def t42_2 : It := ⟨(Op.binOp BinOp.neq 3 (Operand.tmp 253) (Operand.tmp 254) 3), some 255, 4, false, none⟩
def t42_3 : It := ⟨(Op.move (Operand.tmp 255)), some 256, 4, false, none⟩
def t42_4 : It := ⟨(Op.move (Operand.tmp 21)), some 257, 3, false, some (256, false)⟩
def t42_5 : It := ⟨(Op.move (Operand.tmp 25)), some 258, 3, false, some (256, false)⟩
def t42_6 : It := ⟨(Op.binOp BinOp.neq 3 (Operand.tmp 257) (Operand.tmp 258) 3), some 259, 4, false, some (256, false)⟩
def t42_7 : It := ⟨(Op.pick (Operand.tmp 256) (Operand.const (Value.bool true)) (Operand.tmp 259)), some 260, 4, false, none⟩
def t42_8 : It := ⟨(Op.move (Operand.tmp 260)), some 261, 4, false, none⟩
def t42_9 : It := ⟨(Op.move (Operand.tmp 22)), some 262, 28, false, some (261, false)⟩
def t42_10 : It := ⟨(Op.move (Operand.tmp 24)), some 263, 28, false, some (261, false)⟩
def t42_11 : It := ⟨(Op.binOp BinOp.neq 28 (Operand.tmp 262) (Operand.tmp 263) 28), some 264, 4, false, some (261, false)⟩
def t42_12 : It := ⟨(Op.pick (Operand.tmp 261) (Operand.const (Value.bool true)) (Operand.tmp 264)), some 265, 4, false, none⟩
def t42_13 : It := ⟨(Op.move (Operand.tmp 265)), some 266, 4, false, none⟩
def t42_14 : It := ⟨(Op.move (Operand.tmp 22)), some 267, 28, false, some (266, false)⟩
def t42_15 : It := ⟨(Op.move (Operand.tmp 26)), some 268, 28, false, some (266, false)⟩
def t42_16 : It := ⟨(Op.binOp BinOp.neq 28 (Operand.tmp 267) (Operand.tmp 268) 28), some 269, 4, false, some (266, false)⟩
def t42_17 : It := ⟨(Op.pick (Operand.tmp 266) (Operand.const (Value.bool true)) (Operand.tmp 269)), some 270, 4, false, none⟩
def t42_18 : It := ⟨(Op.move (Operand.tmp 270)), some 271, 4, false, none⟩
def t42_19 : It := ⟨(Op.move (Operand.tmp 27)), some 272, 3, false, some (271, false)⟩
def t42_20 : It := ⟨(Op.move (Operand.tmp 29)), some 273, 3, false, some (271, false)⟩
def t42_21 : It := ⟨(Op.binOp BinOp.neq 3 (Operand.tmp 272) (Operand.tmp 273) 3), some 274, 4, false, some (271, false)⟩
def t42_22 : It := ⟨(Op.pick (Operand.tmp 271) (Operand.const (Value.bool true)) (Operand.tmp 274)), some 275, 4, false, none⟩
def t42_23 : It := ⟨(Op.move (Operand.tmp 275)), some 276, 4, false, none⟩
def t42_24 : It := ⟨(Op.move (Operand.tmp 28)), some 277, 28, false, some (276, false)⟩
def t42_25 : It := ⟨(Op.move (Operand.tmp 30)), some 278, 28, false, some (276, false)⟩
def t42_26 : It := ⟨(Op.binOp BinOp.neq 28 (Operand.tmp 277) (Operand.tmp 278) 28), some 279, 4, false, some (276, false)⟩
def t42_27 : It := ⟨(Op.pick (Operand.tmp 276) (Operand.const (Value.bool true)) (Operand.tmp 279)), some 280, 4, false, none⟩
def t42_28 : It := ⟨(Op.move (Operand.tmp 280)), some 281, 4, false, none⟩
def t42_29 : It := ⟨(Op.move (Operand.tmp 31)), some 282, 3, false, some (281, false)⟩
def t42_30 : It := ⟨(Op.move (Operand.tmp 33)), some 283, 3, false, some (281, false)⟩
def t42_31 : It := ⟨(Op.binOp BinOp.neq 3 (Operand.tmp 282) (Operand.tmp 283) 3), some 284, 4, false, some (281, false)⟩
def t42_32 : It := ⟨(Op.pick (Operand.tmp 281) (Operand.const (Value.bool true)) (Operand.tmp 284)), some 285, 4, false, none⟩
def t42_33 : It := ⟨(Op.move (Operand.tmp 285)), some 286, 4, false, none⟩
def t42_34 : It := ⟨(Op.move (Operand.tmp 32)), some 287, 28, false, some (286, false)⟩
def t42_35 : It := ⟨(Op.move (Operand.tmp 34)), some 288, 28, false, some (286, false)⟩
def t42_36 : It := ⟨(Op.binOp BinOp.neq 28 (Operand.tmp 287) (Operand.tmp 288) 28), some 289, 4, false, some (286, false)⟩
def t42_37 : It := ⟨(Op.pick (Operand.tmp 286) (Operand.const (Value.bool true)) (Operand.tmp 289)), some 290, 4, false, none⟩
def t42_38 : It := ⟨(Op.move (Operand.tmp 290)), some 291, 4, false, none⟩
def t42_39 : It := ⟨(Op.move (Operand.tmp 36)), some 292, 28, false, some (291, false)⟩
def t42_40 : It := ⟨(Op.move (Operand.tmp 38)), some 293, 28, false, some (291, false)⟩
def t42_41 : It := ⟨(Op.binOp BinOp.neq 28 (Operand.tmp 292) (Operand.tmp 293) 28), some 294, 4, false, some (291, false)⟩
def t42_42 : It := ⟨(Op.pick (Operand.tmp 291) (Operand.const (Value.bool true)) (Operand.tmp 294)), some 295, 4, false, none⟩
def t42_43 : It := ⟨(Op.move (Operand.tmp 295)), some 296, 4, false, none⟩
def t42_44 : It := ⟨(Op.move (Operand.tmp 40)), some 297, 28, false, some (296, false)⟩
def t42_45 : It := ⟨(Op.move (Operand.tmp 42)), some 298, 28, false, some (296, false)⟩
def t42_46 : It := ⟨(Op.binOp BinOp.neq 28 (Operand.tmp 297) (Operand.tmp 298) 28), some 299, 4, false, some (296, false)⟩
def t42_47 : It := ⟨(Op.pick (Operand.tmp 296) (Operand.const (Value.bool true)) (Operand.tmp 299)), some 300, 4, false, none⟩
def t42_48 : It := ⟨(Op.move (Operand.tmp 300)), some 301, 4, false, none⟩
def t42_49 : It := ⟨(Op.move (Operand.tmp 44)), some 302, 28, false, some (301, false)⟩
def t42_50 : It := ⟨(Op.move (Operand.tmp 46)), some 303, 28, false, some (301, false)⟩
def t42_51 : It := ⟨(Op.binOp BinOp.neq 28 (Operand.tmp 302) (Operand.tmp 303) 28), some 304, 4, false, some (301, false)⟩
def t42_52 : It := ⟨(Op.pick (Operand.tmp 301) (Operand.const (Value.bool true)) (Operand.tmp 304)), some 305, 4, false, none⟩
def t42_53 : It := ⟨(Op.move (Operand.tmp 305)), some 306, 4, false, none⟩
def t42_54 : It := ⟨(Op.move (Operand.tmp 35)), some 307, 3, false, some (306, false)⟩
def t42_55 : It := ⟨(Op.binOp BinOp.lss 3 (Operand.tmp 307) (Operand.const (Value.int IntKind.i64 0)) 3), some 308, 4, false, some (306, false)⟩
def t42_56 : It := ⟨(Op.pick (Operand.tmp 306) (Operand.const (Value.bool true)) (Operand.tmp 308)), some 309, 4, false, none⟩
def t42_57 : It := ⟨(Op.move (Operand.tmp 309)), some 310, 4, false, none⟩
def t42_58 : It := ⟨(Op.move (Operand.tmp 37)), some 311, 3, false, some (310, false)⟩
def t42_59 : It := ⟨(Op.binOp BinOp.lss 3 (Operand.tmp 311) (Operand.const (Value.int IntKind.i64 0)) 3), some 312, 4, false, some (310, false)⟩
def t42_60 : It := ⟨(Op.pick (Operand.tmp 310) (Operand.const (Value.bool true)) (Operand.tmp 312)), some 313, 4, false, none⟩
def t42_61 : It := ⟨(Op.move (Operand.tmp 313)), some 314, 4, false, none⟩
def t42_62 : It := ⟨(Op.move (Operand.tmp 39)), some 315, 3, false, some (314, false)⟩
def t42_63 : It := ⟨(Op.binOp BinOp.lss 3 (Operand.tmp 315) (Operand.const (Value.int IntKind.i64 0)) 3), some 316, 4, false, some (314, false)⟩
def t42_64 : It := ⟨(Op.pick (Operand.tmp 314) (Operand.const (Value.bool true)) (Operand.tmp 316)), some 317, 4, false, none⟩
def t42_65 : It := ⟨(Op.move (Operand.tmp 317)), some 318, 4, false, none⟩
def t42_66 : It := ⟨(Op.move (Operand.tmp 41)), some 319, 3, false, some (318, false)⟩
def t42_67 : It := ⟨(Op.binOp BinOp.lss 3 (Operand.tmp 319) (Operand.const (Value.int IntKind.i64 0)) 3), some 320, 4, false, some (318, false)⟩
def t42_68 : It := ⟨(Op.pick (Operand.tmp 318) (Operand.const (Value.bool true)) (Operand.tmp 320)), some 321, 4, false, none⟩
def t42_69 : It := ⟨(Op.move (Operand.tmp 321)), some 322, 4, false, none⟩
def t42_70 : It := ⟨(Op.move (Operand.tmp 43)), some 323, 3, false, some (322, false)⟩
def t42_71 : It := ⟨(Op.binOp BinOp.lss 3 (Operand.tmp 323) (Operand.const (Value.int IntKind.i64 0)) 3), some 324, 4, false, some (322, false)⟩
def t42_72 : It := ⟨(Op.pick (Operand.tmp 322) (Operand.const (Value.bool true)) (Operand.tmp 324)), some 325, 4, false, none⟩
def t42_73 : It := ⟨(Op.move (Operand.tmp 325)), some 326, 4, false, none⟩
def t42_74 : It := ⟨(Op.move (Operand.tmp 45)), some 327, 3, false, some (326, false)⟩
def t42_75 : It := ⟨(Op.binOp BinOp.lss 3 (Operand.tmp 327) (Operand.const (Value.int IntKind.i64 0)) 3), some 328, 4, false, some (326, false)⟩
def t42_76 : It := ⟨(Op.pick (Operand.tmp 326) (Operand.const (Value.bool true)) (Operand.tmp 328)), some 329, 4, false, none⟩
def t42_77 : It := ⟨(Op.move (Operand.tmp 329)), some 330, 4, false, none⟩
def t42_78 : It := ⟨(Op.move (Operand.tmp 47)), some 331, 43, false, some (330, false)⟩
def t42_79 : It := ⟨(Op.move (Operand.tmp 39)), some 332, 3, false, some (330, false)⟩
def t42_80 : It := ⟨(Op.call { callee := (Callee.value (Operand.tmp 331)), args := #[(Operand.tmp 332)], argTypes := #[3] }), some 333, 3, false, some (330, false)⟩
def t42_81 : It := ⟨(Op.move (Operand.tmp 47)), some 334, 43, false, some (330, false)⟩
def t42_82 : It := ⟨(Op.move (Operand.tmp 41)), some 335, 3, false, some (330, false)⟩
def t42_83 : It := ⟨(Op.call { callee := (Callee.value (Operand.tmp 334)), args := #[(Operand.tmp 335)], argTypes := #[3] }), some 336, 3, false, some (330, false)⟩
def t42_84 : It := ⟨(Op.binOp BinOp.neq 3 (Operand.tmp 333) (Operand.tmp 336) 3), some 337, 4, false, some (330, false)⟩
def t42_85 : It := ⟨(Op.pick (Operand.tmp 330) (Operand.const (Value.bool true)) (Operand.tmp 337)), some 338, 4, false, none⟩
def t42_86 : It := ⟨(Op.move (Operand.tmp 338)), some 339, 4, false, none⟩
def t42_87 : It := ⟨(Op.move (Operand.tmp 47)), some 340, 43, false, some (339, false)⟩
def t42_88 : It := ⟨(Op.move (Operand.tmp 43)), some 341, 3, false, some (339, false)⟩
def t42_89 : It := ⟨(Op.call { callee := (Callee.value (Operand.tmp 340)), args := #[(Operand.tmp 341)], argTypes := #[3] }), some 342, 3, false, some (339, false)⟩
def t42_90 : It := ⟨(Op.move (Operand.tmp 47)), some 343, 43, false, some (339, false)⟩
def t42_91 : It := ⟨(Op.move (Operand.tmp 45)), some 344, 3, false, some (339, false)⟩
def t42_92 : It := ⟨(Op.call { callee := (Callee.value (Operand.tmp 343)), args := #[(Operand.tmp 344)], argTypes := #[3] }), some 345, 3, false, some (339, false)⟩
def t42_93 : It := ⟨(Op.binOp BinOp.neq 3 (Operand.tmp 342) (Operand.tmp 345) 3), some 346, 4, false, some (339, false)⟩
def t42_94 : It := ⟨(Op.pick (Operand.tmp 339) (Operand.const (Value.bool true)) (Operand.tmp 346)), some 347, 4, false, none⟩
set_option maxRecDepth 100000 in
set_option maxHeartbeats 4000000 in
theorem tu_r42 {w W : World} {a : XP} {b ba bb bx bt gA cA gB cB gC cC : Nat} {n se bu be es eh ew : Int} {s0 s1 u0 u1 w0 w1 : Nat} (hp : pop u0 = pop u1) (vp : pop w0 = pop w1) (lu0 : u0 < 1024) (lu1 : u1 < 1024) (lw0 : w0 < 1024) (lw1 : w1 < 1024) (hT : Tr w W W []) {t : Array Value} (hSl : Slots (none :: none :: none :: some (.pointer (some ⟨b, 0, none⟩)) :: some (.pointer (some ⟨ba, 0, none⟩)) :: some (.pointer (some ⟨bb, 0, none⟩)) :: some (.bool false) :: some (.func (.func 48) #[] #[.pointer (some ⟨ba, 0, none⟩), .pointer (some ⟨b, 0, none⟩)]) :: some (.func (.func 49) #[] #[.pointer (some ⟨bb, 0, none⟩), .pointer (some ⟨b, 0, none⟩)]) :: some (.pointer (some ⟨bx, 0, none⟩)) :: some (.pointer (some ⟨bt, 0, none⟩)) :: none :: none :: none :: o4 (some (.slice (some ⟨gA, 0, none⟩) a.L.length cA) :: some (.slice (some ⟨gB, 0, none⟩) a.N.length cB) :: some (.slice (some ⟨gC, 0, none⟩) a.K.length cC) :: some (vi n) :: some (vi 0) :: some (vi n) :: some (vi 0) :: some (vi n) :: some (vi 0) :: some (vi se) :: some (vi 0) :: some (vi se) :: some (vi 0) :: some (vi bu) :: some (vi be) :: some (vi bu) :: some (vi be) :: some (iv s0) :: some (vi es) :: some (iv s1) :: some (vi es) :: some (iv u0) :: some (vi eh) :: some (iv u1) :: some (vi eh) :: some (iv w0) :: some (vi ew) :: some (iv w1) :: some (vi ew) :: some (.func (.func 30) #[] #[]) :: none :: none :: o4 (o64 (o64 (o64 (o64 (o64 (o64 [])))))))) t) :
    Exec Try.prog none (sub (Try.f12.body.getD .skip) [1, 1, 1, 1, 1, 1, 1, 1, 1, 1, 1, 1, 1, 1, 1, 1, 1, 1, 1, 1, 1, 1, 1, 1, 1, 1, 0, 0]) t W (andThen (fun t' W' => Below W.heap.size W W' ∧ Slots (none :: none :: none :: some (.pointer (some ⟨b, 0, none⟩)) :: some (.pointer (some ⟨ba, 0, none⟩)) :: some (.pointer (some ⟨bb, 0, none⟩)) :: some (.bool false) :: some (.func (.func 48) #[] #[.pointer (some ⟨ba, 0, none⟩), .pointer (some ⟨b, 0, none⟩)]) :: some (.func (.func 49) #[] #[.pointer (some ⟨bb, 0, none⟩), .pointer (some ⟨b, 0, none⟩)]) :: some (.pointer (some ⟨bx, 0, none⟩)) :: some (.pointer (some ⟨bt, 0, none⟩)) :: none :: none :: none :: o4 (some (.slice (some ⟨gA, 0, none⟩) a.L.length cA) :: some (.slice (some ⟨gB, 0, none⟩) a.N.length cB) :: some (.slice (some ⟨gC, 0, none⟩) a.K.length cC) :: some (vi n) :: some (vi 0) :: some (vi n) :: some (vi 0) :: some (vi n) :: some (vi 0) :: some (vi se) :: some (vi 0) :: some (vi se) :: some (vi 0) :: some (vi bu) :: some (vi be) :: some (vi bu) :: some (vi be) :: some (iv s0) :: some (vi es) :: some (iv s1) :: some (vi es) :: some (iv u0) :: some (vi eh) :: some (iv u1) :: some (vi eh) :: some (iv w0) :: some (vi ew) :: some (iv w1) :: some (vi ew) :: some (.func (.func 30) #[] #[]) :: none :: none :: none :: o4 (o4 (o16 (o16 (o64 (o64 (o64 (o64 (some (.bool false) :: none :: none :: o4 (o4 (o16 (o64 []))))))))))))) t') fun _ _ _ => False) := by
  have hneg : ∀ m : Nat, ¬ ((m : Int) < 0) := fun m => by omega
  have hbw : Below W.heap.size W W := Below.refl _ W
  have hT0 := hT.again
  refine exec_ord (c := (sub (Try.f12.body.getD .skip) [1, 1, 1, 1, 1, 1, 1, 1, 1, 1, 1, 1, 1, 1, 1, 1, 1, 1, 1, 1, 1, 1, 1, 1, 1, 1, 0, 0])) (id := 42) (Opq (regOps (sub (Try.f12.body.getD .skip) [1, 1, 1, 1, 1, 1, 1, 1, 1, 1, 1, 1, 1, 1, 1, 1, 1, 1, 1, 1, 1, 1, 1, 1, 1, 1, 0, 0]))) rfl (by kernel_rfl) fun ds => ?_
  have F0 : Fr (none :: none :: none :: some (.pointer (some ⟨b, 0, none⟩)) :: some (.pointer (some ⟨ba, 0, none⟩)) :: some (.pointer (some ⟨bb, 0, none⟩)) :: some (.bool false) :: some (.func (.func 48) #[] #[.pointer (some ⟨ba, 0, none⟩), .pointer (some ⟨b, 0, none⟩)]) :: some (.func (.func 49) #[] #[.pointer (some ⟨bb, 0, none⟩), .pointer (some ⟨b, 0, none⟩)]) :: some (.pointer (some ⟨bx, 0, none⟩)) :: some (.pointer (some ⟨bt, 0, none⟩)) :: none :: none :: none :: o4 (some (.slice (some ⟨gA, 0, none⟩) a.L.length cA) :: some (.slice (some ⟨gB, 0, none⟩) a.N.length cB) :: some (.slice (some ⟨gC, 0, none⟩) a.K.length cC) :: some (vi n) :: some (vi 0) :: some (vi n) :: some (vi 0) :: some (vi n) :: some (vi 0) :: some (vi se) :: some (vi 0) :: some (vi se) :: some (vi 0) :: some (vi bu) :: some (vi be) :: some (vi bu) :: some (vi be) :: some (iv s0) :: some (vi es) :: some (iv s1) :: some (vi es) :: some (iv u0) :: some (vi eh) :: some (iv u1) :: some (vi eh) :: some (iv w0) :: some (vi ew) :: some (iv w1) :: some (vi ew) :: some (.func (.func 30) #[] #[]) :: none :: none :: o4 (o64 (o64 (o64 (o64 (o64 (o64 [])))))))) ds { tmps := t, defers := ds } := Fr.start hSl
  clear hSl
  generalize ({ tmps := t, defers := ds } : Act) = a0 at *
  refine ord_make t42_0 (vi n) W (by kernel_rfl) rfl rfl ?_ trivial ?_; (focus (have e21 : a0.eval (.tmp 21) = (vi n) := F0.ev 21 (by kernel_rfl); generalize a0.eval = ev at e21 ⊢; simp [go_sem, mkO, t42_0, e21]; done))
  refine F0.nextO 253 (vi n) fun a1 F1 => ?_
  clear F0
  refine ord_make t42_1 (vi n) W (by kernel_rfl) rfl rfl ?_ trivial ?_; (focus (have e23 : a1.eval (.tmp 23) = (vi n) := F1.ev 23 (by kernel_rfl); generalize a1.eval = ev at e23 ⊢; simp [go_sem, mkO, t42_1, e23]; done))
  refine F1.nextO 254 (vi n) fun a2 F2 => ?_
  clear F1 a1
  refine ord_make t42_2 (.bool false) W (by kernel_rfl) rfl rfl ?_ trivial ?_; (focus (have e253 : a2.eval (.tmp 253) = (vi n) := F2.ev 253 (by kernel_rfl); have e254 : a2.eval (.tmp 254) = (vi n) := F2.ev 254 (by kernel_rfl); generalize a2.eval = ev at e253 e254 ⊢; simp [go_sem, mkO, t42_2, e253, e254, hp, vp]; done))
  refine F2.nextO 255 (.bool false) fun a3 F3 => ?_
  clear F2 a2
  refine ord_make t42_3 (.bool false) W (by kernel_rfl) rfl rfl ?_ trivial ?_; (focus (have e255 : a3.eval (.tmp 255) = (.bool false) := F3.ev 255 (by kernel_rfl); generalize a3.eval = ev at e255 ⊢; simp [go_sem, mkO, t42_3, e255]; done))
  refine F3.nextO 256 (.bool false) fun a4 F4 => ?_
  clear F3 a3
  refine ord_make t42_4 (vi n) W (by kernel_rfl) rfl (F4.gd (by kernel_rfl)) ?_ trivial ?_; (focus (have e21 : a4.eval (.tmp 21) = (vi n) := F4.ev 21 (by kernel_rfl); generalize a4.eval = ev at e21 ⊢; simp [go_sem, mkO, t42_4, e21]; done))
  refine F4.nextO 257 (vi n) fun a5 F5 => ?_
  clear F4 a4
  refine ord_make t42_5 (vi n) W (by kernel_rfl) rfl (F5.gd (by kernel_rfl)) ?_ trivial ?_; (focus (have e25 : a5.eval (.tmp 25) = (vi n) := F5.ev 25 (by kernel_rfl); generalize a5.eval = ev at e25 ⊢; simp [go_sem, mkO, t42_5, e25]; done))
  refine F5.nextO 258 (vi n) fun a6 F6 => ?_
  clear F5 a5
  refine ord_make t42_6 (.bool false) W (by kernel_rfl) rfl (F6.gd (by kernel_rfl)) ?_ trivial ?_; (focus (have e257 : a6.eval (.tmp 257) = (vi n) := F6.ev 257 (by kernel_rfl); have e258 : a6.eval (.tmp 258) = (vi n) := F6.ev 258 (by kernel_rfl); generalize a6.eval = ev at e257 e258 ⊢; simp [go_sem, mkO, t42_6, e257, e258, hp, vp]; done))
  refine F6.nextO 259 (.bool false) fun a7 F7 => ?_
  clear F6 a6
  refine ord_make t42_7 (.bool false) W (by kernel_rfl) rfl rfl ?_ trivial ?_; (focus (have e256 : a7.eval (.tmp 256) = (.bool false) := F7.ev 256 (by kernel_rfl); have e259 : a7.eval (.tmp 259) = (.bool false) := F7.ev 259 (by kernel_rfl); have ec : ∀ c, a7.eval (.const c) = c := fun _ => rfl; generalize a7.eval = ev at e256 e259 ec ⊢; simp [go_sem, mkO, t42_7, ec, e256, e259]; done))
  refine F7.nextO 260 (.bool false) fun a8 F8 => ?_
  clear F7 a7
  refine ord_make t42_8 (.bool false) W (by kernel_rfl) rfl rfl ?_ trivial ?_; (focus (have e260 : a8.eval (.tmp 260) = (.bool false) := F8.ev 260 (by kernel_rfl); generalize a8.eval = ev at e260 ⊢; simp [go_sem, mkO, t42_8, e260]; done))
  refine F8.nextO 261 (.bool false) fun a9 F9 => ?_
  clear F8 a8
  refine ord_make t42_9 (vi 0) W (by kernel_rfl) rfl (F9.gd (by kernel_rfl)) ?_ trivial ?_; (focus (have e22 : a9.eval (.tmp 22) = (vi 0) := F9.ev 22 (by kernel_rfl); generalize a9.eval = ev at e22 ⊢; simp [go_sem, mkO, t42_9, e22]; done))
  refine F9.nextO 262 (vi 0) fun a10 F10 => ?_
  clear F9 a9
  refine ord_make t42_10 (vi 0) W (by kernel_rfl) rfl (F10.gd (by kernel_rfl)) ?_ trivial ?_; (focus (have e24 : a10.eval (.tmp 24) = (vi 0) := F10.ev 24 (by kernel_rfl); generalize a10.eval = ev at e24 ⊢; simp [go_sem, mkO, t42_10, e24]; done))
  refine F10.nextO 263 (vi 0) fun a11 F11 => ?_
  clear F10 a10
  refine ord_make t42_11 (.bool false) W (by kernel_rfl) rfl (F11.gd (by kernel_rfl)) ?_ trivial ?_; (focus (have e262 : a11.eval (.tmp 262) = (vi 0) := F11.ev 262 (by kernel_rfl); have e263 : a11.eval (.tmp 263) = (vi 0) := F11.ev 263 (by kernel_rfl); generalize a11.eval = ev at e262 e263 ⊢; simp [go_sem, mkO, t42_11, e262, e263, hp, vp]; done))
  refine F11.nextO 264 (.bool false) fun a12 F12 => ?_
  clear F11 a11
  refine ord_make t42_12 (.bool false) W (by kernel_rfl) rfl rfl ?_ trivial ?_; (focus (have e261 : a12.eval (.tmp 261) = (.bool false) := F12.ev 261 (by kernel_rfl); have e264 : a12.eval (.tmp 264) = (.bool false) := F12.ev 264 (by kernel_rfl); have ec : ∀ c, a12.eval (.const c) = c := fun _ => rfl; generalize a12.eval = ev at e261 e264 ec ⊢; simp [go_sem, mkO, t42_12, ec, e261, e264]; done))
  refine F12.nextO 265 (.bool false) fun a13 F13 => ?_
  clear F12 a12
  refine ord_make t42_13 (.bool false) W (by kernel_rfl) rfl rfl ?_ trivial ?_; (focus (have e265 : a13.eval (.tmp 265) = (.bool false) := F13.ev 265 (by kernel_rfl); generalize a13.eval = ev at e265 ⊢; simp [go_sem, mkO, t42_13, e265]; done))
  refine F13.nextO 266 (.bool false) fun a14 F14 => ?_
  clear F13 a13
  refine ord_make t42_14 (vi 0) W (by kernel_rfl) rfl (F14.gd (by kernel_rfl)) ?_ trivial ?_; (focus (have e22 : a14.eval (.tmp 22) = (vi 0) := F14.ev 22 (by kernel_rfl); generalize a14.eval = ev at e22 ⊢; simp [go_sem, mkO, t42_14, e22]; done))
  refine F14.nextO 267 (vi 0) fun a15 F15 => ?_
  clear F14 a14
  refine ord_make t42_15 (vi 0) W (by kernel_rfl) rfl (F15.gd (by kernel_rfl)) ?_ trivial ?_; (focus (have e26 : a15.eval (.tmp 26) = (vi 0) := F15.ev 26 (by kernel_rfl); generalize a15.eval = ev at e26 ⊢; simp [go_sem, mkO, t42_15, e26]; done))
  refine F15.nextO 268 (vi 0) fun a16 F16 => ?_
  clear F15 a15
  refine ord_make t42_16 (.bool false) W (by kernel_rfl) rfl (F16.gd (by kernel_rfl)) ?_ trivial ?_; (focus (have e267 : a16.eval (.tmp 267) = (vi 0) := F16.ev 267 (by kernel_rfl); have e268 : a16.eval (.tmp 268) = (vi 0) := F16.ev 268 (by kernel_rfl); generalize a16.eval = ev at e267 e268 ⊢; simp [go_sem, mkO, t42_16, e267, e268, hp, vp]; done))
  refine F16.nextO 269 (.bool false) fun a17 F17 => ?_
  clear F16 a16
  refine ord_make t42_17 (.bool false) W (by kernel_rfl) rfl rfl ?_ trivial ?_; (focus (have e266 : a17.eval (.tmp 266) = (.bool false) := F17.ev 266 (by kernel_rfl); have e269 : a17.eval (.tmp 269) = (.bool false) := F17.ev 269 (by kernel_rfl); have ec : ∀ c, a17.eval (.const c) = c := fun _ => rfl; generalize a17.eval = ev at e266 e269 ec ⊢; simp [go_sem, mkO, t42_17, ec, e266, e269]; done))
  refine F17.nextO 270 (.bool false) fun a18 F18 => ?_
  clear F17 a17
  refine ord_make t42_18 (.bool false) W (by kernel_rfl) rfl rfl ?_ trivial ?_; (focus (have e270 : a18.eval (.tmp 270) = (.bool false) := F18.ev 270 (by kernel_rfl); generalize a18.eval = ev at e270 ⊢; simp [go_sem, mkO, t42_18, e270]; done))
  refine F18.nextO 271 (.bool false) fun a19 F19 => ?_
  clear F18 a18
  refine ord_make t42_19 (vi se) W (by kernel_rfl) rfl (F19.gd (by kernel_rfl)) ?_ trivial ?_; (focus (have e27 : a19.eval (.tmp 27) = (vi se) := F19.ev 27 (by kernel_rfl); generalize a19.eval = ev at e27 ⊢; simp [go_sem, mkO, t42_19, e27]; done))
  refine F19.nextO 272 (vi se) fun a20 F20 => ?_
  clear F19 a19
  refine ord_make t42_20 (vi se) W (by kernel_rfl) rfl (F20.gd (by kernel_rfl)) ?_ trivial ?_; (focus (have e29 : a20.eval (.tmp 29) = (vi se) := F20.ev 29 (by kernel_rfl); generalize a20.eval = ev at e29 ⊢; simp [go_sem, mkO, t42_20, e29]; done))
  refine F20.nextO 273 (vi se) fun a21 F21 => ?_
  clear F20 a20
  refine ord_make t42_21 (.bool false) W (by kernel_rfl) rfl (F21.gd (by kernel_rfl)) ?_ trivial ?_; (focus (have e272 : a21.eval (.tmp 272) = (vi se) := F21.ev 272 (by kernel_rfl); have e273 : a21.eval (.tmp 273) = (vi se) := F21.ev 273 (by kernel_rfl); generalize a21.eval = ev at e272 e273 ⊢; simp [go_sem, mkO, t42_21, e272, e273, hp, vp]; done))
  refine F21.nextO 274 (.bool false) fun a22 F22 => ?_
  clear F21 a21
  refine ord_make t42_22 (.bool false) W (by kernel_rfl) rfl rfl ?_ trivial ?_; (focus (have e271 : a22.eval (.tmp 271) = (.bool false) := F22.ev 271 (by kernel_rfl); have e274 : a22.eval (.tmp 274) = (.bool false) := F22.ev 274 (by kernel_rfl); have ec : ∀ c, a22.eval (.const c) = c := fun _ => rfl; generalize a22.eval = ev at e271 e274 ec ⊢; simp [go_sem, mkO, t42_22, ec, e271, e274]; done))
  refine F22.nextO 275 (.bool false) fun a23 F23 => ?_
  clear F22 a22
  refine ord_make t42_23 (.bool false) W (by kernel_rfl) rfl rfl ?_ trivial ?_; (focus (have e275 : a23.eval (.tmp 275) = (.bool false) := F23.ev 275 (by kernel_rfl); generalize a23.eval = ev at e275 ⊢; simp [go_sem, mkO, t42_23, e275]; done))
  refine F23.nextO 276 (.bool false) fun a24 F24 => ?_
  clear F23 a23
  refine ord_make t42_24 (vi 0) W (by kernel_rfl) rfl (F24.gd (by kernel_rfl)) ?_ trivial ?_; (focus (have e28 : a24.eval (.tmp 28) = (vi 0) := F24.ev 28 (by kernel_rfl); generalize a24.eval = ev at e28 ⊢; simp [go_sem, mkO, t42_24, e28]; done))
  refine F24.nextO 277 (vi 0) fun a25 F25 => ?_
  clear F24 a24
  refine ord_make t42_25 (vi 0) W (by kernel_rfl) rfl (F25.gd (by kernel_rfl)) ?_ trivial ?_; (focus (have e30 : a25.eval (.tmp 30) = (vi 0) := F25.ev 30 (by kernel_rfl); generalize a25.eval = ev at e30 ⊢; simp [go_sem, mkO, t42_25, e30]; done))
  refine F25.nextO 278 (vi 0) fun a26 F26 => ?_
  clear F25 a25
  refine ord_make t42_26 (.bool false) W (by kernel_rfl) rfl (F26.gd (by kernel_rfl)) ?_ trivial ?_; (focus (have e277 : a26.eval (.tmp 277) = (vi 0) := F26.ev 277 (by kernel_rfl); have e278 : a26.eval (.tmp 278) = (vi 0) := F26.ev 278 (by kernel_rfl); generalize a26.eval = ev at e277 e278 ⊢; simp [go_sem, mkO, t42_26, e277, e278, hp, vp]; done))
  refine F26.nextO 279 (.bool false) fun a27 F27 => ?_
  clear F26 a26
  refine ord_make t42_27 (.bool false) W (by kernel_rfl) rfl rfl ?_ trivial ?_; (focus (have e276 : a27.eval (.tmp 276) = (.bool false) := F27.ev 276 (by kernel_rfl); have e279 : a27.eval (.tmp 279) = (.bool false) := F27.ev 279 (by kernel_rfl); have ec : ∀ c, a27.eval (.const c) = c := fun _ => rfl; generalize a27.eval = ev at e276 e279 ec ⊢; simp [go_sem, mkO, t42_27, ec, e276, e279]; done))
  refine F27.nextO 280 (.bool false) fun a28 F28 => ?_
  clear F27 a27
  refine ord_make t42_28 (.bool false) W (by kernel_rfl) rfl rfl ?_ trivial ?_; (focus (have e280 : a28.eval (.tmp 280) = (.bool false) := F28.ev 280 (by kernel_rfl); generalize a28.eval = ev at e280 ⊢; simp [go_sem, mkO, t42_28, e280]; done))
  refine F28.nextO 281 (.bool false) fun a29 F29 => ?_
  clear F28 a28
  refine ord_make t42_29 (vi bu) W (by kernel_rfl) rfl (F29.gd (by kernel_rfl)) ?_ trivial ?_; (focus (have e31 : a29.eval (.tmp 31) = (vi bu) := F29.ev 31 (by kernel_rfl); generalize a29.eval = ev at e31 ⊢; simp [go_sem, mkO, t42_29, e31]; done))
  refine F29.nextO 282 (vi bu) fun a30 F30 => ?_
  clear F29 a29
  refine ord_make t42_30 (vi bu) W (by kernel_rfl) rfl (F30.gd (by kernel_rfl)) ?_ trivial ?_; (focus (have e33 : a30.eval (.tmp 33) = (vi bu) := F30.ev 33 (by kernel_rfl); generalize a30.eval = ev at e33 ⊢; simp [go_sem, mkO, t42_30, e33]; done))
  refine F30.nextO 283 (vi bu) fun a31 F31 => ?_
  clear F30 a30
  refine ord_make t42_31 (.bool false) W (by kernel_rfl) rfl (F31.gd (by kernel_rfl)) ?_ trivial ?_; (focus (have e282 : a31.eval (.tmp 282) = (vi bu) := F31.ev 282 (by kernel_rfl); have e283 : a31.eval (.tmp 283) = (vi bu) := F31.ev 283 (by kernel_rfl); generalize a31.eval = ev at e282 e283 ⊢; simp [go_sem, mkO, t42_31, e282, e283, hp, vp]; done))
  refine F31.nextO 284 (.bool false) fun a32 F32 => ?_
  clear F31 a31
  refine ord_make t42_32 (.bool false) W (by kernel_rfl) rfl rfl ?_ trivial ?_; (focus (have e281 : a32.eval (.tmp 281) = (.bool false) := F32.ev 281 (by kernel_rfl); have e284 : a32.eval (.tmp 284) = (.bool false) := F32.ev 284 (by kernel_rfl); have ec : ∀ c, a32.eval (.const c) = c := fun _ => rfl; generalize a32.eval = ev at e281 e284 ec ⊢; simp [go_sem, mkO, t42_32, ec, e281, e284]; done))
  refine F32.nextO 285 (.bool false) fun a33 F33 => ?_
  clear F32 a32
  refine ord_make t42_33 (.bool false) W (by kernel_rfl) rfl rfl ?_ trivial ?_; (focus (have e285 : a33.eval (.tmp 285) = (.bool false) := F33.ev 285 (by kernel_rfl); generalize a33.eval = ev at e285 ⊢; simp [go_sem, mkO, t42_33, e285]; done))
  refine F33.nextO 286 (.bool false) fun a34 F34 => ?_
  clear F33 a33
  refine ord_make t42_34 (vi be) W (by kernel_rfl) rfl (F34.gd (by kernel_rfl)) ?_ trivial ?_; (focus (have e32 : a34.eval (.tmp 32) = (vi be) := F34.ev 32 (by kernel_rfl); generalize a34.eval = ev at e32 ⊢; simp [go_sem, mkO, t42_34, e32]; done))
  refine F34.nextO 287 (vi be) fun a35 F35 => ?_
  clear F34 a34
  refine ord_make t42_35 (vi be) W (by kernel_rfl) rfl (F35.gd (by kernel_rfl)) ?_ trivial ?_; (focus (have e34 : a35.eval (.tmp 34) = (vi be) := F35.ev 34 (by kernel_rfl); generalize a35.eval = ev at e34 ⊢; simp [go_sem, mkO, t42_35, e34]; done))
  refine F35.nextO 288 (vi be) fun a36 F36 => ?_
  clear F35 a35
  refine ord_make t42_36 (.bool false) W (by kernel_rfl) rfl (F36.gd (by kernel_rfl)) ?_ trivial ?_; (focus (have e287 : a36.eval (.tmp 287) = (vi be) := F36.ev 287 (by kernel_rfl); have e288 : a36.eval (.tmp 288) = (vi be) := F36.ev 288 (by kernel_rfl); generalize a36.eval = ev at e287 e288 ⊢; simp [go_sem, mkO, t42_36, e287, e288, hp, vp]; done))
  refine F36.nextO 289 (.bool false) fun a37 F37 => ?_
  clear F36 a36
  refine ord_make t42_37 (.bool false) W (by kernel_rfl) rfl rfl ?_ trivial ?_; (focus (have e286 : a37.eval (.tmp 286) = (.bool false) := F37.ev 286 (by kernel_rfl); have e289 : a37.eval (.tmp 289) = (.bool false) := F37.ev 289 (by kernel_rfl); have ec : ∀ c, a37.eval (.const c) = c := fun _ => rfl; generalize a37.eval = ev at e286 e289 ec ⊢; simp [go_sem, mkO, t42_37, ec, e286, e289]; done))
  refine F37.nextO 290 (.bool false) fun a38 F38 => ?_
  clear F37 a37
  refine ord_make t42_38 (.bool false) W (by kernel_rfl) rfl rfl ?_ trivial ?_; (focus (have e290 : a38.eval (.tmp 290) = (.bool false) := F38.ev 290 (by kernel_rfl); generalize a38.eval = ev at e290 ⊢; simp [go_sem, mkO, t42_38, e290]; done))
  refine F38.nextO 291 (.bool false) fun a39 F39 => ?_
  clear F38 a38
  refine ord_make t42_39 (vi es) W (by kernel_rfl) rfl (F39.gd (by kernel_rfl)) ?_ trivial ?_; (focus (have e36 : a39.eval (.tmp 36) = (vi es) := F39.ev 36 (by kernel_rfl); generalize a39.eval = ev at e36 ⊢; simp [go_sem, mkO, t42_39, e36]; done))
  refine F39.nextO 292 (vi es) fun a40 F40 => ?_
  clear F39 a39
  refine ord_make t42_40 (vi es) W (by kernel_rfl) rfl (F40.gd (by kernel_rfl)) ?_ trivial ?_; (focus (have e38 : a40.eval (.tmp 38) = (vi es) := F40.ev 38 (by kernel_rfl); generalize a40.eval = ev at e38 ⊢; simp [go_sem, mkO, t42_40, e38]; done))
  refine F40.nextO 293 (vi es) fun a41 F41 => ?_
  clear F40 a40
  refine ord_make t42_41 (.bool false) W (by kernel_rfl) rfl (F41.gd (by kernel_rfl)) ?_ trivial ?_; (focus (have e292 : a41.eval (.tmp 292) = (vi es) := F41.ev 292 (by kernel_rfl); have e293 : a41.eval (.tmp 293) = (vi es) := F41.ev 293 (by kernel_rfl); generalize a41.eval = ev at e292 e293 ⊢; simp [go_sem, mkO, t42_41, e292, e293, hp, vp]; done))
  refine F41.nextO 294 (.bool false) fun a42 F42 => ?_
  clear F41 a41
  refine ord_make t42_42 (.bool false) W (by kernel_rfl) rfl rfl ?_ trivial ?_; (focus (have e291 : a42.eval (.tmp 291) = (.bool false) := F42.ev 291 (by kernel_rfl); have e294 : a42.eval (.tmp 294) = (.bool false) := F42.ev 294 (by kernel_rfl); have ec : ∀ c, a42.eval (.const c) = c := fun _ => rfl; generalize a42.eval = ev at e291 e294 ec ⊢; simp [go_sem, mkO, t42_42, ec, e291, e294]; done))
  refine F42.nextO 295 (.bool false) fun a43 F43 => ?_
  clear F42 a42
  refine ord_make t42_43 (.bool false) W (by kernel_rfl) rfl rfl ?_ trivial ?_; (focus (have e295 : a43.eval (.tmp 295) = (.bool false) := F43.ev 295 (by kernel_rfl); generalize a43.eval = ev at e295 ⊢; simp [go_sem, mkO, t42_43, e295]; done))
  refine F43.nextO 296 (.bool false) fun a44 F44 => ?_
  clear F43 a43
  refine ord_make t42_44 (vi eh) W (by kernel_rfl) rfl (F44.gd (by kernel_rfl)) ?_ trivial ?_; (focus (have e40 : a44.eval (.tmp 40) = (vi eh) := F44.ev 40 (by kernel_rfl); generalize a44.eval = ev at e40 ⊢; simp [go_sem, mkO, t42_44, e40]; done))
  refine F44.nextO 297 (vi eh) fun a45 F45 => ?_
  clear F44 a44
  refine ord_make t42_45 (vi eh) W (by kernel_rfl) rfl (F45.gd (by kernel_rfl)) ?_ trivial ?_; (focus (have e42 : a45.eval (.tmp 42) = (vi eh) := F45.ev 42 (by kernel_rfl); generalize a45.eval = ev at e42 ⊢; simp [go_sem, mkO, t42_45, e42]; done))
  refine F45.nextO 298 (vi eh) fun a46 F46 => ?_
  clear F45 a45
  refine ord_make t42_46 (.bool false) W (by kernel_rfl) rfl (F46.gd (by kernel_rfl)) ?_ trivial ?_; (focus (have e297 : a46.eval (.tmp 297) = (vi eh) := F46.ev 297 (by kernel_rfl); have e298 : a46.eval (.tmp 298) = (vi eh) := F46.ev 298 (by kernel_rfl); generalize a46.eval = ev at e297 e298 ⊢; simp [go_sem, mkO, t42_46, e297, e298, hp, vp]; done))
  refine F46.nextO 299 (.bool false) fun a47 F47 => ?_
  clear F46 a46
  refine ord_make t42_47 (.bool false) W (by kernel_rfl) rfl rfl ?_ trivial ?_; (focus (have e296 : a47.eval (.tmp 296) = (.bool false) := F47.ev 296 (by kernel_rfl); have e299 : a47.eval (.tmp 299) = (.bool false) := F47.ev 299 (by kernel_rfl); have ec : ∀ c, a47.eval (.const c) = c := fun _ => rfl; generalize a47.eval = ev at e296 e299 ec ⊢; simp [go_sem, mkO, t42_47, ec, e296, e299]; done))
  refine F47.nextO 300 (.bool false) fun a48 F48 => ?_
  clear F47 a47
  refine ord_make t42_48 (.bool false) W (by kernel_rfl) rfl rfl ?_ trivial ?_; (focus (have e300 : a48.eval (.tmp 300) = (.bool false) := F48.ev 300 (by kernel_rfl); generalize a48.eval = ev at e300 ⊢; simp [go_sem, mkO, t42_48, e300]; done))
  refine F48.nextO 301 (.bool false) fun a49 F49 => ?_
  clear F48 a48
  refine ord_make t42_49 (vi ew) W (by kernel_rfl) rfl (F49.gd (by kernel_rfl)) ?_ trivial ?_; (focus (have e44 : a49.eval (.tmp 44) = (vi ew) := F49.ev 44 (by kernel_rfl); generalize a49.eval = ev at e44 ⊢; simp [go_sem, mkO, t42_49, e44]; done))
  refine F49.nextO 302 (vi ew) fun a50 F50 => ?_
  clear F49 a49
  refine ord_make t42_50 (vi ew) W (by kernel_rfl) rfl (F50.gd (by kernel_rfl)) ?_ trivial ?_; (focus (have e46 : a50.eval (.tmp 46) = (vi ew) := F50.ev 46 (by kernel_rfl); generalize a50.eval = ev at e46 ⊢; simp [go_sem, mkO, t42_50, e46]; done))
  refine F50.nextO 303 (vi ew) fun a51 F51 => ?_
  clear F50 a50
  refine ord_make t42_51 (.bool false) W (by kernel_rfl) rfl (F51.gd (by kernel_rfl)) ?_ trivial ?_; (focus (have e302 : a51.eval (.tmp 302) = (vi ew) := F51.ev 302 (by kernel_rfl); have e303 : a51.eval (.tmp 303) = (vi ew) := F51.ev 303 (by kernel_rfl); generalize a51.eval = ev at e302 e303 ⊢; simp [go_sem, mkO, t42_51, e302, e303, hp, vp]; done))
  refine F51.nextO 304 (.bool false) fun a52 F52 => ?_
  clear F51 a51
  refine ord_make t42_52 (.bool false) W (by kernel_rfl) rfl rfl ?_ trivial ?_; (focus (have e301 : a52.eval (.tmp 301) = (.bool false) := F52.ev 301 (by kernel_rfl); have e304 : a52.eval (.tmp 304) = (.bool false) := F52.ev 304 (by kernel_rfl); have ec : ∀ c, a52.eval (.const c) = c := fun _ => rfl; generalize a52.eval = ev at e301 e304 ec ⊢; simp [go_sem, mkO, t42_52, ec, e301, e304]; done))
  refine F52.nextO 305 (.bool false) fun a53 F53 => ?_
  clear F52 a52
  refine ord_make t42_53 (.bool false) W (by kernel_rfl) rfl rfl ?_ trivial ?_; (focus (have e305 : a53.eval (.tmp 305) = (.bool false) := F53.ev 305 (by kernel_rfl); generalize a53.eval = ev at e305 ⊢; simp [go_sem, mkO, t42_53, e305]; done))
  refine F53.nextO 306 (.bool false) fun a54 F54 => ?_
  clear F53 a53
  refine ord_make t42_54 (iv s0) W (by kernel_rfl) rfl (F54.gd (by kernel_rfl)) ?_ trivial ?_; (focus (have e35 : a54.eval (.tmp 35) = (iv s0) := F54.ev 35 (by kernel_rfl); generalize a54.eval = ev at e35 ⊢; simp [go_sem, mkO, t42_54, e35]; done))
  refine F54.nextO 307 (iv s0) fun a55 F55 => ?_
  clear F54 a54
  refine ord_make t42_55 (.bool false) W (by kernel_rfl) rfl (F55.gd (by kernel_rfl)) ?_ trivial ?_; (focus (have e307 : a55.eval (.tmp 307) = (iv s0) := F55.ev 307 (by kernel_rfl); have ec : ∀ c, a55.eval (.const c) = c := fun _ => rfl; generalize a55.eval = ev at e307 ec ⊢; simp [go_sem, mkO, t42_55, ec, e307, hneg]; done))
  refine F55.nextO 308 (.bool false) fun a56 F56 => ?_
  clear F55 a55
  refine ord_make t42_56 (.bool false) W (by kernel_rfl) rfl rfl ?_ trivial ?_; (focus (have e306 : a56.eval (.tmp 306) = (.bool false) := F56.ev 306 (by kernel_rfl); have e308 : a56.eval (.tmp 308) = (.bool false) := F56.ev 308 (by kernel_rfl); have ec : ∀ c, a56.eval (.const c) = c := fun _ => rfl; generalize a56.eval = ev at e306 e308 ec ⊢; simp [go_sem, mkO, t42_56, ec, e306, e308]; done))
  refine F56.nextO 309 (.bool false) fun a57 F57 => ?_
  clear F56 a56
  refine ord_make t42_57 (.bool false) W (by kernel_rfl) rfl rfl ?_ trivial ?_; (focus (have e309 : a57.eval (.tmp 309) = (.bool false) := F57.ev 309 (by kernel_rfl); generalize a57.eval = ev at e309 ⊢; simp [go_sem, mkO, t42_57, e309]; done))
  refine F57.nextO 310 (.bool false) fun a58 F58 => ?_
  clear F57 a57
  refine ord_make t42_58 (iv s1) W (by kernel_rfl) rfl (F58.gd (by kernel_rfl)) ?_ trivial ?_; (focus (have e37 : a58.eval (.tmp 37) = (iv s1) := F58.ev 37 (by kernel_rfl); generalize a58.eval = ev at e37 ⊢; simp [go_sem, mkO, t42_58, e37]; done))
  refine F58.nextO 311 (iv s1) fun a59 F59 => ?_
  clear F58 a58
  refine ord_make t42_59 (.bool false) W (by kernel_rfl) rfl (F59.gd (by kernel_rfl)) ?_ trivial ?_; (focus (have e311 : a59.eval (.tmp 311) = (iv s1) := F59.ev 311 (by kernel_rfl); have ec : ∀ c, a59.eval (.const c) = c := fun _ => rfl; generalize a59.eval = ev at e311 ec ⊢; simp [go_sem, mkO, t42_59, ec, e311, hneg]; done))
  refine F59.nextO 312 (.bool false) fun a60 F60 => ?_
  clear F59 a59
  refine ord_make t42_60 (.bool false) W (by kernel_rfl) rfl rfl ?_ trivial ?_; (focus (have e310 : a60.eval (.tmp 310) = (.bool false) := F60.ev 310 (by kernel_rfl); have e312 : a60.eval (.tmp 312) = (.bool false) := F60.ev 312 (by kernel_rfl); have ec : ∀ c, a60.eval (.const c) = c := fun _ => rfl; generalize a60.eval = ev at e310 e312 ec ⊢; simp [go_sem, mkO, t42_60, ec, e310, e312]; done))
  refine F60.nextO 313 (.bool false) fun a61 F61 => ?_
  clear F60 a60
  refine ord_make t42_61 (.bool false) W (by kernel_rfl) rfl rfl ?_ trivial ?_; (focus (have e313 : a61.eval (.tmp 313) = (.bool false) := F61.ev 313 (by kernel_rfl); generalize a61.eval = ev at e313 ⊢; simp [go_sem, mkO, t42_61, e313]; done))
  refine F61.nextO 314 (.bool false) fun a62 F62 => ?_
  clear F61 a61
  refine ord_make t42_62 (iv u0) W (by kernel_rfl) rfl (F62.gd (by kernel_rfl)) ?_ trivial ?_; (focus (have e39 : a62.eval (.tmp 39) = (iv u0) := F62.ev 39 (by kernel_rfl); generalize a62.eval = ev at e39 ⊢; simp [go_sem, mkO, t42_62, e39]; done))
  refine F62.nextO 315 (iv u0) fun a63 F63 => ?_
  clear F62 a62
  refine ord_make t42_63 (.bool false) W (by kernel_rfl) rfl (F63.gd (by kernel_rfl)) ?_ trivial ?_; (focus (have e315 : a63.eval (.tmp 315) = (iv u0) := F63.ev 315 (by kernel_rfl); have ec : ∀ c, a63.eval (.const c) = c := fun _ => rfl; generalize a63.eval = ev at e315 ec ⊢; simp [go_sem, mkO, t42_63, ec, e315, hneg]; done))
  refine F63.nextO 316 (.bool false) fun a64 F64 => ?_
  clear F63 a63
  refine ord_make t42_64 (.bool false) W (by kernel_rfl) rfl rfl ?_ trivial ?_; (focus (have e314 : a64.eval (.tmp 314) = (.bool false) := F64.ev 314 (by kernel_rfl); have e316 : a64.eval (.tmp 316) = (.bool false) := F64.ev 316 (by kernel_rfl); have ec : ∀ c, a64.eval (.const c) = c := fun _ => rfl; generalize a64.eval = ev at e314 e316 ec ⊢; simp [go_sem, mkO, t42_64, ec, e314, e316]; done))
  refine F64.nextO 317 (.bool false) fun a65 F65 => ?_
  clear F64 a64
  refine ord_make t42_65 (.bool false) W (by kernel_rfl) rfl rfl ?_ trivial ?_; (focus (have e317 : a65.eval (.tmp 317) = (.bool false) := F65.ev 317 (by kernel_rfl); generalize a65.eval = ev at e317 ⊢; simp [go_sem, mkO, t42_65, e317]; done))
  refine F65.nextO 318 (.bool false) fun a66 F66 => ?_
  clear F65 a65
  refine ord_make t42_66 (iv u1) W (by kernel_rfl) rfl (F66.gd (by kernel_rfl)) ?_ trivial ?_; (focus (have e41 : a66.eval (.tmp 41) = (iv u1) := F66.ev 41 (by kernel_rfl); generalize a66.eval = ev at e41 ⊢; simp [go_sem, mkO, t42_66, e41]; done))
  refine F66.nextO 319 (iv u1) fun a67 F67 => ?_
  clear F66 a66
  refine ord_make t42_67 (.bool false) W (by kernel_rfl) rfl (F67.gd (by kernel_rfl)) ?_ trivial ?_; (focus (have e319 : a67.eval (.tmp 319) = (iv u1) := F67.ev 319 (by kernel_rfl); have ec : ∀ c, a67.eval (.const c) = c := fun _ => rfl; generalize a67.eval = ev at e319 ec ⊢; simp [go_sem, mkO, t42_67, ec, e319, hneg]; done))
  refine F67.nextO 320 (.bool false) fun a68 F68 => ?_
  clear F67 a67
  refine ord_make t42_68 (.bool false) W (by kernel_rfl) rfl rfl ?_ trivial ?_; (focus (have e318 : a68.eval (.tmp 318) = (.bool false) := F68.ev 318 (by kernel_rfl); have e320 : a68.eval (.tmp 320) = (.bool false) := F68.ev 320 (by kernel_rfl); have ec : ∀ c, a68.eval (.const c) = c := fun _ => rfl; generalize a68.eval = ev at e318 e320 ec ⊢; simp [go_sem, mkO, t42_68, ec, e318, e320]; done))
  refine F68.nextO 321 (.bool false) fun a69 F69 => ?_
  clear F68 a68
  refine ord_make t42_69 (.bool false) W (by kernel_rfl) rfl rfl ?_ trivial ?_; (focus (have e321 : a69.eval (.tmp 321) = (.bool false) := F69.ev 321 (by kernel_rfl); generalize a69.eval = ev at e321 ⊢; simp [go_sem, mkO, t42_69, e321]; done))
  refine F69.nextO 322 (.bool false) fun a70 F70 => ?_
  clear F69 a69
  refine ord_make t42_70 (iv w0) W (by kernel_rfl) rfl (F70.gd (by kernel_rfl)) ?_ trivial ?_; (focus (have e43 : a70.eval (.tmp 43) = (iv w0) := F70.ev 43 (by kernel_rfl); generalize a70.eval = ev at e43 ⊢; simp [go_sem, mkO, t42_70, e43]; done))
  refine F70.nextO 323 (iv w0) fun a71 F71 => ?_
  clear F70 a70
  refine ord_make t42_71 (.bool false) W (by kernel_rfl) rfl (F71.gd (by kernel_rfl)) ?_ trivial ?_; (focus (have e323 : a71.eval (.tmp 323) = (iv w0) := F71.ev 323 (by kernel_rfl); have ec : ∀ c, a71.eval (.const c) = c := fun _ => rfl; generalize a71.eval = ev at e323 ec ⊢; simp [go_sem, mkO, t42_71, ec, e323, hneg]; done))
  refine F71.nextO 324 (.bool false) fun a72 F72 => ?_
  clear F71 a71
  refine ord_make t42_72 (.bool false) W (by kernel_rfl) rfl rfl ?_ trivial ?_; (focus (have e322 : a72.eval (.tmp 322) = (.bool false) := F72.ev 322 (by kernel_rfl); have e324 : a72.eval (.tmp 324) = (.bool false) := F72.ev 324 (by kernel_rfl); have ec : ∀ c, a72.eval (.const c) = c := fun _ => rfl; generalize a72.eval = ev at e322 e324 ec ⊢; simp [go_sem, mkO, t42_72, ec, e322, e324]; done))
  refine F72.nextO 325 (.bool false) fun a73 F73 => ?_
  clear F72 a72
  refine ord_make t42_73 (.bool false) W (by kernel_rfl) rfl rfl ?_ trivial ?_; (focus (have e325 : a73.eval (.tmp 325) = (.bool false) := F73.ev 325 (by kernel_rfl); generalize a73.eval = ev at e325 ⊢; simp [go_sem, mkO, t42_73, e325]; done))
  refine F73.nextO 326 (.bool false) fun a74 F74 => ?_
  clear F73 a73
  refine ord_make t42_74 (iv w1) W (by kernel_rfl) rfl (F74.gd (by kernel_rfl)) ?_ trivial ?_; (focus (have e45 : a74.eval (.tmp 45) = (iv w1) := F74.ev 45 (by kernel_rfl); generalize a74.eval = ev at e45 ⊢; simp [go_sem, mkO, t42_74, e45]; done))
  refine F74.nextO 327 (iv w1) fun a75 F75 => ?_
  clear F74 a74
  refine ord_make t42_75 (.bool false) W (by kernel_rfl) rfl (F75.gd (by kernel_rfl)) ?_ trivial ?_; (focus (have e327 : a75.eval (.tmp 327) = (iv w1) := F75.ev 327 (by kernel_rfl); have ec : ∀ c, a75.eval (.const c) = c := fun _ => rfl; generalize a75.eval = ev at e327 ec ⊢; simp [go_sem, mkO, t42_75, ec, e327, hneg]; done))
  refine F75.nextO 328 (.bool false) fun a76 F76 => ?_
  clear F75 a75
  refine ord_make t42_76 (.bool false) W (by kernel_rfl) rfl rfl ?_ trivial ?_; (focus (have e326 : a76.eval (.tmp 326) = (.bool false) := F76.ev 326 (by kernel_rfl); have e328 : a76.eval (.tmp 328) = (.bool false) := F76.ev 328 (by kernel_rfl); have ec : ∀ c, a76.eval (.const c) = c := fun _ => rfl; generalize a76.eval = ev at e326 e328 ec ⊢; simp [go_sem, mkO, t42_76, ec, e326, e328]; done))
  refine F76.nextO 329 (.bool false) fun a77 F77 => ?_
  clear F76 a76
  refine ord_make t42_77 (.bool false) W (by kernel_rfl) rfl rfl ?_ trivial ?_; (focus (have e329 : a77.eval (.tmp 329) = (.bool false) := F77.ev 329 (by kernel_rfl); generalize a77.eval = ev at e329 ⊢; simp [go_sem, mkO, t42_77, e329]; done))
  refine F77.nextO 330 (.bool false) fun a78 F78 => ?_
  clear F77 a77
  refine ord_make t42_78 (.func (.func 30) #[] #[]) W (by kernel_rfl) rfl (F78.gd (by kernel_rfl)) ?_ trivial ?_; (focus (have e47 : a78.eval (.tmp 47) = (.func (.func 30) #[] #[]) := F78.ev 47 (by kernel_rfl); generalize a78.eval = ev at e47 ⊢; simp [go_sem, mkO, t42_78, e47]; done))
  refine F78.nextO 331 (.func (.func 30) #[] #[]) fun a79 F79 => ?_
  clear F78 a78
  refine ord_make t42_79 (iv u0) W (by kernel_rfl) rfl (F79.gd (by kernel_rfl)) ?_ trivial ?_; (focus (have e39 : a79.eval (.tmp 39) = (iv u0) := F79.ev 39 (by kernel_rfl); generalize a79.eval = ev at e39 ⊢; simp [go_sem, mkO, t42_79, e39]; done))
  refine F79.nextO 332 (iv u0) fun a80 F80 => ?_
  clear F79 a79
  refine ord_call t42_80 (f := 30) (args := #[iv u0]) (by kernel_rfl) rfl (F80.gd (by kernel_rfl)) ?_ ?_
  · (have e331 : a80.eval (.tmp 331) = (.func (.func 30) #[] #[]) := F80.ev 331 (by kernel_rfl); have e332 : a80.eval (.tmp 332) = (iv u0) := F80.ev 332 (by kernel_rfl); generalize a80.eval = ev at e331 e332 ⊢; simp [go_sem, mkO, t42_80, e331, e332]; done)
  refine (size30 u0 lu0 W).mono ?_
  rintro e X1 ⟨rfl, hy⟩
  have hT1 := hT0.step hy
  replace hbw := hbw.trans (hy.mono hbw.size)
  refine .inl ⟨_, rfl, trivial, ?_⟩
  clear hy hT0
  refine F80.nextO 333 (iv (pop u0)) fun a81 F81 => ?_
  clear F80 a80
  refine ord_make t42_81 (.func (.func 30) #[] #[]) X1 (by kernel_rfl) rfl (F81.gd (by kernel_rfl)) ?_ trivial ?_; (focus (have e47 : a81.eval (.tmp 47) = (.func (.func 30) #[] #[]) := F81.ev 47 (by kernel_rfl); generalize a81.eval = ev at e47 ⊢; simp [go_sem, mkO, t42_81, e47]; done))
  refine F81.nextO 334 (.func (.func 30) #[] #[]) fun a82 F82 => ?_
  clear F81 a81
  refine ord_make t42_82 (iv u1) X1 (by kernel_rfl) rfl (F82.gd (by kernel_rfl)) ?_ trivial ?_; (focus (have e41 : a82.eval (.tmp 41) = (iv u1) := F82.ev 41 (by kernel_rfl); generalize a82.eval = ev at e41 ⊢; simp [go_sem, mkO, t42_82, e41]; done))
  refine F82.nextO 335 (iv u1) fun a83 F83 => ?_
  clear F82 a82
  refine ord_call t42_83 (f := 30) (args := #[iv u1]) (by kernel_rfl) rfl (F83.gd (by kernel_rfl)) ?_ ?_
  · (have e334 : a83.eval (.tmp 334) = (.func (.func 30) #[] #[]) := F83.ev 334 (by kernel_rfl); have e335 : a83.eval (.tmp 335) = (iv u1) := F83.ev 335 (by kernel_rfl); generalize a83.eval = ev at e334 e335 ⊢; simp [go_sem, mkO, t42_83, e334, e335]; done)
  refine (size30 u1 lu1 X1).mono ?_
  rintro e X2 ⟨rfl, hy⟩
  have hT2 := hT1.step hy
  replace hbw := hbw.trans (hy.mono hbw.size)
  refine .inl ⟨_, rfl, trivial, ?_⟩
  clear hy hT1
  clear X1
  refine F83.nextO 336 (iv (pop u1)) fun a84 F84 => ?_
  clear F83 a83
  refine ord_make t42_84 (.bool false) X2 (by kernel_rfl) rfl (F84.gd (by kernel_rfl)) ?_ trivial ?_; (focus (have e333 : a84.eval (.tmp 333) = (iv (pop u0)) := F84.ev 333 (by kernel_rfl); have e336 : a84.eval (.tmp 336) = (iv (pop u1)) := F84.ev 336 (by kernel_rfl); generalize a84.eval = ev at e333 e336 ⊢; simp [go_sem, mkO, t42_84, e333, e336, hp, vp]; done))
  refine F84.nextO 337 (.bool false) fun a85 F85 => ?_
  clear F84 a84
  refine ord_make t42_85 (.bool false) X2 (by kernel_rfl) rfl rfl ?_ trivial ?_; (focus (have e330 : a85.eval (.tmp 330) = (.bool false) := F85.ev 330 (by kernel_rfl); have e337 : a85.eval (.tmp 337) = (.bool false) := F85.ev 337 (by kernel_rfl); have ec : ∀ c, a85.eval (.const c) = c := fun _ => rfl; generalize a85.eval = ev at e330 e337 ec ⊢; simp [go_sem, mkO, t42_85, ec, e330, e337]; done))
  refine F85.nextO 338 (.bool false) fun a86 F86 => ?_
  clear F85 a85
  refine ord_make t42_86 (.bool false) X2 (by kernel_rfl) rfl rfl ?_ trivial ?_; (focus (have e338 : a86.eval (.tmp 338) = (.bool false) := F86.ev 338 (by kernel_rfl); generalize a86.eval = ev at e338 ⊢; simp [go_sem, mkO, t42_86, e338]; done))
  refine F86.nextO 339 (.bool false) fun a87 F87 => ?_
  clear F86 a86
  refine ord_make t42_87 (.func (.func 30) #[] #[]) X2 (by kernel_rfl) rfl (F87.gd (by kernel_rfl)) ?_ trivial ?_; (focus (have e47 : a87.eval (.tmp 47) = (.func (.func 30) #[] #[]) := F87.ev 47 (by kernel_rfl); generalize a87.eval = ev at e47 ⊢; simp [go_sem, mkO, t42_87, e47]; done))
  refine F87.nextO 340 (.func (.func 30) #[] #[]) fun a88 F88 => ?_
  clear F87 a87
  refine ord_make t42_88 (iv w0) X2 (by kernel_rfl) rfl (F88.gd (by kernel_rfl)) ?_ trivial ?_; (focus (have e43 : a88.eval (.tmp 43) = (iv w0) := F88.ev 43 (by kernel_rfl); generalize a88.eval = ev at e43 ⊢; simp [go_sem, mkO, t42_88, e43]; done))
  refine F88.nextO 341 (iv w0) fun a89 F89 => ?_
  clear F88 a88
  refine ord_call t42_89 (f := 30) (args := #[iv w0]) (by kernel_rfl) rfl (F89.gd (by kernel_rfl)) ?_ ?_
  · (have e340 : a89.eval (.tmp 340) = (.func (.func 30) #[] #[]) := F89.ev 340 (by kernel_rfl); have e341 : a89.eval (.tmp 341) = (iv w0) := F89.ev 341 (by kernel_rfl); generalize a89.eval = ev at e340 e341 ⊢; simp [go_sem, mkO, t42_89, e340, e341]; done)
  refine (size30 w0 lw0 X2).mono ?_
  rintro e X3 ⟨rfl, hy⟩
  have hT3 := hT2.step hy
  replace hbw := hbw.trans (hy.mono hbw.size)
  refine .inl ⟨_, rfl, trivial, ?_⟩
  clear hy hT2
  clear X2
  refine F89.nextO 342 (iv (pop w0)) fun a90 F90 => ?_
  clear F89 a89
  refine ord_make t42_90 (.func (.func 30) #[] #[]) X3 (by kernel_rfl) rfl (F90.gd (by kernel_rfl)) ?_ trivial ?_; (focus (have e47 : a90.eval (.tmp 47) = (.func (.func 30) #[] #[]) := F90.ev 47 (by kernel_rfl); generalize a90.eval = ev at e47 ⊢; simp [go_sem, mkO, t42_90, e47]; done))
  refine F90.nextO 343 (.func (.func 30) #[] #[]) fun a91 F91 => ?_
  clear F90 a90
  refine ord_make t42_91 (iv w1) X3 (by kernel_rfl) rfl (F91.gd (by kernel_rfl)) ?_ trivial ?_; (focus (have e45 : a91.eval (.tmp 45) = (iv w1) := F91.ev 45 (by kernel_rfl); generalize a91.eval = ev at e45 ⊢; simp [go_sem, mkO, t42_91, e45]; done))
  refine F91.nextO 344 (iv w1) fun a92 F92 => ?_
  clear F91 a91
  refine ord_call t42_92 (f := 30) (args := #[iv w1]) (by kernel_rfl) rfl (F92.gd (by kernel_rfl)) ?_ ?_
  · (have e343 : a92.eval (.tmp 343) = (.func (.func 30) #[] #[]) := F92.ev 343 (by kernel_rfl); have e344 : a92.eval (.tmp 344) = (iv w1) := F92.ev 344 (by kernel_rfl); generalize a92.eval = ev at e343 e344 ⊢; simp [go_sem, mkO, t42_92, e343, e344]; done)
  refine (size30 w1 lw1 X3).mono ?_
  rintro e X4 ⟨rfl, hy⟩
  have hT4 := hT3.step hy
  replace hbw := hbw.trans (hy.mono hbw.size)
  refine .inl ⟨_, rfl, trivial, ?_⟩
  clear hy hT3
  clear X3
  refine F92.nextO 345 (iv (pop w1)) fun a93 F93 => ?_
  clear F92 a92
  refine ord_make t42_93 (.bool false) X4 (by kernel_rfl) rfl (F93.gd (by kernel_rfl)) ?_ trivial ?_; (focus (have e342 : a93.eval (.tmp 342) = (iv (pop w0)) := F93.ev 342 (by kernel_rfl); have e345 : a93.eval (.tmp 345) = (iv (pop w1)) := F93.ev 345 (by kernel_rfl); generalize a93.eval = ev at e342 e345 ⊢; simp [go_sem, mkO, t42_93, e342, e345, hp, vp]; done))
  refine F93.nextO 346 (.bool false) fun a94 F94 => ?_
  clear F93 a93
  refine ord_make t42_94 (.bool false) X4 (by kernel_rfl) rfl rfl ?_ trivial ?_; (focus (have e339 : a94.eval (.tmp 339) = (.bool false) := F94.ev 339 (by kernel_rfl); have e346 : a94.eval (.tmp 346) = (.bool false) := F94.ev 346 (by kernel_rfl); have ec : ∀ c, a94.eval (.const c) = c := fun _ => rfl; generalize a94.eval = ev at e339 e346 ec ⊢; simp [go_sem, mkO, t42_94, ec, e339, e346]; done))
  refine F94.nextO 347 (.bool false) fun a95 F95 => ?_
  clear F94 a94
  refine ord_end (by kernel_rfl) ?_
  exact F95.eq hT4.keep ⟨hbw, (F95.fin [253, 254, 255, 256, 257, 258, 259, 260, 261, 262, 263, 264, 265, 266, 267, 268, 269, 270, 271, 272, 273, 274, 275, 276, 277, 278, 279, 280, 281, 282, 283, 284, 285, 286, 287, 288, 289, 290, 291, 292, 293, 294, 295, 296, 297, 298, 299, 300, 301, 302, 303, 304, 305, 306, 307, 308, 309, 310, 311, 312, 313, 314, 315, 316, 317, 318, 319, 320, 321, 322, 323, 324, 325, 326, 327, 328, 329, 330, 331, 332, 333, 334, 335, 336, 337, 338, 339, 340, 341, 342, 343, 344, 345, 346] (by kernel_rfl))⟩
end Go.Proofs.Ytbdmmikflkpmpaa
end

section
namespace Go.Proofs.Ytbdmmikflkpmpaa
open Go.RowKit Go.TL Go.Shelf Go.Pn
def t47_0t : It := ⟨(Op.move (Operand.tmp 35)), some 353, 3, true, none⟩
def t47_1t : It := ⟨(Op.move (Operand.tmp 48)), some 354, 3, true, none⟩
def t47_2t : It := ⟨(Op.binOp BinOp.shr 3 (Operand.tmp 353) (Operand.tmp 354) 3), some 355, 3, true, none⟩
def t47_3t : It := ⟨(Op.binOp BinOp.and 3 (Operand.tmp 355) (Operand.const (Value.int IntKind.i64 1)) 3), some 356, 3, true, none⟩
def t47_4t : It := ⟨(Op.move (Operand.tmp 37)), some 357, 3, true, none⟩
def t47_5t : It := ⟨(Op.move (Operand.tmp 7)), some 358, 43, true, none⟩
def t47_6 : It := ⟨(Op.move (Operand.tmp 48)), some 359, 3, false, none⟩
def t47_7 : It := ⟨(Op.call { callee := (Callee.value (Operand.tmp 358)), args := #[(Operand.tmp 359)], argTypes := #[3] }), some 360, 3, false, none⟩
def t47_8 : It := ⟨(Op.binOp BinOp.shr 3 (Operand.tmp 357) (Operand.tmp 360) 3), some 361, 3, false, none⟩
def t47_9 : It := ⟨(Op.binOp BinOp.and 3 (Operand.tmp 361) (Operand.const (Value.int IntKind.i64 1)) 3), some 362, 3, false, none⟩
def t47_10 : It := ⟨(Op.binOp BinOp.neq 3 (Operand.tmp 356) (Operand.tmp 362) 3), some 363, 4, false, none⟩
def t47_11 : It := ⟨(Op.move (Operand.tmp 363)), some 364, 4, false, none⟩
def t47_12t : It := ⟨(Op.move (Operand.tmp 18)), some 365, 22, true, some (364, false)⟩
def t47_13t : It := ⟨(Op.move (Operand.tmp 48)), some 366, 3, true, some (364, false)⟩
def t47_14t : It := ⟨(Op.indexAddr 22 (Operand.tmp 365) (Operand.tmp 366)), some 367, 0, true, some (364, false)⟩
def t47_15t : It := ⟨(Op.load 3 (Operand.tmp 367)), some 368, 3, true, some (364, false)⟩
def t47_16t : It := ⟨(Op.fieldAddr 25 (Operand.tmp 3) 0), some 369, 0, true, some (364, false)⟩
def t47_17t : It := ⟨(Op.load 22 (Operand.tmp 369)), some 370, 22, true, some (364, false)⟩
def t47_18 : It := ⟨(Op.move (Operand.tmp 48)), some 371, 3, false, some (364, false)⟩
def t47_19 : It := ⟨(Op.indexAddr 22 (Operand.tmp 370) (Operand.tmp 371)), some 372, 0, false, some (364, false)⟩
def t47_20 : It := ⟨(Op.load 3 (Operand.tmp 372)), some 373, 3, false, some (364, false)⟩
def t47_21 : It := ⟨(Op.binOp BinOp.neq 3 (Operand.tmp 368) (Operand.tmp 373) 3), some 374, 4, false, some (364, false)⟩
def t47_22 : It := ⟨(Op.pick (Operand.tmp 364) (Operand.const (Value.bool true)) (Operand.tmp 374)), some 375, 4, false, none⟩
set_option maxRecDepth 100000 in
set_option maxHeartbeats 4000000 in
theorem tu_r47 {w W : World} {a x : XP} {b ba bb bx m1 m2 gA cA gB cB gC cC : Nat} {cuA cuB cuC : List Value} {s0 s1 d sd : Nat} {v : Int} {q : Bool} {ad : Addr} (hf : a.Fine) (ha : a.At w) (hm1 : m1 < 256) (hd : d < a.L.length) (hsd : (d + m1) % a.L.length = sd) (hA : a.AL = some ad) (hck : ∀ Y, Below w.heap.size w Y → Y.cell? (ad.add d) = some (vi v)) (hcA : cuA[d]? = some (vi v)) (hb0 : bits .and .i64 ((s0 : Int) / (2 : Int) ^ d) 1 = ((b1 q : Nat) : Int)) (hb1 : bits .and .i64 ((s1 : Int) / (2 : Int) ^ sd) 1 = ((b1 q : Nat) : Int)) (hT : Tr w W W [(b, .cells #[a.sL, a.sN, a.sK] 25 (0, 0)), (ba, .cells #[.int .u8 (m1 : Int)] 5 (0, 0)), (bb, .cells #[.int .u8 (m2 : Int)] 5 (0, 0)), (bx, .cells #[x.sL, x.sN, x.sK] 25 (0, 0)), (gA, .cells (cuA).toArray 3 (0, 0)), (gB, .cells (cuB).toArray 3 (0, 0)), (gC, .cells (cuC).toArray 50 (0, 0))]) {t : Array Value} (hSl : Slots (none :: none :: none :: some (.pointer (some ⟨b, 0, none⟩)) :: some (.pointer (some ⟨ba, 0, none⟩)) :: some (.pointer (some ⟨bb, 0, none⟩)) :: some (.bool false) :: some (.func (.func 48) #[] #[.pointer (some ⟨ba, 0, none⟩), .pointer (some ⟨b, 0, none⟩)]) :: some (.func (.func 49) #[] #[.pointer (some ⟨bb, 0, none⟩), .pointer (some ⟨b, 0, none⟩)]) :: some (.pointer (some ⟨bx, 0, none⟩)) :: o4 (o4 (some (.slice (some ⟨gA, 0, none⟩) a.L.length cA) :: some (.slice (some ⟨gB, 0, none⟩) a.N.length cB) :: some (.slice (some ⟨gC, 0, none⟩) a.K.length cC) :: none :: none :: o4 (o4 (o4 (some (iv s0) :: none :: some (iv s1) :: none :: none :: o4 (o4 (some (iv d) :: o4 (o4 (o4 (o16 (o16 (o64 (o64 (o64 (o64 (some (iv a.L.length) :: some (iv d) :: none :: none :: none :: o4 (o16 (o64 []))))))))))))))))))) t) :
    Exec Try.prog none (sub (Try.f12.body.getD .skip) [1, 1, 1, 1, 1, 1, 1, 1, 1, 1, 1, 1, 1, 1, 1, 1, 1, 1, 1, 1, 1, 1, 1, 1, 1, 1, 1, 0, 1, 0, 0, 1, 1, 0, 0, 1, 0, 0]) t W (andThen (fun t' W' => Tr w W' W' [(b, .cells #[a.sL, a.sN, a.sK] 25 (0, 0)), (ba, .cells #[.int .u8 (m1 : Int)] 5 (0, 0)), (bb, .cells #[.int .u8 (m2 : Int)] 5 (0, 0)), (bx, .cells #[x.sL, x.sN, x.sK] 25 (0, 0)), (gA, .cells (cuA).toArray 3 (0, 0)), (gB, .cells (cuB).toArray 3 (0, 0)), (gC, .cells (cuC).toArray 50 (0, 0))] ∧ Below W.heap.size W W' ∧ Slots (none :: none :: none :: some (.pointer (some ⟨b, 0, none⟩)) :: some (.pointer (some ⟨ba, 0, none⟩)) :: some (.pointer (some ⟨bb, 0, none⟩)) :: some (.bool false) :: some (.func (.func 48) #[] #[.pointer (some ⟨ba, 0, none⟩), .pointer (some ⟨b, 0, none⟩)]) :: some (.func (.func 49) #[] #[.pointer (some ⟨bb, 0, none⟩), .pointer (some ⟨b, 0, none⟩)]) :: some (.pointer (some ⟨bx, 0, none⟩)) :: o4 (o4 (some (.slice (some ⟨gA, 0, none⟩) a.L.length cA) :: some (.slice (some ⟨gB, 0, none⟩) a.N.length cB) :: some (.slice (some ⟨gC, 0, none⟩) a.K.length cC) :: none :: none :: o4 (o4 (o4 (some (iv s0) :: none :: some (iv s1) :: none :: none :: o4 (o4 (some (iv d) :: o4 (o4 (o4 (o16 (o16 (o64 (o64 (o64 (o64 (some (iv a.L.length) :: some (iv d) :: o4 (o4 (o16 (some (.bool false) :: none :: none :: o4 (o4 (o4 (o16 (o16 (o16 []))))))))))))))))))))))))) t') fun _ _ _ => False) := by
  have hu25 := Try.underlying25
  have hu22 := Try.underlying22
  have hj6 := hf.j
  have hdI : (d : Int) < a.L.length := by omega
  have hsl : sd < a.L.length := by rw [← hsd]; exact Nat.mod_lt _ (by omega)
  have hmd : min d 64 = d := by omega
  have hms : min sd 64 = sd := by omega
  have hcall := fun (X : World) (h1 : X.heap[ba]? = some (.cells #[.int .u8 (m1 : Int)] 5 (0, 0))) (h2 : PBx X b a) => judge48 hm1 h1 h2 hd
  rw [hsd] at hcall
  have hbw : Below W.heap.size W W.drew := (Below.refl _ W).drew
  have hT0 := hT.again.drew
  refine region_tree (c := (sub (Try.f12.body.getD .skip) [1, 1, 1, 1, 1, 1, 1, 1, 1, 1, 1, 1, 1, 1, 1, 1, 1, 1, 1, 1, 1, 1, 1, 1, 1, 1, 1, 0, 1, 0, 0, 1, 1, 0, 0, 1, 0, 0])) (id := 47) (.one 0 true (.one 1 true (.one 2 true (.one 3 true (.one 4 true (.one 5 true (.one 6 false (.one 7 false (.one 8 false (.one 9 false (.one 10 false (.one 11 false (.one 12 true (.one 13 true (.one 14 true (.one 15 true (.one 16 true (.one 17 true (.one 18 false (.one 19 false (.one 20 false (.one 21 false (.one 22 false (.nil)))))))))))))))))))))))) (Opq (regOps (sub (Try.f12.body.getD .skip) [1, 1, 1, 1, 1, 1, 1, 1, 1, 1, 1, 1, 1, 1, 1, 1, 1, 1, 1, 1, 1, 1, 1, 1, 1, 1, 1, 0, 1, 0, 0, 1, 1, 0, 0, 1, 0, 0]))) rfl (by kernel_rfl) (by kernel_rfl) (by kernel_rfl) (by kernel_rfl) (by kernel_rfl) (by kernel_rfl) [0, 0, 3, 4, 0, 0, 0, 96, 144, 256, 520, 1152, 2048, 2048, 14336, 18432, 2048, 67584, 2048, 395264, 526336, 1083392, 2099200] (by kernel_rfl) (by kernel_rfl) (fun W' => W'.cell? ⟨b, 0, none⟩ = some (a.sL) ∧ W'.cell? ⟨gA, d, none⟩ = some (vi v) ∧ W'.cell? (ad.add d) = some (vi v)) (fun _ _ _ => False) (fun _ _ _ h => h.elim) (fun _ _ _ _ _ _ _ _ h => h.elim) fun ds Q' hQn hQp => ?_
  have F0 : Fr (none :: none :: none :: some (.pointer (some ⟨b, 0, none⟩)) :: some (.pointer (some ⟨ba, 0, none⟩)) :: some (.pointer (some ⟨bb, 0, none⟩)) :: some (.bool false) :: some (.func (.func 48) #[] #[.pointer (some ⟨ba, 0, none⟩), .pointer (some ⟨b, 0, none⟩)]) :: some (.func (.func 49) #[] #[.pointer (some ⟨bb, 0, none⟩), .pointer (some ⟨b, 0, none⟩)]) :: some (.pointer (some ⟨bx, 0, none⟩)) :: o4 (o4 (some (.slice (some ⟨gA, 0, none⟩) a.L.length cA) :: some (.slice (some ⟨gB, 0, none⟩) a.N.length cB) :: some (.slice (some ⟨gC, 0, none⟩) a.K.length cC) :: none :: none :: o4 (o4 (o4 (some (iv s0) :: none :: some (iv s1) :: none :: none :: o4 (o4 (some (iv d) :: o4 (o4 (o4 (o16 (o16 (o64 (o64 (o64 (o64 (some (iv a.L.length) :: some (iv d) :: none :: none :: none :: o4 (o16 (o64 []))))))))))))))))))) ds { tmps := t, defers := ds } := Fr.start hSl
  clear hSl
  generalize ({ tmps := t, defers := ds } : Act) = a0 at *
  generalize W.drew = X0 at *
  refine tr_take t47_0t (iv s0) (by kernel_rfl) rfl rfl (fun wq hq => ?_) ⟨hT0.cell 0 rfl rfl, hT0.cell 4 rfl hcA, (hck _ hT0.below)⟩ ?_; (focus (have e35 : a0.eval (.tmp 35) = (iv s0) := F0.ev 35 (by kernel_rfl); generalize a0.eval = ev at e35 ⊢; simp [go_sem, mkO, t47_0t, e35]; done))
  refine F0.next 353 (iv s0) fun a1 F1 => ?_
  clear F0
  refine tr_take t47_1t (iv d) (by kernel_rfl) rfl rfl (fun wq hq => ?_) ⟨hT0.cell 0 rfl rfl, hT0.cell 4 rfl hcA, (hck _ hT0.below)⟩ ?_; (focus (have e48 : a1.eval (.tmp 48) = (iv d) := F1.ev 48 (by kernel_rfl); generalize a1.eval = ev at e48 ⊢; simp [go_sem, mkO, t47_1t, e48]; done))
  refine F1.next 354 (iv d) fun a2 F2 => ?_
  clear F1 a1
  refine tr_take t47_2t (.int .i64 ((s0 : Int) / (2 : Int) ^ d)) (by kernel_rfl) rfl rfl (fun wq hq => ?_) ⟨hT0.cell 0 rfl rfl, hT0.cell 4 rfl hcA, (hck _ hT0.below)⟩ ?_; (focus (have e353 : a2.eval (.tmp 353) = (iv s0) := F2.ev 353 (by kernel_rfl); have e354 : a2.eval (.tmp 354) = (iv d) := F2.ev 354 (by kernel_rfl); generalize a2.eval = ev at e353 e354 ⊢; simp [go_sem, mkO, t47_2t, e353, e354, hmd]; done))
  refine F2.next 355 (.int .i64 ((s0 : Int) / (2 : Int) ^ d)) fun a3 F3 => ?_
  clear F2 a2
  refine tr_take t47_3t (iv (b1 q)) (by kernel_rfl) rfl rfl (fun wq hq => ?_) ⟨hT0.cell 0 rfl rfl, hT0.cell 4 rfl hcA, (hck _ hT0.below)⟩ ?_; (focus (have e355 : a3.eval (.tmp 355) = (.int .i64 ((s0 : Int) / (2 : Int) ^ d)) := F3.ev 355 (by kernel_rfl); have ec : ∀ c, a3.eval (.const c) = c := fun _ => rfl; generalize a3.eval = ev at e355 ec ⊢; simp [go_sem, mkO, t47_3t, ec, e355, hb0]; done))
  refine F3.next 356 (iv (b1 q)) fun a4 F4 => ?_
  clear F3 a3
  refine tr_take t47_4t (iv s1) (by kernel_rfl) rfl rfl (fun wq hq => ?_) ⟨hT0.cell 0 rfl rfl, hT0.cell 4 rfl hcA, (hck _ hT0.below)⟩ ?_; (focus (have e37 : a4.eval (.tmp 37) = (iv s1) := F4.ev 37 (by kernel_rfl); generalize a4.eval = ev at e37 ⊢; simp [go_sem, mkO, t47_4t, e37]; done))
  refine F4.next 357 (iv s1) fun a5 F5 => ?_
  clear F4 a4
  refine tr_take t47_5t (.func (.func 48) #[] #[.pointer (some ⟨ba, 0, none⟩), .pointer (some ⟨b, 0, none⟩)]) (by kernel_rfl) rfl rfl (fun wq hq => ?_) ⟨hT0.cell 0 rfl rfl, hT0.cell 4 rfl hcA, (hck _ hT0.below)⟩ ?_; (focus (have e7 : a5.eval (.tmp 7) = (.func (.func 48) #[] #[.pointer (some ⟨ba, 0, none⟩), .pointer (some ⟨b, 0, none⟩)]) := F5.ev 7 (by kernel_rfl); generalize a5.eval = ev at e7 ⊢; simp [go_sem, mkO, t47_5t, e7]; done))
  refine F5.next 358 (.func (.func 48) #[] #[.pointer (some ⟨ba, 0, none⟩), .pointer (some ⟨b, 0, none⟩)]) fun a6 F6 => ?_
  clear F5 a5
  refine tr_make t47_6 (iv d) _ (by kernel_rfl) rfl rfl ?_ ⟨hT0.cell 0 rfl rfl, hT0.cell 4 rfl hcA, (hck _ hT0.below)⟩ ?_; (focus (have hq := (show (fun W' : World => W'.cell? ⟨b, 0, none⟩ = some (a.sL) ∧ W'.cell? ⟨gA, d, none⟩ = some (vi v) ∧ W'.cell? (ad.add d) = some (vi v)) X0 from ⟨hT0.cell 0 rfl rfl, hT0.cell 4 rfl hcA, (hck _ hT0.below)⟩); have e48 : a6.eval (.tmp 48) = (iv d) := F6.ev 48 (by kernel_rfl); generalize a6.eval = ev at e48 ⊢; simp [go_sem, mkO, t47_6, e48]; done))
  refine F6.next 359 (iv d) fun a7 F7 => ?_
  clear F6 a6
  refine tr_call t47_7 (f := 48) (args := #[iv d, .pointer (some ⟨ba, 0, none⟩), .pointer (some ⟨b, 0, none⟩)]) (by kernel_rfl) rfl rfl ?_ ?_
  · (have e358 : a7.eval (.tmp 358) = (.func (.func 48) #[] #[.pointer (some ⟨ba, 0, none⟩), .pointer (some ⟨b, 0, none⟩)]) := F7.ev 358 (by kernel_rfl); have e359 : a7.eval (.tmp 359) = (iv d) := F7.ev 359 (by kernel_rfl); generalize a7.eval = ev at e358 e359 ⊢; simp [go_sem, mkO, t47_7, e358, e359]; done)
  refine (hcall X0 (hT0.get 1 rfl) ⟨hT0.get 0 rfl, ha.below hT0.below⟩).mono ?_
  rintro e X1 ⟨rfl, hy⟩
  have hT1 := hT0.step hy
  replace hbw := hbw.trans (hy.mono hbw.size)
  refine .inl ⟨_, rfl, ⟨hT1.cell 0 rfl rfl, hT1.cell 4 rfl hcA, (hck _ hT1.below)⟩, ?_⟩
  clear hy hT0
  clear X0
  refine F7.next 360 (iv sd) fun a8 F8 => ?_
  clear F7 a7
  refine tr_make t47_8 (.int .i64 ((s1 : Int) / (2 : Int) ^ sd)) _ (by kernel_rfl) rfl rfl ?_ ⟨hT1.cell 0 rfl rfl, hT1.cell 4 rfl hcA, (hck _ hT1.below)⟩ ?_; (focus (have hq := (show (fun W' : World => W'.cell? ⟨b, 0, none⟩ = some (a.sL) ∧ W'.cell? ⟨gA, d, none⟩ = some (vi v) ∧ W'.cell? (ad.add d) = some (vi v)) X1 from ⟨hT1.cell 0 rfl rfl, hT1.cell 4 rfl hcA, (hck _ hT1.below)⟩); have e357 : a8.eval (.tmp 357) = (iv s1) := F8.ev 357 (by kernel_rfl); have e360 : a8.eval (.tmp 360) = (iv sd) := F8.ev 360 (by kernel_rfl); generalize a8.eval = ev at e357 e360 ⊢; simp [go_sem, mkO, t47_8, e357, e360, hms]; done))
  refine F8.next 361 (.int .i64 ((s1 : Int) / (2 : Int) ^ sd)) fun a9 F9 => ?_
  clear F8 a8
  refine tr_make t47_9 (iv (b1 q)) _ (by kernel_rfl) rfl rfl ?_ ⟨hT1.cell 0 rfl rfl, hT1.cell 4 rfl hcA, (hck _ hT1.below)⟩ ?_; (focus (have hq := (show (fun W' : World => W'.cell? ⟨b, 0, none⟩ = some (a.sL) ∧ W'.cell? ⟨gA, d, none⟩ = some (vi v) ∧ W'.cell? (ad.add d) = some (vi v)) X1 from ⟨hT1.cell 0 rfl rfl, hT1.cell 4 rfl hcA, (hck _ hT1.below)⟩); have e361 : a9.eval (.tmp 361) = (.int .i64 ((s1 : Int) / (2 : Int) ^ sd)) := F9.ev 361 (by kernel_rfl); have ec : ∀ c, a9.eval (.const c) = c := fun _ => rfl; generalize a9.eval = ev at e361 ec ⊢; simp [go_sem, mkO, t47_9, ec, e361, hb1]; done))
  refine F9.next 362 (iv (b1 q)) fun a10 F10 => ?_
  clear F9 a9
  refine tr_make t47_10 (.bool false) _ (by kernel_rfl) rfl rfl ?_ ⟨hT1.cell 0 rfl rfl, hT1.cell 4 rfl hcA, (hck _ hT1.below)⟩ ?_; (focus (have hq := (show (fun W' : World => W'.cell? ⟨b, 0, none⟩ = some (a.sL) ∧ W'.cell? ⟨gA, d, none⟩ = some (vi v) ∧ W'.cell? (ad.add d) = some (vi v)) X1 from ⟨hT1.cell 0 rfl rfl, hT1.cell 4 rfl hcA, (hck _ hT1.below)⟩); have e356 : a10.eval (.tmp 356) = (iv (b1 q)) := F10.ev 356 (by kernel_rfl); have e362 : a10.eval (.tmp 362) = (iv (b1 q)) := F10.ev 362 (by kernel_rfl); generalize a10.eval = ev at e356 e362 ⊢; simp [go_sem, mkO, t47_10, e356, e362]; done))
  refine F10.next 363 (.bool false) fun a11 F11 => ?_
  clear F10 a10
  refine tr_make t47_11 (.bool false) _ (by kernel_rfl) rfl rfl ?_ ⟨hT1.cell 0 rfl rfl, hT1.cell 4 rfl hcA, (hck _ hT1.below)⟩ ?_; (focus (have hq := (show (fun W' : World => W'.cell? ⟨b, 0, none⟩ = some (a.sL) ∧ W'.cell? ⟨gA, d, none⟩ = some (vi v) ∧ W'.cell? (ad.add d) = some (vi v)) X1 from ⟨hT1.cell 0 rfl rfl, hT1.cell 4 rfl hcA, (hck _ hT1.below)⟩); have e363 : a11.eval (.tmp 363) = (.bool false) := F11.ev 363 (by kernel_rfl); generalize a11.eval = ev at e363 ⊢; simp [go_sem, mkO, t47_11, e363]; done))
  refine F11.next 364 (.bool false) fun a12 F12 => ?_
  clear F11 a11
  refine tr_take t47_12t (.slice (some ⟨gA, 0, none⟩) a.L.length cA) (by kernel_rfl) rfl (F12.gd (by kernel_rfl)) (fun wq hq => ?_) ⟨hT1.cell 0 rfl rfl, hT1.cell 4 rfl hcA, (hck _ hT1.below)⟩ ?_; (focus (have e18 : a12.eval (.tmp 18) = (.slice (some ⟨gA, 0, none⟩) a.L.length cA) := F12.ev 18 (by kernel_rfl); generalize a12.eval = ev at e18 ⊢; simp [go_sem, mkO, t47_12t, e18]; done))
  refine F12.next 365 (.slice (some ⟨gA, 0, none⟩) a.L.length cA) fun a13 F13 => ?_
  clear F12 a12
  refine tr_take t47_13t (iv d) (by kernel_rfl) rfl (F13.gd (by kernel_rfl)) (fun wq hq => ?_) ⟨hT1.cell 0 rfl rfl, hT1.cell 4 rfl hcA, (hck _ hT1.below)⟩ ?_; (focus (have e48 : a13.eval (.tmp 48) = (iv d) := F13.ev 48 (by kernel_rfl); generalize a13.eval = ev at e48 ⊢; simp [go_sem, mkO, t47_13t, e48]; done))
  refine F13.next 366 (iv d) fun a14 F14 => ?_
  clear F13 a13
  refine tr_take t47_14t (.pointer (some ⟨gA, d, none⟩)) (by kernel_rfl) rfl (F14.gd (by kernel_rfl)) (fun wq hq => ?_) ⟨hT1.cell 0 rfl rfl, hT1.cell 4 rfl hcA, (hck _ hT1.below)⟩ ?_; (focus (have e365 : a14.eval (.tmp 365) = (.slice (some ⟨gA, 0, none⟩) a.L.length cA) := F14.ev 365 (by kernel_rfl); have e366 : a14.eval (.tmp 366) = (iv d) := F14.ev 366 (by kernel_rfl); generalize a14.eval = ev at e365 e366 ⊢; simp [go_sem, mkO, t47_14t, e365, e366, hu22, hdI]; done))
  refine F14.next 367 (.pointer (some ⟨gA, d, none⟩)) fun a15 F15 => ?_
  clear F14 a14
  refine tr_take t47_15t (vi v) (by kernel_rfl) rfl (F15.gd (by kernel_rfl)) (fun wq hq => ?_) ⟨hT1.cell 0 rfl rfl, hT1.cell 4 rfl hcA, (hck _ hT1.below)⟩ ?_; (focus (have e367 : a15.eval (.tmp 367) = (.pointer (some ⟨gA, d, none⟩)) := F15.ev 367 (by kernel_rfl); generalize a15.eval = ev at e367 ⊢; simp [go_sem, mkO, t47_15t, e367, hq.2.1]; done))
  refine F15.next 368 (vi v) fun a16 F16 => ?_
  clear F15 a15
  refine tr_take t47_16t (.pointer (some ⟨b, 0, none⟩)) (by kernel_rfl) rfl (F16.gd (by kernel_rfl)) (fun wq hq => ?_) ⟨hT1.cell 0 rfl rfl, hT1.cell 4 rfl hcA, (hck _ hT1.below)⟩ ?_; (focus (have e3 : a16.eval (.tmp 3) = (.pointer (some ⟨b, 0, none⟩)) := F16.ev 3 (by kernel_rfl); generalize a16.eval = ev at e3 ⊢; simp [go_sem, mkO, t47_16t, e3, hu25]; done))
  refine F16.next 369 (.pointer (some ⟨b, 0, none⟩)) fun a17 F17 => ?_
  clear F16 a16
  refine tr_take t47_17t (.slice (some ad) a.L.length a.cL) (by kernel_rfl) rfl (F17.gd (by kernel_rfl)) (fun wq hq => ?_) ⟨hT1.cell 0 rfl rfl, hT1.cell 4 rfl hcA, (hck _ hT1.below)⟩ ?_; (focus (have e369 : a17.eval (.tmp 369) = (.pointer (some ⟨b, 0, none⟩)) := F17.ev 369 (by kernel_rfl); generalize a17.eval = ev at e369 ⊢; simp [go_sem, mkO, t47_17t, e369, hq.1, XP.sL, hA]; done))
  refine F17.next 370 (.slice (some ad) a.L.length a.cL) fun a18 F18 => ?_
  clear F17 a17
  refine tr_make t47_18 (iv d) _ (by kernel_rfl) rfl (F18.gd (by kernel_rfl)) ?_ ⟨hT1.cell 0 rfl rfl, hT1.cell 4 rfl hcA, (hck _ hT1.below)⟩ ?_; (focus (have hq := (show (fun W' : World => W'.cell? ⟨b, 0, none⟩ = some (a.sL) ∧ W'.cell? ⟨gA, d, none⟩ = some (vi v) ∧ W'.cell? (ad.add d) = some (vi v)) X1 from ⟨hT1.cell 0 rfl rfl, hT1.cell 4 rfl hcA, (hck _ hT1.below)⟩); have e48 : a18.eval (.tmp 48) = (iv d) := F18.ev 48 (by kernel_rfl); generalize a18.eval = ev at e48 ⊢; simp [go_sem, mkO, t47_18, e48]; done))
  refine F18.next 371 (iv d) fun a19 F19 => ?_
  clear F18 a18
  refine tr_make t47_19 (.pointer (some (ad.add d))) _ (by kernel_rfl) rfl (F19.gd (by kernel_rfl)) ?_ ⟨hT1.cell 0 rfl rfl, hT1.cell 4 rfl hcA, (hck _ hT1.below)⟩ ?_; (focus (have hq := (show (fun W' : World => W'.cell? ⟨b, 0, none⟩ = some (a.sL) ∧ W'.cell? ⟨gA, d, none⟩ = some (vi v) ∧ W'.cell? (ad.add d) = some (vi v)) X1 from ⟨hT1.cell 0 rfl rfl, hT1.cell 4 rfl hcA, (hck _ hT1.below)⟩); have e370 : a19.eval (.tmp 370) = (.slice (some ad) a.L.length a.cL) := F19.ev 370 (by kernel_rfl); have e371 : a19.eval (.tmp 371) = (iv d) := F19.ev 371 (by kernel_rfl); generalize a19.eval = ev at e370 e371 ⊢; simp [go_sem, mkO, t47_19, e370, e371, hu22, hdI]; done))
  refine F19.next 372 (.pointer (some (ad.add d))) fun a20 F20 => ?_
  clear F19 a19
  refine tr_make t47_20 (vi v) _ (by kernel_rfl) rfl (F20.gd (by kernel_rfl)) ?_ ⟨hT1.cell 0 rfl rfl, hT1.cell 4 rfl hcA, (hck _ hT1.below)⟩ ?_; (focus (have hq := (show (fun W' : World => W'.cell? ⟨b, 0, none⟩ = some (a.sL) ∧ W'.cell? ⟨gA, d, none⟩ = some (vi v) ∧ W'.cell? (ad.add d) = some (vi v)) X1 from ⟨hT1.cell 0 rfl rfl, hT1.cell 4 rfl hcA, (hck _ hT1.below)⟩); have e372 : a20.eval (.tmp 372) = (.pointer (some (ad.add d))) := F20.ev 372 (by kernel_rfl); generalize a20.eval = ev at e372 ⊢; simp [go_sem, mkO, t47_20, e372, hq.2.2]; done))
  refine F20.next 373 (vi v) fun a21 F21 => ?_
  clear F20 a20
  refine tr_make t47_21 (.bool false) _ (by kernel_rfl) rfl (F21.gd (by kernel_rfl)) ?_ ⟨hT1.cell 0 rfl rfl, hT1.cell 4 rfl hcA, (hck _ hT1.below)⟩ ?_; (focus (have hq := (show (fun W' : World => W'.cell? ⟨b, 0, none⟩ = some (a.sL) ∧ W'.cell? ⟨gA, d, none⟩ = some (vi v) ∧ W'.cell? (ad.add d) = some (vi v)) X1 from ⟨hT1.cell 0 rfl rfl, hT1.cell 4 rfl hcA, (hck _ hT1.below)⟩); have e368 : a21.eval (.tmp 368) = (vi v) := F21.ev 368 (by kernel_rfl); have e373 : a21.eval (.tmp 373) = (vi v) := F21.ev 373 (by kernel_rfl); generalize a21.eval = ev at e368 e373 ⊢; simp [go_sem, mkO, t47_21, e368, e373]; done))
  refine F21.next 374 (.bool false) fun a22 F22 => ?_
  clear F21 a21
  refine tr_make t47_22 (.bool false) _ (by kernel_rfl) rfl rfl ?_ ⟨hT1.cell 0 rfl rfl, hT1.cell 4 rfl hcA, (hck _ hT1.below)⟩ ?_; (focus (have hq := (show (fun W' : World => W'.cell? ⟨b, 0, none⟩ = some (a.sL) ∧ W'.cell? ⟨gA, d, none⟩ = some (vi v) ∧ W'.cell? (ad.add d) = some (vi v)) X1 from ⟨hT1.cell 0 rfl rfl, hT1.cell 4 rfl hcA, (hck _ hT1.below)⟩); have e364 : a22.eval (.tmp 364) = (.bool false) := F22.ev 364 (by kernel_rfl); have e374 : a22.eval (.tmp 374) = (.bool false) := F22.ev 374 (by kernel_rfl); have ec : ∀ c, a22.eval (.const c) = c := fun _ => rfl; generalize a22.eval = ev at e364 e374 ec ⊢; simp [go_sem, mkO, t47_22, ec, e364, e374]; done))
  refine F22.next 375 (.bool false) fun a23 F23 => ?_
  clear F22 a22
  exact F23.out hQn hT1.keep ⟨hT1.again, hbw, (F23.fin [353, 354, 355, 356, 357, 358, 359, 360, 361, 362, 363, 364, 365, 366, 367, 368, 369, 370, 371, 372, 373, 374] (by kernel_rfl))⟩
def t53_0t : It := ⟨(Op.load 25 (Operand.tmp 9)), some 389, 25, true, none⟩
def t53_1t : It := ⟨(Op.move (Operand.tmp 7)), some 390, 43, true, none⟩
def t53_2t : It := ⟨(Op.move (Operand.tmp 48)), some 391, 3, true, none⟩
def t53_4t : It := ⟨(Op.move (Operand.tmp 8)), some 393, 43, true, none⟩
def t53_5t : It := ⟨(Op.move (Operand.tmp 49)), some 394, 3, true, none⟩
def t53_3 : It := ⟨(Op.call { callee := (Callee.value (Operand.tmp 390)), args := #[(Operand.tmp 391)], argTypes := #[3] }), some 392, 3, false, none⟩
def t53_6 : It := ⟨(Op.call { callee := (Callee.value (Operand.tmp 393)), args := #[(Operand.tmp 394)], argTypes := #[3] }), some 395, 3, false, none⟩
def t53_7 : It := ⟨(Op.call { callee := (Callee.value (Operand.func 19)), args := #[(Operand.tmp 389), (Operand.tmp 392), (Operand.tmp 395)], argTypes := #[25, 3, 3] }), some 396, 31, false, none⟩
def t53_8 : It := ⟨(Op.move (Operand.tmp 396)), some 388, 31, false, none⟩
def t53_9t : It := ⟨(Op.extract (Operand.tmp 388) 0), some 397, 3, true, none⟩
def t53_10t : It := ⟨(Op.extract (Operand.tmp 388) 1), some 398, 28, true, none⟩
def t53_11 : It := ⟨(Op.assign (Operand.tmp 397)), some 52, 3, false, none⟩
def t53_12 : It := ⟨(Op.assign (Operand.tmp 398)), some 53, 28, false, none⟩
set_option maxRecDepth 100000 in
set_option maxHeartbeats 4000000 in
theorem tu_r53 {w W : World} {a x : XP} {b ba bb bx m1 m2 gA cA gB cB gC cC : Nat} {cuA cuB cuC : List Value} {s0 s1 d c sd tc : Nat} {r e : Int} (hf : a.Fine) (ha : a.At w) (hxa : x.At W) (hm1 : m1 < 256) (hm2 : m2 < 256) (hd : d < a.L.length) (hc : c < a.N.length) (hsd : (d + m1) % a.L.length = sd) (htc : (c + m2) % a.N.length = tc) (hpx : pairA x sd tc = (r, e)) (hT : Tr w W W [(b, .cells #[a.sL, a.sN, a.sK] 25 (0, 0)), (ba, .cells #[.int .u8 (m1 : Int)] 5 (0, 0)), (bb, .cells #[.int .u8 (m2 : Int)] 5 (0, 0)), (bx, .cells #[x.sL, x.sN, x.sK] 25 (0, 0)), (gA, .cells (cuA).toArray 3 (0, 0)), (gB, .cells (cuB).toArray 3 (0, 0)), (gC, .cells (cuC).toArray 50 (0, 0))]) {t : Array Value} (hSl : Slots (none :: none :: none :: some (.pointer (some ⟨b, 0, none⟩)) :: some (.pointer (some ⟨ba, 0, none⟩)) :: some (.pointer (some ⟨bb, 0, none⟩)) :: some (.bool false) :: some (.func (.func 48) #[] #[.pointer (some ⟨ba, 0, none⟩), .pointer (some ⟨b, 0, none⟩)]) :: some (.func (.func 49) #[] #[.pointer (some ⟨bb, 0, none⟩), .pointer (some ⟨b, 0, none⟩)]) :: some (.pointer (some ⟨bx, 0, none⟩)) :: o4 (o4 (some (.slice (some ⟨gA, 0, none⟩) a.L.length cA) :: some (.slice (some ⟨gB, 0, none⟩) a.N.length cB) :: some (.slice (some ⟨gC, 0, none⟩) a.K.length cC) :: none :: none :: o4 (o4 (o4 (some (iv s0) :: none :: some (iv s1) :: none :: none :: o4 (o4 (some (iv d) :: some (iv c) :: some (vi r) :: some (vi e) :: none :: o4 (o4 (o16 (o16 (o64 (o64 (o64 (o64 (some (iv a.L.length) :: some (iv d) :: none :: none :: o4 (o4 (o16 (some (iv a.N.length) :: some (iv c) :: none :: none :: none :: o4 (o4 (o16 (o16 (o16 []))))))))))))))))))))))) t) :
    Exec Try.prog none (sub (Try.f12.body.getD .skip) [1, 1, 1, 1, 1, 1, 1, 1, 1, 1, 1, 1, 1, 1, 1, 1, 1, 1, 1, 1, 1, 1, 1, 1, 1, 1, 1, 0, 1, 0, 0, 1, 1, 0, 0, 1, 1, 1, 0, 0, 1, 1, 0, 0, 1, 1, 0]) t W (andThen (fun t' W' => Tr w W' W' [(b, .cells #[a.sL, a.sN, a.sK] 25 (0, 0)), (ba, .cells #[.int .u8 (m1 : Int)] 5 (0, 0)), (bb, .cells #[.int .u8 (m2 : Int)] 5 (0, 0)), (bx, .cells #[x.sL, x.sN, x.sK] 25 (0, 0)), (gA, .cells (cuA).toArray 3 (0, 0)), (gB, .cells (cuB).toArray 3 (0, 0)), (gC, .cells (cuC).toArray 50 (0, 0))] ∧ Below W.heap.size W W' ∧ Slots (none :: none :: none :: some (.pointer (some ⟨b, 0, none⟩)) :: some (.pointer (some ⟨ba, 0, none⟩)) :: some (.pointer (some ⟨bb, 0, none⟩)) :: some (.bool false) :: some (.func (.func 48) #[] #[.pointer (some ⟨ba, 0, none⟩), .pointer (some ⟨b, 0, none⟩)]) :: some (.func (.func 49) #[] #[.pointer (some ⟨bb, 0, none⟩), .pointer (some ⟨b, 0, none⟩)]) :: some (.pointer (some ⟨bx, 0, none⟩)) :: o4 (o4 (some (.slice (some ⟨gA, 0, none⟩) a.L.length cA) :: some (.slice (some ⟨gB, 0, none⟩) a.N.length cB) :: some (.slice (some ⟨gC, 0, none⟩) a.K.length cC) :: none :: none :: o4 (o4 (o4 (some (iv s0) :: none :: some (iv s1) :: none :: none :: o4 (o4 (some (iv d) :: some (iv c) :: some (vi r) :: some (vi e) :: some (vi r) :: some (vi e) :: none :: none :: none :: o4 (o16 (o16 (o64 (o64 (o64 (o64 (some (iv a.L.length) :: some (iv d) :: none :: none :: o4 (o4 (o16 (some (iv a.N.length) :: some (iv c) :: none :: none :: none :: o4 (o4 (o16 (o16 (o16 [])))))))))))))))))))))) t') fun _ _ _ => False) := by
  have hu25 := Try.underlying25
  have hcall1 := fun (X : World) (h1 : X.heap[ba]? = some (.cells #[.int .u8 (m1 : Int)] 5 (0, 0))) (h2 : PBx X b a) => judge48 hm1 h1 h2 hd
  rw [hsd] at hcall1
  have hcall2 := fun (X : World) (h1 : X.heap[bb]? = some (.cells #[.int .u8 (m2 : Int)] 5 (0, 0))) (h2 : PBx X b a) => plot49 hm2 h1 h2 hc
  rw [htc] at hcall2
  have hcall3 := fun (X : World) (h : x.At X) => Pair_any x sd tc X h
  rw [hpx] at hcall3
  have hbw : Below W.heap.size W W.drew := (Below.refl _ W).drew
  have hT0 := hT.again.drew
  refine region_tree (c := (sub (Try.f12.body.getD .skip) [1, 1, 1, 1, 1, 1, 1, 1, 1, 1, 1, 1, 1, 1, 1, 1, 1, 1, 1, 1, 1, 1, 1, 1, 1, 1, 1, 0, 1, 0, 0, 1, 1, 0, 0, 1, 1, 1, 0, 0, 1, 1, 0, 0, 1, 1, 0])) (id := 53) (.one 0 true (.one 1 true (.one 2 true (.one 4 true (.one 5 true (.one 3 false (.one 6 false (.one 7 false (.one 8 false (.one 9 true (.one 10 true (.one 11 false (.one 12 false (.nil)))))))))))))) (Opq (regOps (sub (Try.f12.body.getD .skip) [1, 1, 1, 1, 1, 1, 1, 1, 1, 1, 1, 1, 1, 1, 1, 1, 1, 1, 1, 1, 1, 1, 1, 1, 1, 1, 1, 0, 1, 0, 0, 1, 1, 0, 0, 1, 1, 1, 0, 0, 1, 1, 0, 0, 1, 1, 0]))) rfl (by kernel_rfl) (by kernel_rfl) (by kernel_rfl) (by kernel_rfl) (by kernel_rfl) (by kernel_rfl) [0, 0, 0, 6, 0, 0, 56, 73, 128, 256, 256, 1023, 4095] (by kernel_rfl) (by kernel_rfl) (fun W' => W'.cell? ⟨bx, 0, none⟩ = some (x.sL) ∧ W'.cell? ⟨bx, 1, none⟩ = some (x.sN) ∧ W'.cell? ⟨bx, 2, none⟩ = some (x.sK)) (fun _ _ _ => False) (fun _ _ _ h => h.elim) (fun _ _ _ _ _ _ _ _ h => h.elim) fun ds Q' hQn hQp => ?_
  have F0 : Fr (none :: none :: none :: some (.pointer (some ⟨b, 0, none⟩)) :: some (.pointer (some ⟨ba, 0, none⟩)) :: some (.pointer (some ⟨bb, 0, none⟩)) :: some (.bool false) :: some (.func (.func 48) #[] #[.pointer (some ⟨ba, 0, none⟩), .pointer (some ⟨b, 0, none⟩)]) :: some (.func (.func 49) #[] #[.pointer (some ⟨bb, 0, none⟩), .pointer (some ⟨b, 0, none⟩)]) :: some (.pointer (some ⟨bx, 0, none⟩)) :: o4 (o4 (some (.slice (some ⟨gA, 0, none⟩) a.L.length cA) :: some (.slice (some ⟨gB, 0, none⟩) a.N.length cB) :: some (.slice (some ⟨gC, 0, none⟩) a.K.length cC) :: none :: none :: o4 (o4 (o4 (some (iv s0) :: none :: some (iv s1) :: none :: none :: o4 (o4 (some (iv d) :: some (iv c) :: some (vi r) :: some (vi e) :: none :: o4 (o4 (o16 (o16 (o64 (o64 (o64 (o64 (some (iv a.L.length) :: some (iv d) :: none :: none :: o4 (o4 (o16 (some (iv a.N.length) :: some (iv c) :: none :: none :: none :: o4 (o4 (o16 (o16 (o16 []))))))))))))))))))))))) ds { tmps := t, defers := ds } := Fr.start hSl
  clear hSl
  generalize ({ tmps := t, defers := ds } : Act) = a0 at *
  generalize W.drew = X0 at *
  refine tr_take t53_0t (.agg #[x.sL, x.sN, x.sK]) (by kernel_rfl) rfl rfl (fun wq hq => ?_) ⟨hT0.cell 3 rfl rfl, hT0.cell 3 rfl rfl, hT0.cell 3 rfl rfl⟩ ?_; (focus (have e9 : a0.eval (.tmp 9) = (.pointer (some ⟨bx, 0, none⟩)) := F0.ev 9 (by kernel_rfl); generalize a0.eval = ev at e9 ⊢; simp [go_sem, mkO, t53_0t, e9, hu25, hq.1, hq.2.1, hq.2.2]; done))
  refine F0.next 389 (.agg #[x.sL, x.sN, x.sK]) fun a1 F1 => ?_
  clear F0
  refine tr_take t53_1t (.func (.func 48) #[] #[.pointer (some ⟨ba, 0, none⟩), .pointer (some ⟨b, 0, none⟩)]) (by kernel_rfl) rfl rfl (fun wq hq => ?_) ⟨hT0.cell 3 rfl rfl, hT0.cell 3 rfl rfl, hT0.cell 3 rfl rfl⟩ ?_; (focus (have e7 : a1.eval (.tmp 7) = (.func (.func 48) #[] #[.pointer (some ⟨ba, 0, none⟩), .pointer (some ⟨b, 0, none⟩)]) := F1.ev 7 (by kernel_rfl); generalize a1.eval = ev at e7 ⊢; simp [go_sem, mkO, t53_1t, e7]; done))
  refine F1.next 390 (.func (.func 48) #[] #[.pointer (some ⟨ba, 0, none⟩), .pointer (some ⟨b, 0, none⟩)]) fun a2 F2 => ?_
  clear F1 a1
  refine tr_take t53_2t (iv d) (by kernel_rfl) rfl rfl (fun wq hq => ?_) ⟨hT0.cell 3 rfl rfl, hT0.cell 3 rfl rfl, hT0.cell 3 rfl rfl⟩ ?_; (focus (have e48 : a2.eval (.tmp 48) = (iv d) := F2.ev 48 (by kernel_rfl); generalize a2.eval = ev at e48 ⊢; simp [go_sem, mkO, t53_2t, e48]; done))
  refine F2.next 391 (iv d) fun a3 F3 => ?_
  clear F2 a2
  refine tr_take t53_4t (.func (.func 49) #[] #[.pointer (some ⟨bb, 0, none⟩), .pointer (some ⟨b, 0, none⟩)]) (by kernel_rfl) rfl rfl (fun wq hq => ?_) ⟨hT0.cell 3 rfl rfl, hT0.cell 3 rfl rfl, hT0.cell 3 rfl rfl⟩ ?_; (focus (have e8 : a3.eval (.tmp 8) = (.func (.func 49) #[] #[.pointer (some ⟨bb, 0, none⟩), .pointer (some ⟨b, 0, none⟩)]) := F3.ev 8 (by kernel_rfl); generalize a3.eval = ev at e8 ⊢; simp [go_sem, mkO, t53_4t, e8]; done))
  refine F3.next 393 (.func (.func 49) #[] #[.pointer (some ⟨bb, 0, none⟩), .pointer (some ⟨b, 0, none⟩)]) fun a4 F4 => ?_
  clear F3 a3
  refine tr_take t53_5t (iv c) (by kernel_rfl) rfl rfl (fun wq hq => ?_) ⟨hT0.cell 3 rfl rfl, hT0.cell 3 rfl rfl, hT0.cell 3 rfl rfl⟩ ?_; (focus (have e49 : a4.eval (.tmp 49) = (iv c) := F4.ev 49 (by kernel_rfl); generalize a4.eval = ev at e49 ⊢; simp [go_sem, mkO, t53_5t, e49]; done))
  refine F4.next 394 (iv c) fun a5 F5 => ?_
  clear F4 a4
  refine tr_call t53_3 (f := 48) (args := #[iv d, .pointer (some ⟨ba, 0, none⟩), .pointer (some ⟨b, 0, none⟩)]) (by kernel_rfl) rfl rfl ?_ ?_
  · (have e390 : a5.eval (.tmp 390) = (.func (.func 48) #[] #[.pointer (some ⟨ba, 0, none⟩), .pointer (some ⟨b, 0, none⟩)]) := F5.ev 390 (by kernel_rfl); have e391 : a5.eval (.tmp 391) = (iv d) := F5.ev 391 (by kernel_rfl); generalize a5.eval = ev at e390 e391 ⊢; simp [go_sem, mkO, t53_3, e390, e391]; done)
  refine (hcall1 X0 (hT0.get 1 rfl) ⟨hT0.get 0 rfl, ha.below hT0.below⟩).mono ?_
  rintro e X1 ⟨rfl, hy⟩
  have hT1 := hT0.step hy
  replace hbw := hbw.trans (hy.mono hbw.size)
  refine .inl ⟨_, rfl, ⟨hT1.cell 3 rfl rfl, hT1.cell 3 rfl rfl, hT1.cell 3 rfl rfl⟩, ?_⟩
  clear hy hT0
  clear X0
  refine F5.next 392 (iv sd) fun a6 F6 => ?_
  clear F5 a5
  refine tr_call t53_6 (f := 49) (args := #[iv c, .pointer (some ⟨bb, 0, none⟩), .pointer (some ⟨b, 0, none⟩)]) (by kernel_rfl) rfl rfl ?_ ?_
  · (have e393 : a6.eval (.tmp 393) = (.func (.func 49) #[] #[.pointer (some ⟨bb, 0, none⟩), .pointer (some ⟨b, 0, none⟩)]) := F6.ev 393 (by kernel_rfl); have e394 : a6.eval (.tmp 394) = (iv c) := F6.ev 394 (by kernel_rfl); generalize a6.eval = ev at e393 e394 ⊢; simp [go_sem, mkO, t53_6, e393, e394]; done)
  refine (hcall2 X1 (hT1.get 2 rfl) ⟨hT1.get 0 rfl, ha.below hT1.below⟩).mono ?_
  rintro e X2 ⟨rfl, hy⟩
  have hT2 := hT1.step hy
  replace hbw := hbw.trans (hy.mono hbw.size)
  refine .inl ⟨_, rfl, ⟨hT2.cell 3 rfl rfl, hT2.cell 3 rfl rfl, hT2.cell 3 rfl rfl⟩, ?_⟩
  clear hy hT1
  clear X1
  refine F6.next 395 (iv tc) fun a7 F7 => ?_
  clear F6 a6
  refine tr_call t53_7 (f := 19) (args := #[.agg #[x.sL, x.sN, x.sK], iv sd, iv tc]) (by kernel_rfl) rfl rfl ?_ ?_
  · (have e389 : a7.eval (.tmp 389) = (.agg #[x.sL, x.sN, x.sK]) := F7.ev 389 (by kernel_rfl); have e392 : a7.eval (.tmp 392) = (iv sd) := F7.ev 392 (by kernel_rfl); have e395 : a7.eval (.tmp 395) = (iv tc) := F7.ev 395 (by kernel_rfl); have ef : ∀ f, a7.eval (.func f) = .func (.func f) #[] #[] := fun _ => rfl; generalize a7.eval = ev at e389 e392 e395 ef ⊢; simp [go_sem, mkO, t53_7, ef, e389, e392, e395]; done)
  refine (hcall3 X2 (hxa.below hbw)).mono ?_
  rintro e X3 ⟨rfl, hy⟩
  have hT3 := hT2.step hy
  replace hbw := hbw.trans (hy.mono hbw.size)
  refine .inl ⟨_, rfl, ⟨hT3.cell 3 rfl rfl, hT3.cell 3 rfl rfl, hT3.cell 3 rfl rfl⟩, ?_⟩
  clear hy hT2
  clear X2
  refine F7.next 396 (.tuple #[vi r, vi e]) fun a8 F8 => ?_
  clear F7 a7
  refine tr_make t53_8 (.tuple #[vi r, vi e]) _ (by kernel_rfl) rfl rfl ?_ ⟨hT3.cell 3 rfl rfl, hT3.cell 3 rfl rfl, hT3.cell 3 rfl rfl⟩ ?_; (focus (have hq := (show (fun W' : World => W'.cell? ⟨bx, 0, none⟩ = some (x.sL) ∧ W'.cell? ⟨bx, 1, none⟩ = some (x.sN) ∧ W'.cell? ⟨bx, 2, none⟩ = some (x.sK)) X3 from ⟨hT3.cell 3 rfl rfl, hT3.cell 3 rfl rfl, hT3.cell 3 rfl rfl⟩); have e396 : a8.eval (.tmp 396) = (.tuple #[vi r, vi e]) := F8.ev 396 (by kernel_rfl); generalize a8.eval = ev at e396 ⊢; simp [go_sem, mkO, t53_8, e396]; done))
  refine F8.next 388 (.tuple #[vi r, vi e]) fun a9 F9 => ?_
  clear F8 a8
  refine tr_take t53_9t (vi r) (by kernel_rfl) rfl rfl (fun wq hq => ?_) ⟨hT3.cell 3 rfl rfl, hT3.cell 3 rfl rfl, hT3.cell 3 rfl rfl⟩ ?_; (focus (have e388 : a9.eval (.tmp 388) = (.tuple #[vi r, vi e]) := F9.ev 388 (by kernel_rfl); generalize a9.eval = ev at e388 ⊢; simp [go_sem, mkO, t53_9t, e388]; done))
  refine F9.next 397 (vi r) fun a10 F10 => ?_
  clear F9 a9
  refine tr_take t53_10t (vi e) (by kernel_rfl) rfl rfl (fun wq hq => ?_) ⟨hT3.cell 3 rfl rfl, hT3.cell 3 rfl rfl, hT3.cell 3 rfl rfl⟩ ?_; (focus (have e388 : a10.eval (.tmp 388) = (.tuple #[vi r, vi e]) := F10.ev 388 (by kernel_rfl); generalize a10.eval = ev at e388 ⊢; simp [go_sem, mkO, t53_10t, e388]; done))
  refine F10.next 398 (vi e) fun a11 F11 => ?_
  clear F10 a10
  refine tr_make t53_11 (vi r) _ (by kernel_rfl) rfl rfl ?_ ⟨hT3.cell 3 rfl rfl, hT3.cell 3 rfl rfl, hT3.cell 3 rfl rfl⟩ ?_; (focus (have hq := (show (fun W' : World => W'.cell? ⟨bx, 0, none⟩ = some (x.sL) ∧ W'.cell? ⟨bx, 1, none⟩ = some (x.sN) ∧ W'.cell? ⟨bx, 2, none⟩ = some (x.sK)) X3 from ⟨hT3.cell 3 rfl rfl, hT3.cell 3 rfl rfl, hT3.cell 3 rfl rfl⟩); have e397 : a11.eval (.tmp 397) = (vi r) := F11.ev 397 (by kernel_rfl); generalize a11.eval = ev at e397 ⊢; simp [go_sem, mkO, t53_11, e397]; done))
  refine F11.next 52 (vi r) fun a12 F12 => ?_
  clear F11 a11
  refine tr_make t53_12 (vi e) _ (by kernel_rfl) rfl rfl ?_ ⟨hT3.cell 3 rfl rfl, hT3.cell 3 rfl rfl, hT3.cell 3 rfl rfl⟩ ?_; (focus (have hq := (show (fun W' : World => W'.cell? ⟨bx, 0, none⟩ = some (x.sL) ∧ W'.cell? ⟨bx, 1, none⟩ = some (x.sN) ∧ W'.cell? ⟨bx, 2, none⟩ = some (x.sK)) X3 from ⟨hT3.cell 3 rfl rfl, hT3.cell 3 rfl rfl, hT3.cell 3 rfl rfl⟩); have e398 : a12.eval (.tmp 398) = (vi e) := F12.ev 398 (by kernel_rfl); generalize a12.eval = ev at e398 ⊢; simp [go_sem, mkO, t53_12, e398]; done))
  refine F12.next 53 (vi e) fun a13 F13 => ?_
  clear F12 a12
  exact F13.out hQn hT3.keep ⟨hT3.again, hbw, (F13.fin [389, 390, 391, 392, 393, 394, 395, 396, 388, 397, 398] (by kernel_rfl))⟩
def t54_0t : It := ⟨(Op.move (Operand.tmp 50)), some 399, 3, true, none⟩
def t54_1 : It := ⟨(Op.move (Operand.tmp 52)), some 400, 3, false, none⟩
def t54_2 : It := ⟨(Op.binOp BinOp.neq 3 (Operand.tmp 399) (Operand.tmp 400) 3), some 401, 4, false, none⟩
def t54_3 : It := ⟨(Op.move (Operand.tmp 401)), some 402, 4, false, none⟩
def t54_4t : It := ⟨(Op.move (Operand.tmp 51)), some 403, 28, true, some (402, false)⟩
def t54_5 : It := ⟨(Op.move (Operand.tmp 53)), some 404, 28, false, some (402, false)⟩
def t54_6 : It := ⟨(Op.binOp BinOp.neq 28 (Operand.tmp 403) (Operand.tmp 404) 28), some 405, 4, false, some (402, false)⟩
def t54_7 : It := ⟨(Op.pick (Operand.tmp 402) (Operand.const (Value.bool true)) (Operand.tmp 405)), some 406, 4, false, none⟩
def t54_8 : It := ⟨(Op.move (Operand.tmp 406)), some 407, 4, false, none⟩
def t54_9t : It := ⟨(Op.move (Operand.tmp 19)), some 408, 22, true, some (407, false)⟩
def t54_10t : It := ⟨(Op.move (Operand.tmp 49)), some 409, 3, true, some (407, false)⟩
def t54_11t : It := ⟨(Op.indexAddr 22 (Operand.tmp 408) (Operand.tmp 409)), some 410, 0, true, some (407, false)⟩
def t54_12t : It := ⟨(Op.load 3 (Operand.tmp 410)), some 411, 3, true, some (407, false)⟩
def t54_13t : It := ⟨(Op.fieldAddr 25 (Operand.tmp 3) 1), some 412, 0, true, some (407, false)⟩
def t54_14t : It := ⟨(Op.load 22 (Operand.tmp 412)), some 413, 22, true, some (407, false)⟩
def t54_15 : It := ⟨(Op.move (Operand.tmp 49)), some 414, 3, false, some (407, false)⟩
def t54_16 : It := ⟨(Op.indexAddr 22 (Operand.tmp 413) (Operand.tmp 414)), some 415, 0, false, some (407, false)⟩
def t54_17 : It := ⟨(Op.load 3 (Operand.tmp 415)), some 416, 3, false, some (407, false)⟩
def t54_18 : It := ⟨(Op.binOp BinOp.neq 3 (Operand.tmp 411) (Operand.tmp 416) 3), some 417, 4, false, some (407, false)⟩
def t54_19 : It := ⟨(Op.pick (Operand.tmp 407) (Operand.const (Value.bool true)) (Operand.tmp 417)), some 418, 4, false, none⟩
set_option maxRecDepth 100000 in
set_option maxHeartbeats 4000000 in
theorem tu_r54 {w W : World} {a x : XP} {b ba bb bx m1 m2 gA cA gB cB gC cC : Nat} {cuA cuB cuC : List Value} {s0 s1 d c : Nat} {r e v : Int} {ad : Addr} (hf : a.Fine) (ha : a.At w) (hc : c < a.N.length) (hA : a.AN = some ad) (hck : ∀ Y, Below w.heap.size w Y → Y.cell? (ad.add c) = some (vi v)) (hcB : cuB[c]? = some (vi v)) (hT : Tr w W W [(b, .cells #[a.sL, a.sN, a.sK] 25 (0, 0)), (ba, .cells #[.int .u8 (m1 : Int)] 5 (0, 0)), (bb, .cells #[.int .u8 (m2 : Int)] 5 (0, 0)), (bx, .cells #[x.sL, x.sN, x.sK] 25 (0, 0)), (gA, .cells (cuA).toArray 3 (0, 0)), (gB, .cells (cuB).toArray 3 (0, 0)), (gC, .cells (cuC).toArray 50 (0, 0))]) {t : Array Value} (hSl : Slots (none :: none :: none :: some (.pointer (some ⟨b, 0, none⟩)) :: some (.pointer (some ⟨ba, 0, none⟩)) :: some (.pointer (some ⟨bb, 0, none⟩)) :: some (.bool false) :: some (.func (.func 48) #[] #[.pointer (some ⟨ba, 0, none⟩), .pointer (some ⟨b, 0, none⟩)]) :: some (.func (.func 49) #[] #[.pointer (some ⟨bb, 0, none⟩), .pointer (some ⟨b, 0, none⟩)]) :: some (.pointer (some ⟨bx, 0, none⟩)) :: o4 (o4 (some (.slice (some ⟨gA, 0, none⟩) a.L.length cA) :: some (.slice (some ⟨gB, 0, none⟩) a.N.length cB) :: some (.slice (some ⟨gC, 0, none⟩) a.K.length cC) :: none :: none :: o4 (o4 (o4 (some (iv s0) :: none :: some (iv s1) :: none :: none :: o4 (o4 (some (iv d) :: some (iv c) :: some (vi r) :: some (vi e) :: some (vi r) :: some (vi e) :: none :: none :: none :: o4 (o16 (o16 (o64 (o64 (o64 (o64 (some (iv a.L.length) :: some (iv d) :: none :: none :: o4 (o4 (o16 (some (iv a.N.length) :: some (iv c) :: none :: none :: none :: o4 (o4 (o16 (o16 (o16 [])))))))))))))))))))))) t) :
    Exec Try.prog none (sub (Try.f12.body.getD .skip) [1, 1, 1, 1, 1, 1, 1, 1, 1, 1, 1, 1, 1, 1, 1, 1, 1, 1, 1, 1, 1, 1, 1, 1, 1, 1, 1, 0, 1, 0, 0, 1, 1, 0, 0, 1, 1, 1, 0, 0, 1, 1, 0, 0, 1, 1, 1, 0]) t W (andThen (fun t' W' => Tr w W' W' [(b, .cells #[a.sL, a.sN, a.sK] 25 (0, 0)), (ba, .cells #[.int .u8 (m1 : Int)] 5 (0, 0)), (bb, .cells #[.int .u8 (m2 : Int)] 5 (0, 0)), (bx, .cells #[x.sL, x.sN, x.sK] 25 (0, 0)), (gA, .cells (cuA).toArray 3 (0, 0)), (gB, .cells (cuB).toArray 3 (0, 0)), (gC, .cells (cuC).toArray 50 (0, 0))] ∧ Below W.heap.size W W' ∧ Slots (none :: none :: none :: some (.pointer (some ⟨b, 0, none⟩)) :: some (.pointer (some ⟨ba, 0, none⟩)) :: some (.pointer (some ⟨bb, 0, none⟩)) :: some (.bool false) :: some (.func (.func 48) #[] #[.pointer (some ⟨ba, 0, none⟩), .pointer (some ⟨b, 0, none⟩)]) :: some (.func (.func 49) #[] #[.pointer (some ⟨bb, 0, none⟩), .pointer (some ⟨b, 0, none⟩)]) :: some (.pointer (some ⟨bx, 0, none⟩)) :: o4 (o4 (some (.slice (some ⟨gA, 0, none⟩) a.L.length cA) :: some (.slice (some ⟨gB, 0, none⟩) a.N.length cB) :: some (.slice (some ⟨gC, 0, none⟩) a.K.length cC) :: none :: none :: o4 (o4 (o4 (some (iv s0) :: none :: some (iv s1) :: none :: none :: o4 (o4 (some (iv d) :: o4 (o4 (o4 (o16 (o16 (o64 (o64 (o64 (o64 (some (iv a.L.length) :: some (iv d) :: none :: none :: o4 (o4 (o16 (some (iv a.N.length) :: some (iv c) :: none :: none :: none :: o4 (o16 (o16 (some (.bool false) :: none :: none :: none :: o16 []))))))))))))))))))))))) t') fun _ _ _ => False) := by
  have hu25 := Try.underlying25
  have hu22 := Try.underlying22
  have hcI : (c : Int) < a.N.length := by omega
  have hbw : Below W.heap.size W W.drew := (Below.refl _ W).drew
  have hT0 := hT.again.drew
  refine region_tree (c := (sub (Try.f12.body.getD .skip) [1, 1, 1, 1, 1, 1, 1, 1, 1, 1, 1, 1, 1, 1, 1, 1, 1, 1, 1, 1, 1, 1, 1, 1, 1, 1, 1, 0, 1, 0, 0, 1, 1, 0, 0, 1, 1, 1, 0, 0, 1, 1, 0, 0, 1, 1, 1, 0])) (id := 54) (.one 0 true (.one 1 false (.one 2 false (.one 3 false (.one 4 true (.one 5 false (.one 6 false (.one 7 false (.one 8 false (.one 9 true (.one 10 true (.one 11 true (.one 12 true (.one 13 true (.one 14 true (.one 15 false (.one 16 false (.one 17 false (.one 18 false (.one 19 false (.nil))))))))))))))))))))) (Opq (regOps (sub (Try.f12.body.getD .skip) [1, 1, 1, 1, 1, 1, 1, 1, 1, 1, 1, 1, 1, 1, 1, 1, 1, 1, 1, 1, 1, 1, 1, 1, 1, 1, 1, 0, 1, 0, 0, 1, 1, 0, 0, 1, 1, 1, 0, 0, 1, 1, 0, 0, 1, 1, 1, 0]))) rfl (by kernel_rfl) (by kernel_rfl) (by kernel_rfl) (by kernel_rfl) (by kernel_rfl) (by kernel_rfl) [0, 0, 3, 4, 8, 8, 56, 72, 136, 256, 256, 1792, 2304, 256, 8448, 256, 49408, 65792, 135424, 262400] (by kernel_rfl) (by kernel_rfl) (fun W' => W'.cell? ⟨b, 1, none⟩ = some (a.sN) ∧ W'.cell? ⟨gB, c, none⟩ = some (vi v) ∧ W'.cell? (ad.add c) = some (vi v)) (fun _ _ _ => False) (fun _ _ _ h => h.elim) (fun _ _ _ _ _ _ _ _ h => h.elim) fun ds Q' hQn hQp => ?_
  have F0 : Fr (none :: none :: none :: some (.pointer (some ⟨b, 0, none⟩)) :: some (.pointer (some ⟨ba, 0, none⟩)) :: some (.pointer (some ⟨bb, 0, none⟩)) :: some (.bool false) :: some (.func (.func 48) #[] #[.pointer (some ⟨ba, 0, none⟩), .pointer (some ⟨b, 0, none⟩)]) :: some (.func (.func 49) #[] #[.pointer (some ⟨bb, 0, none⟩), .pointer (some ⟨b, 0, none⟩)]) :: some (.pointer (some ⟨bx, 0, none⟩)) :: o4 (o4 (some (.slice (some ⟨gA, 0, none⟩) a.L.length cA) :: some (.slice (some ⟨gB, 0, none⟩) a.N.length cB) :: some (.slice (some ⟨gC, 0, none⟩) a.K.length cC) :: none :: none :: o4 (o4 (o4 (some (iv s0) :: none :: some (iv s1) :: none :: none :: o4 (o4 (some (iv d) :: some (iv c) :: some (vi r) :: some (vi e) :: some (vi r) :: some (vi e) :: none :: none :: none :: o4 (o16 (o16 (o64 (o64 (o64 (o64 (some (iv a.L.length) :: some (iv d) :: none :: none :: o4 (o4 (o16 (some (iv a.N.length) :: some (iv c) :: none :: none :: none :: o4 (o4 (o16 (o16 (o16 [])))))))))))))))))))))) ds { tmps := t, defers := ds } := Fr.start hSl
  clear hSl
  generalize ({ tmps := t, defers := ds } : Act) = a0 at *
  generalize W.drew = X0 at *
  refine tr_take t54_0t (vi r) (by kernel_rfl) rfl rfl (fun wq hq => ?_) ⟨hT0.cell 0 rfl rfl, hT0.cell 5 rfl hcB, (hck _ hT0.below)⟩ ?_; (focus (have e50 : a0.eval (.tmp 50) = (vi r) := F0.ev 50 (by kernel_rfl); generalize a0.eval = ev at e50 ⊢; simp [go_sem, mkO, t54_0t, e50]; done))
  refine F0.next 399 (vi r) fun a1 F1 => ?_
  clear F0
  refine tr_make t54_1 (vi r) _ (by kernel_rfl) rfl rfl ?_ ⟨hT0.cell 0 rfl rfl, hT0.cell 5 rfl hcB, (hck _ hT0.below)⟩ ?_; (focus (have hq := (show (fun W' : World => W'.cell? ⟨b, 1, none⟩ = some (a.sN) ∧ W'.cell? ⟨gB, c, none⟩ = some (vi v) ∧ W'.cell? (ad.add c) = some (vi v)) X0 from ⟨hT0.cell 0 rfl rfl, hT0.cell 5 rfl hcB, (hck _ hT0.below)⟩); have e52 : a1.eval (.tmp 52) = (vi r) := F1.ev 52 (by kernel_rfl); generalize a1.eval = ev at e52 ⊢; simp [go_sem, mkO, t54_1, e52]; done))
  refine F1.next 400 (vi r) fun a2 F2 => ?_
  clear F1 a1
  refine tr_make t54_2 (.bool false) _ (by kernel_rfl) rfl rfl ?_ ⟨hT0.cell 0 rfl rfl, hT0.cell 5 rfl hcB, (hck _ hT0.below)⟩ ?_; (focus (have hq := (show (fun W' : World => W'.cell? ⟨b, 1, none⟩ = some (a.sN) ∧ W'.cell? ⟨gB, c, none⟩ = some (vi v) ∧ W'.cell? (ad.add c) = some (vi v)) X0 from ⟨hT0.cell 0 rfl rfl, hT0.cell 5 rfl hcB, (hck _ hT0.below)⟩); have e399 : a2.eval (.tmp 399) = (vi r) := F2.ev 399 (by kernel_rfl); have e400 : a2.eval (.tmp 400) = (vi r) := F2.ev 400 (by kernel_rfl); generalize a2.eval = ev at e399 e400 ⊢; simp [go_sem, mkO, t54_2, e399, e400]; done))
  refine F2.next 401 (.bool false) fun a3 F3 => ?_
  clear F2 a2
  refine tr_make t54_3 (.bool false) _ (by kernel_rfl) rfl rfl ?_ ⟨hT0.cell 0 rfl rfl, hT0.cell 5 rfl hcB, (hck _ hT0.below)⟩ ?_; (focus (have hq := (show (fun W' : World => W'.cell? ⟨b, 1, none⟩ = some (a.sN) ∧ W'.cell? ⟨gB, c, none⟩ = some (vi v) ∧ W'.cell? (ad.add c) = some (vi v)) X0 from ⟨hT0.cell 0 rfl rfl, hT0.cell 5 rfl hcB, (hck _ hT0.below)⟩); have e401 : a3.eval (.tmp 401) = (.bool false) := F3.ev 401 (by kernel_rfl); generalize a3.eval = ev at e401 ⊢; simp [go_sem, mkO, t54_3, e401]; done))
  refine F3.next 402 (.bool false) fun a4 F4 => ?_
  clear F3 a3
  refine tr_take t54_4t (vi e) (by kernel_rfl) rfl (F4.gd (by kernel_rfl)) (fun wq hq => ?_) ⟨hT0.cell 0 rfl rfl, hT0.cell 5 rfl hcB, (hck _ hT0.below)⟩ ?_; (focus (have e51 : a4.eval (.tmp 51) = (vi e) := F4.ev 51 (by kernel_rfl); generalize a4.eval = ev at e51 ⊢; simp [go_sem, mkO, t54_4t, e51]; done))
  refine F4.next 403 (vi e) fun a5 F5 => ?_
  clear F4 a4
  refine tr_make t54_5 (vi e) _ (by kernel_rfl) rfl (F5.gd (by kernel_rfl)) ?_ ⟨hT0.cell 0 rfl rfl, hT0.cell 5 rfl hcB, (hck _ hT0.below)⟩ ?_; (focus (have hq := (show (fun W' : World => W'.cell? ⟨b, 1, none⟩ = some (a.sN) ∧ W'.cell? ⟨gB, c, none⟩ = some (vi v) ∧ W'.cell? (ad.add c) = some (vi v)) X0 from ⟨hT0.cell 0 rfl rfl, hT0.cell 5 rfl hcB, (hck _ hT0.below)⟩); have e53 : a5.eval (.tmp 53) = (vi e) := F5.ev 53 (by kernel_rfl); generalize a5.eval = ev at e53 ⊢; simp [go_sem, mkO, t54_5, e53]; done))
  refine F5.next 404 (vi e) fun a6 F6 => ?_
  clear F5 a5
  refine tr_make t54_6 (.bool false) _ (by kernel_rfl) rfl (F6.gd (by kernel_rfl)) ?_ ⟨hT0.cell 0 rfl rfl, hT0.cell 5 rfl hcB, (hck _ hT0.below)⟩ ?_; (focus (have hq := (show (fun W' : World => W'.cell? ⟨b, 1, none⟩ = some (a.sN) ∧ W'.cell? ⟨gB, c, none⟩ = some (vi v) ∧ W'.cell? (ad.add c) = some (vi v)) X0 from ⟨hT0.cell 0 rfl rfl, hT0.cell 5 rfl hcB, (hck _ hT0.below)⟩); have e403 : a6.eval (.tmp 403) = (vi e) := F6.ev 403 (by kernel_rfl); have e404 : a6.eval (.tmp 404) = (vi e) := F6.ev 404 (by kernel_rfl); generalize a6.eval = ev at e403 e404 ⊢; simp [go_sem, mkO, t54_6, e403, e404]; done))
  refine F6.next 405 (.bool false) fun a7 F7 => ?_
  clear F6 a6
  refine tr_make t54_7 (.bool false) _ (by kernel_rfl) rfl rfl ?_ ⟨hT0.cell 0 rfl rfl, hT0.cell 5 rfl hcB, (hck _ hT0.below)⟩ ?_; (focus (have hq := (show (fun W' : World => W'.cell? ⟨b, 1, none⟩ = some (a.sN) ∧ W'.cell? ⟨gB, c, none⟩ = some (vi v) ∧ W'.cell? (ad.add c) = some (vi v)) X0 from ⟨hT0.cell 0 rfl rfl, hT0.cell 5 rfl hcB, (hck _ hT0.below)⟩); have e402 : a7.eval (.tmp 402) = (.bool false) := F7.ev 402 (by kernel_rfl); have e405 : a7.eval (.tmp 405) = (.bool false) := F7.ev 405 (by kernel_rfl); have ec : ∀ c, a7.eval (.const c) = c := fun _ => rfl; generalize a7.eval = ev at e402 e405 ec ⊢; simp [go_sem, mkO, t54_7, ec, e402, e405]; done))
  refine F7.next 406 (.bool false) fun a8 F8 => ?_
  clear F7 a7
  refine tr_make t54_8 (.bool false) _ (by kernel_rfl) rfl rfl ?_ ⟨hT0.cell 0 rfl rfl, hT0.cell 5 rfl hcB, (hck _ hT0.below)⟩ ?_; (focus (have hq := (show (fun W' : World => W'.cell? ⟨b, 1, none⟩ = some (a.sN) ∧ W'.cell? ⟨gB, c, none⟩ = some (vi v) ∧ W'.cell? (ad.add c) = some (vi v)) X0 from ⟨hT0.cell 0 rfl rfl, hT0.cell 5 rfl hcB, (hck _ hT0.below)⟩); have e406 : a8.eval (.tmp 406) = (.bool false) := F8.ev 406 (by kernel_rfl); generalize a8.eval = ev at e406 ⊢; simp [go_sem, mkO, t54_8, e406]; done))
  refine F8.next 407 (.bool false) fun a9 F9 => ?_
  clear F8 a8
  refine tr_take t54_9t (.slice (some ⟨gB, 0, none⟩) a.N.length cB) (by kernel_rfl) rfl (F9.gd (by kernel_rfl)) (fun wq hq => ?_) ⟨hT0.cell 0 rfl rfl, hT0.cell 5 rfl hcB, (hck _ hT0.below)⟩ ?_; (focus (have e19 : a9.eval (.tmp 19) = (.slice (some ⟨gB, 0, none⟩) a.N.length cB) := F9.ev 19 (by kernel_rfl); generalize a9.eval = ev at e19 ⊢; simp [go_sem, mkO, t54_9t, e19]; done))
  refine F9.next 408 (.slice (some ⟨gB, 0, none⟩) a.N.length cB) fun a10 F10 => ?_
  clear F9 a9
  refine tr_take t54_10t (iv c) (by kernel_rfl) rfl (F10.gd (by kernel_rfl)) (fun wq hq => ?_) ⟨hT0.cell 0 rfl rfl, hT0.cell 5 rfl hcB, (hck _ hT0.below)⟩ ?_; (focus (have e49 : a10.eval (.tmp 49) = (iv c) := F10.ev 49 (by kernel_rfl); generalize a10.eval = ev at e49 ⊢; simp [go_sem, mkO, t54_10t, e49]; done))
  refine F10.next 409 (iv c) fun a11 F11 => ?_
  clear F10 a10
  refine tr_take t54_11t (.pointer (some ⟨gB, c, none⟩)) (by kernel_rfl) rfl (F11.gd (by kernel_rfl)) (fun wq hq => ?_) ⟨hT0.cell 0 rfl rfl, hT0.cell 5 rfl hcB, (hck _ hT0.below)⟩ ?_; (focus (have e408 : a11.eval (.tmp 408) = (.slice (some ⟨gB, 0, none⟩) a.N.length cB) := F11.ev 408 (by kernel_rfl); have e409 : a11.eval (.tmp 409) = (iv c) := F11.ev 409 (by kernel_rfl); generalize a11.eval = ev at e408 e409 ⊢; simp [go_sem, mkO, t54_11t, e408, e409, hu22, hcI]; done))
  refine F11.next 410 (.pointer (some ⟨gB, c, none⟩)) fun a12 F12 => ?_
  clear F11 a11
  refine tr_take t54_12t (vi v) (by kernel_rfl) rfl (F12.gd (by kernel_rfl)) (fun wq hq => ?_) ⟨hT0.cell 0 rfl rfl, hT0.cell 5 rfl hcB, (hck _ hT0.below)⟩ ?_; (focus (have e410 : a12.eval (.tmp 410) = (.pointer (some ⟨gB, c, none⟩)) := F12.ev 410 (by kernel_rfl); generalize a12.eval = ev at e410 ⊢; simp [go_sem, mkO, t54_12t, e410, hq.2.1]; done))
  refine F12.next 411 (vi v) fun a13 F13 => ?_
  clear F12 a12
  refine tr_take t54_13t (.pointer (some ⟨b, 1, none⟩)) (by kernel_rfl) rfl (F13.gd (by kernel_rfl)) (fun wq hq => ?_) ⟨hT0.cell 0 rfl rfl, hT0.cell 5 rfl hcB, (hck _ hT0.below)⟩ ?_; (focus (have e3 : a13.eval (.tmp 3) = (.pointer (some ⟨b, 0, none⟩)) := F13.ev 3 (by kernel_rfl); generalize a13.eval = ev at e3 ⊢; simp [go_sem, mkO, t54_13t, e3, hu25]; done))
  refine F13.next 412 (.pointer (some ⟨b, 1, none⟩)) fun a14 F14 => ?_
  clear F13 a13
  refine tr_take t54_14t (.slice (some ad) a.N.length a.cN) (by kernel_rfl) rfl (F14.gd (by kernel_rfl)) (fun wq hq => ?_) ⟨hT0.cell 0 rfl rfl, hT0.cell 5 rfl hcB, (hck _ hT0.below)⟩ ?_; (focus (have e412 : a14.eval (.tmp 412) = (.pointer (some ⟨b, 1, none⟩)) := F14.ev 412 (by kernel_rfl); generalize a14.eval = ev at e412 ⊢; simp [go_sem, mkO, t54_14t, e412, hq.1, XP.sN, hA]; done))
  refine F14.next 413 (.slice (some ad) a.N.length a.cN) fun a15 F15 => ?_
  clear F14 a14
  refine tr_make t54_15 (iv c) _ (by kernel_rfl) rfl (F15.gd (by kernel_rfl)) ?_ ⟨hT0.cell 0 rfl rfl, hT0.cell 5 rfl hcB, (hck _ hT0.below)⟩ ?_; (focus (have hq := (show (fun W' : World => W'.cell? ⟨b, 1, none⟩ = some (a.sN) ∧ W'.cell? ⟨gB, c, none⟩ = some (vi v) ∧ W'.cell? (ad.add c) = some (vi v)) X0 from ⟨hT0.cell 0 rfl rfl, hT0.cell 5 rfl hcB, (hck _ hT0.below)⟩); have e49 : a15.eval (.tmp 49) = (iv c) := F15.ev 49 (by kernel_rfl); generalize a15.eval = ev at e49 ⊢; simp [go_sem, mkO, t54_15, e49]; done))
  refine F15.next 414 (iv c) fun a16 F16 => ?_
  clear F15 a15
  refine tr_make t54_16 (.pointer (some (ad.add c))) _ (by kernel_rfl) rfl (F16.gd (by kernel_rfl)) ?_ ⟨hT0.cell 0 rfl rfl, hT0.cell 5 rfl hcB, (hck _ hT0.below)⟩ ?_; (focus (have hq := (show (fun W' : World => W'.cell? ⟨b, 1, none⟩ = some (a.sN) ∧ W'.cell? ⟨gB, c, none⟩ = some (vi v) ∧ W'.cell? (ad.add c) = some (vi v)) X0 from ⟨hT0.cell 0 rfl rfl, hT0.cell 5 rfl hcB, (hck _ hT0.below)⟩); have e413 : a16.eval (.tmp 413) = (.slice (some ad) a.N.length a.cN) := F16.ev 413 (by kernel_rfl); have e414 : a16.eval (.tmp 414) = (iv c) := F16.ev 414 (by kernel_rfl); generalize a16.eval = ev at e413 e414 ⊢; simp [go_sem, mkO, t54_16, e413, e414, hu22, hcI]; done))
  refine F16.next 415 (.pointer (some (ad.add c))) fun a17 F17 => ?_
  clear F16 a16
  refine tr_make t54_17 (vi v) _ (by kernel_rfl) rfl (F17.gd (by kernel_rfl)) ?_ ⟨hT0.cell 0 rfl rfl, hT0.cell 5 rfl hcB, (hck _ hT0.below)⟩ ?_; (focus (have hq := (show (fun W' : World => W'.cell? ⟨b, 1, none⟩ = some (a.sN) ∧ W'.cell? ⟨gB, c, none⟩ = some (vi v) ∧ W'.cell? (ad.add c) = some (vi v)) X0 from ⟨hT0.cell 0 rfl rfl, hT0.cell 5 rfl hcB, (hck _ hT0.below)⟩); have e415 : a17.eval (.tmp 415) = (.pointer (some (ad.add c))) := F17.ev 415 (by kernel_rfl); generalize a17.eval = ev at e415 ⊢; simp [go_sem, mkO, t54_17, e415, hq.2.2]; done))
  refine F17.next 416 (vi v) fun a18 F18 => ?_
  clear F17 a17
  refine tr_make t54_18 (.bool false) _ (by kernel_rfl) rfl (F18.gd (by kernel_rfl)) ?_ ⟨hT0.cell 0 rfl rfl, hT0.cell 5 rfl hcB, (hck _ hT0.below)⟩ ?_; (focus (have hq := (show (fun W' : World => W'.cell? ⟨b, 1, none⟩ = some (a.sN) ∧ W'.cell? ⟨gB, c, none⟩ = some (vi v) ∧ W'.cell? (ad.add c) = some (vi v)) X0 from ⟨hT0.cell 0 rfl rfl, hT0.cell 5 rfl hcB, (hck _ hT0.below)⟩); have e411 : a18.eval (.tmp 411) = (vi v) := F18.ev 411 (by kernel_rfl); have e416 : a18.eval (.tmp 416) = (vi v) := F18.ev 416 (by kernel_rfl); generalize a18.eval = ev at e411 e416 ⊢; simp [go_sem, mkO, t54_18, e411, e416]; done))
  refine F18.next 417 (.bool false) fun a19 F19 => ?_
  clear F18 a18
  refine tr_make t54_19 (.bool false) _ (by kernel_rfl) rfl rfl ?_ ⟨hT0.cell 0 rfl rfl, hT0.cell 5 rfl hcB, (hck _ hT0.below)⟩ ?_; (focus (have hq := (show (fun W' : World => W'.cell? ⟨b, 1, none⟩ = some (a.sN) ∧ W'.cell? ⟨gB, c, none⟩ = some (vi v) ∧ W'.cell? (ad.add c) = some (vi v)) X0 from ⟨hT0.cell 0 rfl rfl, hT0.cell 5 rfl hcB, (hck _ hT0.below)⟩); have e407 : a19.eval (.tmp 407) = (.bool false) := F19.ev 407 (by kernel_rfl); have e417 : a19.eval (.tmp 417) = (.bool false) := F19.ev 417 (by kernel_rfl); have ec : ∀ c, a19.eval (.const c) = c := fun _ => rfl; generalize a19.eval = ev at e407 e417 ec ⊢; simp [go_sem, mkO, t54_19, ec, e407, e417]; done))
  refine F19.next 418 (.bool false) fun a20 F20 => ?_
  clear F19 a19
  exact F20.out hQn hT0.keep ⟨hT0.again, hbw, (F20.fin [399, 400, 401, 402, 403, 404, 405, 406, 407, 408, 409, 410, 411, 412, 413, 414, 415, 416, 417, 49, 50, 51, 52, 53] (by kernel_rfl))⟩
end Go.Proofs.Ytbdmmikflkpmpaa
end

section
namespace Go.Proofs.Ytbdmmikflkpmpaa
open Go.RowKit Go.TL Go.Shelf Go.Pn
def TqW (w : World) (a x : XP) (b ba bb bx m1 m2 gA gB gC : Nat) (cuA cuB cuC : List Value) (W : World) : Prop := Tr w W W [(b, .cells #[a.sL, a.sN, a.sK] 25 (0, 0)), (ba, .cells #[.int .u8 (m1 : Int)] 5 (0, 0)), (bb, .cells #[.int .u8 (m2 : Int)] 5 (0, 0)), (bx, .cells #[x.sL, x.sN, x.sK] 25 (0, 0)), (gA, .cells (cuA).toArray 3 (0, 0)), (gB, .cells (cuB).toArray 3 (0, 0)), (gC, .cells (cuC).toArray 50 (0, 0))] ∧ x.At W
set_option maxRecDepth 100000 in
set_option maxHeartbeats 4000000 in
theorem tu_plot {w : World} {a x : XP} {b ba bb bx m1 m2 gA cA gB cB gC cC : Nat} {cuA cuB cuC : List Value} {s0 s1 : Nat} (hf : a.Fine) (ha : a.At w) (hm1 : m1 < 256) (hm2 : m2 < 256) (hpA : Pre cuA (a.L.map vi)) (hpB : Pre cuB (a.N.map vi)) (hpC : Pre cuC (flatV a.s3.2.2)) (hpb : ∀ j, j < a.L.length → s0.testBit j = s1.testBit ((j + m1) % a.L.length)) (hs0 : s0 < 1024) (hs1 : s1 < 1024) (hpa : ∀ p j, p < a.N.length → j < a.L.length → pairA a j p = pairA x ((j + m1) % a.L.length : Nat) ((p + m2) % a.N.length : Nat)) {d c : Nat} (hd : d < a.L.length) (hc : c < a.N.length) {W : World} (hV : TqW w a x b ba bb bx m1 m2 gA gB gC cuA cuB cuC W) {t : Array Value} (hSl : Slots (none :: none :: none :: some (.pointer (some ⟨b, 0, none⟩)) :: some (.pointer (some ⟨ba, 0, none⟩)) :: some (.pointer (some ⟨bb, 0, none⟩)) :: some (.bool false) :: some (.func (.func 48) #[] #[.pointer (some ⟨ba, 0, none⟩), .pointer (some ⟨b, 0, none⟩)]) :: some (.func (.func 49) #[] #[.pointer (some ⟨bb, 0, none⟩), .pointer (some ⟨b, 0, none⟩)]) :: some (.pointer (some ⟨bx, 0, none⟩)) :: o4 (o4 (some (.slice (some ⟨gA, 0, none⟩) a.L.length cA) :: some (.slice (some ⟨gB, 0, none⟩) a.N.length cB) :: some (.slice (some ⟨gC, 0, none⟩) a.K.length cC) :: none :: none :: o4 (o4 (o4 (some (iv s0) :: none :: some (iv s1) :: none :: none :: o4 (o4 (some (iv d) :: o4 (o4 (o4 (o16 (o16 (o64 (o64 (o64 (o64 (some (iv a.L.length) :: some (iv d) :: none :: none :: o4 (o4 (o16 (some (iv a.N.length) :: some (iv c) :: none :: none :: none :: o4 (o4 (o16 (o16 (o16 [])))))))))))))))))))))))) t) :
    Exec Try.prog none (sub (Try.f12.body.getD .skip) [1, 1, 1, 1, 1, 1, 1, 1, 1, 1, 1, 1, 1, 1, 1, 1, 1, 1, 1, 1, 1, 1, 1, 1, 1, 1, 1, 0, 1, 0, 0, 1, 1, 0, 0, 1, 1, 1, 0, 0, 1, 1, 0, 0]) t W (andThen (fun t' W' => TqW w a x b ba bb bx m1 m2 gA gB gC cuA cuB cuC W' ∧ Slots (none :: none :: none :: some (.pointer (some ⟨b, 0, none⟩)) :: some (.pointer (some ⟨ba, 0, none⟩)) :: some (.pointer (some ⟨bb, 0, none⟩)) :: some (.bool false) :: some (.func (.func 48) #[] #[.pointer (some ⟨ba, 0, none⟩), .pointer (some ⟨b, 0, none⟩)]) :: some (.func (.func 49) #[] #[.pointer (some ⟨bb, 0, none⟩), .pointer (some ⟨b, 0, none⟩)]) :: some (.pointer (some ⟨bx, 0, none⟩)) :: o4 (o4 (some (.slice (some ⟨gA, 0, none⟩) a.L.length cA) :: some (.slice (some ⟨gB, 0, none⟩) a.N.length cB) :: some (.slice (some ⟨gC, 0, none⟩) a.K.length cC) :: none :: none :: o4 (o4 (o4 (some (iv s0) :: none :: some (iv s1) :: none :: none :: o4 (o4 (some (iv d) :: o4 (o4 (o4 (o16 (o16 (o64 (o64 (o64 (o64 (some (iv a.L.length) :: some (iv d) :: none :: none :: o4 (o4 (o16 (some (iv a.N.length) :: some (iv c) :: none :: none :: none :: o4 (o4 (o16 (o16 (o16 [])))))))))))))))))))))))) t') fun _ _ _ => False) := by
  have hu25 := Try.underlying25
  have hj6 := hf.j
  have hp6 := hf.p
  obtain ⟨hT, hxa⟩ := hV
  obtain ⟨r, e, hre⟩ : ∃ r e, pairA a d c = (r, e) := ⟨_, _, rfl⟩
  have hrx := hpa c d hc hd
  rw [hre] at hrx
  have c0 := hT.cell 0 rfl (j := 0) rfl
  have c1 := hT.cell 0 rfl (j := 1) rfl
  have c2 := hT.cell 0 rfl (j := 2) rfl
  have hg := getDJ a.N hc
  obtain ⟨ad, hA, _⟩ := ha.n c (vi (a.N.getD c 0)) (by rw [List.getElem?_map, hg]; rfl)
  have hck : ∀ Y, Below w.heap.size w Y → Y.cell? (ad.add c) = some (vi (a.N.getD c 0)) := fun Y hY => by
    obtain ⟨_, e, h⟩ := (ha.below hY).n c (vi (a.N.getD c 0)) (by rw [List.getElem?_map, hg]; rfl)
    rw [hA] at e
    cases e
    exact h
  have hcB : cuB[c]? = some (vi (a.N.getD c 0)) := hpB c _ (by rw [List.getElem?_map, hg]; rfl)
  have hcall := Pair_any a d c W (ha.below hT.below)
  rw [hre] at hcall
  obtain ⟨y, hy⟩ := Slots.open_ hSl; simp only [fill, Nat.reduceAdd] at hy; subst hy; clear hSl
  show Exec _ _ (Code.seq _ (Code.seq _ _)) _ _ _
  refine exec_seq (exec_region_o fun ds => ?_)
  gi_wp2
  refine eq_mk (Keep.refl _) ?_
  show Exec _ _ (Code.seq _ _) _ _ _
  refine exec_seq (exec_region_o fun ds => ?_)
  gi_wp2_with fail
  refine ⟨trivial, rfl, (callsIn_wide.2 hcall).mono ?_⟩
  rintro e1 W1 ⟨rfl, hy1⟩
  have hT1 := hT.again.step hy1
  have hxa1 := hxa.below hy1
  have hK1 := hT1.keep
  replace hT1 := hT1.again
  clear hcall hy1 c0 c1 c2 hT hxa
  gi_wp2
  refine eq_mk hK1 ?_
  clear hK1
  clear W
  show Exec _ _ (Code.seq _ (Code.seq _ _)) _ _ _
  refine exec_seq ((tu_r53 (c := c) (cA := cA) (cB := cB) (cC := cC) (s0 := s0) (s1 := s1) hf ha hxa1 hm1 hm2 hd hc rfl rfl hrx.symm hT1.again (by simp [Slots, Fits])).mono ?_)
  clear y
  intro e2 t W2 hh
  obtain ⟨rfl, hT2, hb2, hSl⟩ := only_normal hh
  have hxa2 := hxa1.below hb2
  clear hh hT1 hxa1 hb2
  clear W1
  show Exec _ _ (Code.seq _ _) _ _ _
  refine exec_seq ((tu_r54 hf ha hc hA hck hcB hT2 hSl).mono ?_)
  clear hSl
  clear t
  intro e2 t W3 hh
  obtain ⟨rfl, hT3, hb3, hSl⟩ := only_normal hh
  have hxa3 := hxa2.below hb3
  clear hh hT2 hxa2 hb3
  clear W2
  obtain ⟨y, hy⟩ := Slots.open_ hSl; simp only [fill, Nat.reduceAdd] at hy; subst hy; clear hSl
  show Exec _ _ (Code.cond _ _ _) _ _ _
  refine exec_cond (b := false) rfl (fun h => by cases h) (fun _ => exec_skip ?_)
  exact ⟨⟨hT3, hxa3⟩, by simp [Slots, Fits]⟩
def TpI (w : World) (a x : XP) (b ba bb bx m1 m2 gA gB gC : Nat) (cuA cuB cuC : List Value) (cA cB cC s0 s1 d : Nat) (n : Nat) (t : Array Value) (W : World) : Prop := ∃ c : Nat, c ≤ a.N.length ∧ n = a.N.length - c ∧ TqW w a x b ba bb bx m1 m2 gA gB gC cuA cuB cuC W ∧ Slots (none :: none :: none :: some (.pointer (some ⟨b, 0, none⟩)) :: some (.pointer (some ⟨ba, 0, none⟩)) :: some (.pointer (some ⟨bb, 0, none⟩)) :: some (.bool false) :: some (.func (.func 48) #[] #[.pointer (some ⟨ba, 0, none⟩), .pointer (some ⟨b, 0, none⟩)]) :: some (.func (.func 49) #[] #[.pointer (some ⟨bb, 0, none⟩), .pointer (some ⟨b, 0, none⟩)]) :: some (.pointer (some ⟨bx, 0, none⟩)) :: o4 (o4 (some (.slice (some ⟨gA, 0, none⟩) a.L.length cA) :: some (.slice (some ⟨gB, 0, none⟩) a.N.length cB) :: some (.slice (some ⟨gC, 0, none⟩) a.K.length cC) :: none :: none :: o4 (o4 (o4 (some (iv s0) :: none :: some (iv s1) :: none :: none :: o4 (o4 (some (iv d) :: o4 (o4 (o4 (o16 (o16 (o64 (o64 (o64 (o64 (some (iv a.L.length) :: some (iv d) :: none :: none :: o4 (o4 (o16 (some (iv a.N.length) :: some (iv c) :: none :: none :: none :: o4 (o4 (o16 (o16 (o16 [])))))))))))))))))))))))) t
set_option maxRecDepth 100000 in
set_option maxHeartbeats 4000000 in
theorem tu_plots {w : World} {a x : XP} {b ba bb bx m1 m2 gA cA gB cB gC cC : Nat} {cuA cuB cuC : List Value} {s0 s1 : Nat} (hf : a.Fine) (ha : a.At w) (hm1 : m1 < 256) (hm2 : m2 < 256) (hpA : Pre cuA (a.L.map vi)) (hpB : Pre cuB (a.N.map vi)) (hpC : Pre cuC (flatV a.s3.2.2)) (hpb : ∀ j, j < a.L.length → s0.testBit j = s1.testBit ((j + m1) % a.L.length)) (hs0 : s0 < 1024) (hs1 : s1 < 1024) (hpa : ∀ p j, p < a.N.length → j < a.L.length → pairA a j p = pairA x ((j + m1) % a.L.length : Nat) ((p + m2) % a.N.length : Nat)) {d : Nat} (hd : d < a.L.length) {W : World} (hV : TqW w a x b ba bb bx m1 m2 gA gB gC cuA cuB cuC W) {t : Array Value} (hSl : Slots (none :: none :: none :: some (.pointer (some ⟨b, 0, none⟩)) :: some (.pointer (some ⟨ba, 0, none⟩)) :: some (.pointer (some ⟨bb, 0, none⟩)) :: some (.bool false) :: some (.func (.func 48) #[] #[.pointer (some ⟨ba, 0, none⟩), .pointer (some ⟨b, 0, none⟩)]) :: some (.func (.func 49) #[] #[.pointer (some ⟨bb, 0, none⟩), .pointer (some ⟨b, 0, none⟩)]) :: some (.pointer (some ⟨bx, 0, none⟩)) :: o4 (o4 (some (.slice (some ⟨gA, 0, none⟩) a.L.length cA) :: some (.slice (some ⟨gB, 0, none⟩) a.N.length cB) :: some (.slice (some ⟨gC, 0, none⟩) a.K.length cC) :: none :: none :: o4 (o4 (o4 (some (iv s0) :: none :: some (iv s1) :: none :: none :: o4 (o4 (some (iv d) :: o4 (o4 (o4 (o16 (o16 (o64 (o64 (o64 (o64 (some (iv a.L.length) :: some (iv d) :: none :: none :: none :: o4 (o16 (o64 []))))))))))))))))))) t) :
    Exec Try.prog none (sub (Try.f12.body.getD .skip) [1, 1, 1, 1, 1, 1, 1, 1, 1, 1, 1, 1, 1, 1, 1, 1, 1, 1, 1, 1, 1, 1, 1, 1, 1, 1, 1, 0, 1, 0, 0, 1, 1, 0, 0, 1, 1]) t W (andThen (fun t' W' => TqW w a x b ba bb bx m1 m2 gA gB gC cuA cuB cuC W' ∧ Slots (none :: none :: none :: some (.pointer (some ⟨b, 0, none⟩)) :: some (.pointer (some ⟨ba, 0, none⟩)) :: some (.pointer (some ⟨bb, 0, none⟩)) :: some (.bool false) :: some (.func (.func 48) #[] #[.pointer (some ⟨ba, 0, none⟩), .pointer (some ⟨b, 0, none⟩)]) :: some (.func (.func 49) #[] #[.pointer (some ⟨bb, 0, none⟩), .pointer (some ⟨b, 0, none⟩)]) :: some (.pointer (some ⟨bx, 0, none⟩)) :: o4 (o4 (some (.slice (some ⟨gA, 0, none⟩) a.L.length cA) :: some (.slice (some ⟨gB, 0, none⟩) a.N.length cB) :: some (.slice (some ⟨gC, 0, none⟩) a.K.length cC) :: none :: none :: o4 (o4 (o4 (some (iv s0) :: none :: some (iv s1) :: none :: none :: none :: o4 (o16 (o16 (o16 (o64 (o64 (o64 (o64 (some (iv a.L.length) :: some (iv d) :: none :: none :: none :: o4 (o16 (o64 [])))))))))))))))) t') fun _ _ _ => False) := by
  have hp6 := hf.p
  obtain ⟨y, hy⟩ := Slots.open_ hSl; simp only [fill, Nat.reduceAdd] at hy; subst hy; clear hSl
  show Exec _ _ (Code.seq _ (Code.block _ _)) _ _ _
  refine exec_seq (exec_region_o fun ds => ?_)
  gi_wp2
  refine eq_mk (Keep.refl _) ?_
  show Exec _ _ (Code.block _ _) _ _ _
  refine exec_block ?_
  refine exec_loop (TpI w a x b ba bb bx m1 m2 gA gB gC cuA cuB cuC cA cB cC s0 s1 d) a.N.length ⟨0, by omega, rfl, hV, by simp [Slots, Fits]⟩ ?_
  clear hV y
  clear W
  rintro n t W ⟨k, hk, hn, hV, hSl⟩
  have HN := Lib.hid hn
  clear hn
  obtain ⟨y, hy⟩ := Slots.open_ hSl; simp only [fill, Nat.reduceAdd] at hy; subst hy; clear hSl
  show Exec _ _ (Code.seq _ (Code.seq _ _)) _ _ _
  refine exec_seq (exec_region_o fun ds => ?_)
  gi_wp2
  refine eq_mk (Keep.refl _) ?_
  show Exec _ _ (Code.seq (Code.cond _ _ _) _) _ _ _
  refine exec_seq (exec_cond (b := decide (k < a.N.length)) (by first | rfl | (show Value.bool _ = _; congr 1; exact decide_eq_decide.2 (by omega))) (fun hp => exec_skip ?_) (fun hp => exec_exit ?_))
  · have hkl : k < a.N.length := by have := of_decide_eq_true hp; omega
    show Exec _ _ (Code.seq (Code.block _ _) _) _ _ _
    refine exec_cut (fun t' W => TqW w a x b ba bb bx m1 m2 gA gB gC cuA cuB cuC W ∧ Slots (none :: none :: none :: some (.pointer (some ⟨b, 0, none⟩)) :: some (.pointer (some ⟨ba, 0, none⟩)) :: some (.pointer (some ⟨bb, 0, none⟩)) :: some (.bool false) :: some (.func (.func 48) #[] #[.pointer (some ⟨ba, 0, none⟩), .pointer (some ⟨b, 0, none⟩)]) :: some (.func (.func 49) #[] #[.pointer (some ⟨bb, 0, none⟩), .pointer (some ⟨b, 0, none⟩)]) :: some (.pointer (some ⟨bx, 0, none⟩)) :: o4 (o4 (some (.slice (some ⟨gA, 0, none⟩) a.L.length cA) :: some (.slice (some ⟨gB, 0, none⟩) a.N.length cB) :: some (.slice (some ⟨gC, 0, none⟩) a.K.length cC) :: none :: none :: o4 (o4 (o4 (some (iv s0) :: none :: some (iv s1) :: none :: none :: o4 (o4 (some (iv d) :: o4 (o4 (o4 (o16 (o16 (o64 (o64 (o64 (o64 (some (iv a.L.length) :: some (iv d) :: none :: none :: o4 (o4 (o16 (some (iv a.N.length) :: some (iv k) :: none :: none :: none :: o4 (o4 (o16 (o16 (o16 [])))))))))))))))))))))))) t') (exec_block ((tu_plot (c := k) (cA := cA) (cB := cB) (cC := cC) hf ha hm1 hm2 hpA hpB hpC hpb hs0 hs1 hpa hd hkl hV (by simp [Slots, Fits])).mono ?_)) ?_
    · intro e t Z hh
      obtain ⟨rfl, hE⟩ := only_normal hh
      exact hE
    · clear hV y
      clear W
      rintro t' Y ⟨hV, hSl⟩
      obtain ⟨y, hy⟩ := Slots.open_ hSl; simp only [fill, Nat.reduceAdd] at hy; subst hy; clear hSl
      have hw : IntKind.i64.wrap ((k : Int) + 1) = ((k + 1 : Nat) : Int) := by rw [IntWalk.i64_in _ (by omega)]; norm_cast
      refine exec_region_o fun ds => ?_
      gi_wp2
      exact eq_mk (Keep.refl _) ⟨n - 1, by rw [HN.out]; omega, k + 1, by omega, by rw [HN.out]; omega, hV, by simp only [Slots, Fits, and_self]; simp⟩
  · exact ⟨hV, by simp [Slots, Fits]⟩
set_option maxRecDepth 100000 in
set_option maxHeartbeats 4000000 in
theorem tu_judge {w : World} {a x : XP} {b ba bb bx m1 m2 gA cA gB cB gC cC : Nat} {cuA cuB cuC : List Value} {s0 s1 : Nat} (hf : a.Fine) (ha : a.At w) (hm1 : m1 < 256) (hm2 : m2 < 256) (hpA : Pre cuA (a.L.map vi)) (hpB : Pre cuB (a.N.map vi)) (hpC : Pre cuC (flatV a.s3.2.2)) (hpb : ∀ j, j < a.L.length → s0.testBit j = s1.testBit ((j + m1) % a.L.length)) (hs0 : s0 < 1024) (hs1 : s1 < 1024) (hpa : ∀ p j, p < a.N.length → j < a.L.length → pairA a j p = pairA x ((j + m1) % a.L.length : Nat) ((p + m2) % a.N.length : Nat)) {d : Nat} (hd : d < a.L.length) {W : World} (hV : TqW w a x b ba bb bx m1 m2 gA gB gC cuA cuB cuC W) {t : Array Value} (hSl : Slots (none :: none :: none :: some (.pointer (some ⟨b, 0, none⟩)) :: some (.pointer (some ⟨ba, 0, none⟩)) :: some (.pointer (some ⟨bb, 0, none⟩)) :: some (.bool false) :: some (.func (.func 48) #[] #[.pointer (some ⟨ba, 0, none⟩), .pointer (some ⟨b, 0, none⟩)]) :: some (.func (.func 49) #[] #[.pointer (some ⟨bb, 0, none⟩), .pointer (some ⟨b, 0, none⟩)]) :: some (.pointer (some ⟨bx, 0, none⟩)) :: o4 (o4 (some (.slice (some ⟨gA, 0, none⟩) a.L.length cA) :: some (.slice (some ⟨gB, 0, none⟩) a.N.length cB) :: some (.slice (some ⟨gC, 0, none⟩) a.K.length cC) :: none :: none :: o4 (o4 (o4 (some (iv s0) :: none :: some (iv s1) :: none :: none :: none :: o4 (o16 (o16 (o16 (o64 (o64 (o64 (o64 (some (iv a.L.length) :: some (iv d) :: none :: none :: none :: o4 (o16 (o64 [])))))))))))))))) t) :
    Exec Try.prog none (sub (Try.f12.body.getD .skip) [1, 1, 1, 1, 1, 1, 1, 1, 1, 1, 1, 1, 1, 1, 1, 1, 1, 1, 1, 1, 1, 1, 1, 1, 1, 1, 1, 0, 1, 0, 0, 1, 1, 0, 0]) t W (andThen (fun t' W' => TqW w a x b ba bb bx m1 m2 gA gB gC cuA cuB cuC W' ∧ Slots (none :: none :: none :: some (.pointer (some ⟨b, 0, none⟩)) :: some (.pointer (some ⟨ba, 0, none⟩)) :: some (.pointer (some ⟨bb, 0, none⟩)) :: some (.bool false) :: some (.func (.func 48) #[] #[.pointer (some ⟨ba, 0, none⟩), .pointer (some ⟨b, 0, none⟩)]) :: some (.func (.func 49) #[] #[.pointer (some ⟨bb, 0, none⟩), .pointer (some ⟨b, 0, none⟩)]) :: some (.pointer (some ⟨bx, 0, none⟩)) :: o4 (o4 (some (.slice (some ⟨gA, 0, none⟩) a.L.length cA) :: some (.slice (some ⟨gB, 0, none⟩) a.N.length cB) :: some (.slice (some ⟨gC, 0, none⟩) a.K.length cC) :: none :: none :: o4 (o4 (o4 (some (iv s0) :: none :: some (iv s1) :: none :: none :: none :: o4 (o16 (o16 (o16 (o64 (o64 (o64 (o64 (some (iv a.L.length) :: some (iv d) :: none :: none :: none :: o4 (o16 (o64 [])))))))))))))))) t') fun _ _ _ => False) := by
  have hj6 := hf.j
  obtain ⟨hT, hxa⟩ := hV
  have hg := getDJ a.L hd
  obtain ⟨ad, hA, _⟩ := ha.l d (vi (a.L.getD d 0)) (by rw [List.getElem?_map, hg]; rfl)
  have hck : ∀ Y, Below w.heap.size w Y → Y.cell? (ad.add d) = some (vi (a.L.getD d 0)) := fun Y hY => by
    obtain ⟨_, e, h⟩ := (ha.below hY).l d (vi (a.L.getD d 0)) (by rw [List.getElem?_map, hg]; rfl)
    rw [hA] at e
    cases e
    exact h
  have hcA : cuA[d]? = some (vi (a.L.getD d 0)) := hpA d _ (by rw [List.getElem?_map, hg]; rfl)
  have hb0 := bit_i s0 d (by omega)
  have hb1 := bit_i s1 ((d + m1) % a.L.length) (by omega)
  rw [← hpb d hd] at hb1
  obtain ⟨y, hy⟩ := Slots.open_ hSl; simp only [fill, Nat.reduceAdd] at hy; subst hy; clear hSl
  show Exec _ _ (Code.seq _ (Code.seq _ _)) _ _ _
  refine exec_seq (exec_region_o fun ds => ?_)
  gi_wp2
  refine eq_mk (Keep.refl _) ?_
  show Exec _ _ (Code.seq (Code.seq _ _) _) _ _ _
  refine exec_seq (exec_seq ((tu_r47 (cA := cA) (cB := cB) (cC := cC) hf ha hm1 hd rfl hA hck hcA hb0 hb1 hT (by simp [Slots, Fits])).mono ?_))
  clear y hb0 hb1
  intro e2 t W2 hh
  obtain ⟨rfl, hT2, hb2, hSl⟩ := only_normal hh
  have hxa2 := hxa.below hb2
  clear hh hT hxa hb2
  clear W
  obtain ⟨y, hy⟩ := Slots.open_ hSl; simp only [fill, Nat.reduceAdd] at hy; subst hy; clear hSl
  show Exec _ _ (Code.cond _ _ _) _ _ _
  refine exec_cond (b := false) rfl (fun h => by cases h) (fun _ => exec_skip ?_)
  refine (tu_plots (cA := cA) (cB := cB) (cC := cC) hf ha hm1 hm2 hpA hpB hpC hpb hs0 hs1 hpa hd ⟨hT2, hxa2⟩ (by simp [Slots, Fits])).mono ?_
  intro e t Z hh
  obtain ⟨rfl, hE⟩ := only_normal hh
  exact hE
def TjI (w : World) (a x : XP) (b ba bb bx m1 m2 gA gB gC : Nat) (cuA cuB cuC : List Value) (cA cB cC s0 s1 : Nat) (n : Nat) (t : Array Value) (W : World) : Prop := ∃ d : Nat, d ≤ a.L.length ∧ n = a.L.length - d ∧ TqW w a x b ba bb bx m1 m2 gA gB gC cuA cuB cuC W ∧ Slots (none :: none :: none :: some (.pointer (some ⟨b, 0, none⟩)) :: some (.pointer (some ⟨ba, 0, none⟩)) :: some (.pointer (some ⟨bb, 0, none⟩)) :: some (.bool false) :: some (.func (.func 48) #[] #[.pointer (some ⟨ba, 0, none⟩), .pointer (some ⟨b, 0, none⟩)]) :: some (.func (.func 49) #[] #[.pointer (some ⟨bb, 0, none⟩), .pointer (some ⟨b, 0, none⟩)]) :: some (.pointer (some ⟨bx, 0, none⟩)) :: o4 (o4 (some (.slice (some ⟨gA, 0, none⟩) a.L.length cA) :: some (.slice (some ⟨gB, 0, none⟩) a.N.length cB) :: some (.slice (some ⟨gC, 0, none⟩) a.K.length cC) :: none :: none :: o4 (o4 (o4 (some (iv s0) :: none :: some (iv s1) :: none :: none :: none :: o4 (o16 (o16 (o16 (o64 (o64 (o64 (o64 (some (iv a.L.length) :: some (iv d) :: none :: none :: none :: o4 (o16 (o64 [])))))))))))))))) t
set_option maxRecDepth 100000 in
set_option maxHeartbeats 4000000 in
theorem tu_judges {w : World} {a x : XP} {b ba bb bx m1 m2 gA cA gB cB gC cC : Nat} {cuA cuB cuC : List Value} {s0 s1 : Nat} (hf : a.Fine) (ha : a.At w) (hm1 : m1 < 256) (hm2 : m2 < 256) (hpA : Pre cuA (a.L.map vi)) (hpB : Pre cuB (a.N.map vi)) (hpC : Pre cuC (flatV a.s3.2.2)) (hpb : ∀ j, j < a.L.length → s0.testBit j = s1.testBit ((j + m1) % a.L.length)) (hs0 : s0 < 1024) (hs1 : s1 < 1024) (hpa : ∀ p j, p < a.N.length → j < a.L.length → pairA a j p = pairA x ((j + m1) % a.L.length : Nat) ((p + m2) % a.N.length : Nat)) {W : World} (hV : TqW w a x b ba bb bx m1 m2 gA gB gC cuA cuB cuC W) {t : Array Value} (hSl : Slots (none :: none :: none :: some (.pointer (some ⟨b, 0, none⟩)) :: some (.pointer (some ⟨ba, 0, none⟩)) :: some (.pointer (some ⟨bb, 0, none⟩)) :: some (.bool false) :: some (.func (.func 48) #[] #[.pointer (some ⟨ba, 0, none⟩), .pointer (some ⟨b, 0, none⟩)]) :: some (.func (.func 49) #[] #[.pointer (some ⟨bb, 0, none⟩), .pointer (some ⟨b, 0, none⟩)]) :: some (.pointer (some ⟨bx, 0, none⟩)) :: o4 (o4 (some (.slice (some ⟨gA, 0, none⟩) a.L.length cA) :: some (.slice (some ⟨gB, 0, none⟩) a.N.length cB) :: some (.slice (some ⟨gC, 0, none⟩) a.K.length cC) :: none :: none :: o4 (o4 (o4 (some (iv s0) :: none :: some (iv s1) :: o16 (o64 (o64 (o64 (o64 (o64 (o64 [])))))))))))) t) :
    Exec Try.prog none (sub (Try.f12.body.getD .skip) [1, 1, 1, 1, 1, 1, 1, 1, 1, 1, 1, 1, 1, 1, 1, 1, 1, 1, 1, 1, 1, 1, 1, 1, 1, 1, 1, 0]) t W (andThen (fun t' W' => TqW w a x b ba bb bx m1 m2 gA gB gC cuA cuB cuC W' ∧ Slots (none :: none :: none :: some (.pointer (some ⟨b, 0, none⟩)) :: some (.pointer (some ⟨ba, 0, none⟩)) :: some (.pointer (some ⟨bb, 0, none⟩)) :: some (.bool false) :: some (.func (.func 48) #[] #[.pointer (some ⟨ba, 0, none⟩), .pointer (some ⟨b, 0, none⟩)]) :: some (.func (.func 49) #[] #[.pointer (some ⟨bb, 0, none⟩), .pointer (some ⟨b, 0, none⟩)]) :: some (.pointer (some ⟨bx, 0, none⟩)) :: o4 (o4 (some (.slice (some ⟨gA, 0, none⟩) a.L.length cA) :: some (.slice (some ⟨gB, 0, none⟩) a.N.length cB) :: some (.slice (some ⟨gC, 0, none⟩) a.K.length cC) :: none :: none :: o4 (o4 (o4 (some (iv s0) :: none :: some (iv s1) :: o16 (o64 (o64 (o64 (o64 (o64 (o64 [])))))))))))) t') fun _ _ _ => False) := by
  have hj6 := hf.j
  obtain ⟨y, hy⟩ := Slots.open_ hSl; simp only [fill, Nat.reduceAdd] at hy; subst hy; clear hSl
  show Exec _ _ (Code.seq _ (Code.block _ _)) _ _ _
  refine exec_seq (exec_region_o fun ds => ?_)
  gi_wp2
  refine eq_mk (Keep.refl _) ?_
  show Exec _ _ (Code.block _ _) _ _ _
  refine exec_block ?_
  refine exec_loop (TjI w a x b ba bb bx m1 m2 gA gB gC cuA cuB cuC cA cB cC s0 s1) a.L.length ⟨0, by omega, rfl, hV, by simp [Slots, Fits]⟩ ?_
  clear hV y
  clear W
  rintro n t W ⟨k, hk, hn, hV, hSl⟩
  have HN := Lib.hid hn
  clear hn
  obtain ⟨y, hy⟩ := Slots.open_ hSl; simp only [fill, Nat.reduceAdd] at hy; subst hy; clear hSl
  show Exec _ _ (Code.seq _ (Code.seq _ _)) _ _ _
  refine exec_seq (exec_region_o fun ds => ?_)
  gi_wp2
  refine eq_mk (Keep.refl _) ?_
  show Exec _ _ (Code.seq (Code.cond _ _ _) _) _ _ _
  refine exec_seq (exec_cond (b := decide (k < a.L.length)) (by first | rfl | (show Value.bool _ = _; congr 1; exact decide_eq_decide.2 (by omega))) (fun hp => exec_skip ?_) (fun hp => exec_exit ?_))
  · have hkl : k < a.L.length := by have := of_decide_eq_true hp; omega
    show Exec _ _ (Code.seq (Code.block _ _) _) _ _ _
    refine exec_cut (fun t' W => TqW w a x b ba bb bx m1 m2 gA gB gC cuA cuB cuC W ∧ Slots (none :: none :: none :: some (.pointer (some ⟨b, 0, none⟩)) :: some (.pointer (some ⟨ba, 0, none⟩)) :: some (.pointer (some ⟨bb, 0, none⟩)) :: some (.bool false) :: some (.func (.func 48) #[] #[.pointer (some ⟨ba, 0, none⟩), .pointer (some ⟨b, 0, none⟩)]) :: some (.func (.func 49) #[] #[.pointer (some ⟨bb, 0, none⟩), .pointer (some ⟨b, 0, none⟩)]) :: some (.pointer (some ⟨bx, 0, none⟩)) :: o4 (o4 (some (.slice (some ⟨gA, 0, none⟩) a.L.length cA) :: some (.slice (some ⟨gB, 0, none⟩) a.N.length cB) :: some (.slice (some ⟨gC, 0, none⟩) a.K.length cC) :: none :: none :: o4 (o4 (o4 (some (iv s0) :: none :: some (iv s1) :: none :: none :: none :: o4 (o16 (o16 (o16 (o64 (o64 (o64 (o64 (some (iv a.L.length) :: some (iv k) :: none :: none :: none :: o4 (o16 (o64 [])))))))))))))))) t') (exec_block ((tu_judge (d := k) (cA := cA) (cB := cB) (cC := cC) hf ha hm1 hm2 hpA hpB hpC hpb hs0 hs1 hpa hkl hV (by simp [Slots, Fits])).mono ?_)) ?_
    · intro e t Z hh
      obtain ⟨rfl, hE⟩ := only_normal hh
      exact hE
    · clear hV y
      clear W
      rintro t' Y ⟨hV, hSl⟩
      obtain ⟨y, hy⟩ := Slots.open_ hSl; simp only [fill, Nat.reduceAdd] at hy; subst hy; clear hSl
      have hw : IntKind.i64.wrap ((k : Int) + 1) = ((k + 1 : Nat) : Int) := by rw [IntWalk.i64_in _ (by omega)]; norm_cast
      refine exec_region_o fun ds => ?_
      gi_wp2
      exact eq_mk (Keep.refl _) ⟨n - 1, by rw [HN.out]; omega, k + 1, by omega, by rw [HN.out]; omega, hV, by simp only [Slots, Fits, and_self]; simp⟩
  · exact ⟨hV, by simp [Slots, Fits]⟩
end Go.Proofs.Ytbdmmikflkpmpaa
end

section
namespace Go.Proofs.Ytbdmmikflkpmpaa
open Go.RowKit Go.TL Go.Shelf Go.Pn
def t61_0t : It := ⟨(Op.move (Operand.tmp 20)), some 426, 23, true, none⟩
def t61_1t : It := ⟨(Op.move (Operand.tmp 54)), some 427, 3, true, none⟩
def t61_2t : It := ⟨(Op.indexAddr 23 (Operand.tmp 426) (Operand.tmp 427)), some 428, 0, true, none⟩
def t61_3t : It := ⟨(Op.load 50 (Operand.tmp 428)), some 429, 50, true, none⟩
def t61_4t : It := ⟨(Op.fieldAddr 25 (Operand.tmp 3) 2), some 430, 0, true, none⟩
def t61_5t : It := ⟨(Op.load 23 (Operand.tmp 430)), some 431, 23, true, none⟩
def t61_6 : It := ⟨(Op.move (Operand.tmp 54)), some 432, 3, false, none⟩
def t61_7 : It := ⟨(Op.indexAddr 23 (Operand.tmp 431) (Operand.tmp 432)), some 433, 0, false, none⟩
def t61_8 : It := ⟨(Op.load 50 (Operand.tmp 433)), some 434, 50, false, none⟩
def t61_9 : It := ⟨(Op.binOp BinOp.neq 50 (Operand.tmp 429) (Operand.tmp 434) 50), some 435, 4, false, none⟩
set_option maxRecDepth 100000 in
set_option maxHeartbeats 4000000 in
theorem tu_r61 {w W : World} {a x : XP} {b ba bb bx m1 m2 gA cA gB cB gC cC : Nat} {cuA cuB cuC : List Value} {s0 s1 i : Nat} {q : Nat × Nat} {ad : Addr} (hi : i < a.K.length) (hA : a.AK = some ad) (hck : ∀ Y, Below w.heap.size w Y → Y.cell? (ad.add (i * 2)) = some (iv q.1) ∧ Y.cell? ⟨(ad.add (i * 2)).block, (ad.add (i * 2)).off + 1, none⟩ = some (iv q.2)) (hc1 : cuC[i * 2]? = some (iv q.1)) (hc2 : cuC[i * 2 + 1]? = some (iv q.2)) (hT : Tr w W W [(b, .cells #[a.sL, a.sN, a.sK] 25 (0, 0)), (ba, .cells #[.int .u8 (m1 : Int)] 5 (0, 0)), (bb, .cells #[.int .u8 (m2 : Int)] 5 (0, 0)), (bx, .cells #[x.sL, x.sN, x.sK] 25 (0, 0)), (gA, .cells (cuA).toArray 3 (0, 0)), (gB, .cells (cuB).toArray 3 (0, 0)), (gC, .cells (cuC).toArray 50 (0, 0))]) {t : Array Value} (hSl : Slots (none :: none :: none :: some (.pointer (some ⟨b, 0, none⟩)) :: some (.pointer (some ⟨ba, 0, none⟩)) :: some (.pointer (some ⟨bb, 0, none⟩)) :: some (.bool false) :: some (.func (.func 48) #[] #[.pointer (some ⟨ba, 0, none⟩), .pointer (some ⟨b, 0, none⟩)]) :: some (.func (.func 49) #[] #[.pointer (some ⟨bb, 0, none⟩), .pointer (some ⟨b, 0, none⟩)]) :: some (.pointer (some ⟨bx, 0, none⟩)) :: o4 (o4 (some (.slice (some ⟨gA, 0, none⟩) a.L.length cA) :: some (.slice (some ⟨gB, 0, none⟩) a.N.length cB) :: some (.slice (some ⟨gC, 0, none⟩) a.K.length cC) :: none :: none :: o4 (o4 (o4 (some (iv s0) :: none :: some (iv s1) :: o16 (some (iv i) :: none :: none :: none :: o4 (o4 (o4 (o16 (o16 (o64 (o64 (o64 (o64 (o64 (some (iv a.K.length) :: some (iv i) :: none :: none :: o4 (o4 (o4 []))))))))))))))))))) t) :
    Exec Try.prog none (sub (Try.f12.body.getD .skip) [1, 1, 1, 1, 1, 1, 1, 1, 1, 1, 1, 1, 1, 1, 1, 1, 1, 1, 1, 1, 1, 1, 1, 1, 1, 1, 1, 1, 0, 1, 0, 0, 1, 1, 0, 0, 1, 0]) t W (andThen (fun t' W' => Tr w W' W' [(b, .cells #[a.sL, a.sN, a.sK] 25 (0, 0)), (ba, .cells #[.int .u8 (m1 : Int)] 5 (0, 0)), (bb, .cells #[.int .u8 (m2 : Int)] 5 (0, 0)), (bx, .cells #[x.sL, x.sN, x.sK] 25 (0, 0)), (gA, .cells (cuA).toArray 3 (0, 0)), (gB, .cells (cuB).toArray 3 (0, 0)), (gC, .cells (cuC).toArray 50 (0, 0))] ∧ Below W.heap.size W W' ∧ Slots (none :: none :: none :: some (.pointer (some ⟨b, 0, none⟩)) :: some (.pointer (some ⟨ba, 0, none⟩)) :: some (.pointer (some ⟨bb, 0, none⟩)) :: some (.bool false) :: some (.func (.func 48) #[] #[.pointer (some ⟨ba, 0, none⟩), .pointer (some ⟨b, 0, none⟩)]) :: some (.func (.func 49) #[] #[.pointer (some ⟨bb, 0, none⟩), .pointer (some ⟨b, 0, none⟩)]) :: some (.pointer (some ⟨bx, 0, none⟩)) :: o4 (o4 (some (.slice (some ⟨gA, 0, none⟩) a.L.length cA) :: some (.slice (some ⟨gB, 0, none⟩) a.N.length cB) :: some (.slice (some ⟨gC, 0, none⟩) a.K.length cC) :: none :: none :: o4 (o4 (o4 (some (iv s0) :: none :: some (iv s1) :: o64 (o64 (o64 (o64 (o64 (o64 (some (iv a.K.length) :: some (iv i) :: none :: none :: none :: o4 (o4 (some (.bool false) :: none :: none :: [])))))))))))))) t') fun _ _ _ => False) := by
  have hu25 := Try.underlying25
  have hu23 := Try.underlying23
  have hu50 := Try.underlying50
  obtain ⟨i0, z0, hi0, _, _, hs50, _⟩ := info50
  have hiI : (i : Int) < a.K.length := by omega
  have hbw : Below W.heap.size W W.drew := (Below.refl _ W).drew
  have hT0 := hT.again.drew
  refine region_tree (c := (sub (Try.f12.body.getD .skip) [1, 1, 1, 1, 1, 1, 1, 1, 1, 1, 1, 1, 1, 1, 1, 1, 1, 1, 1, 1, 1, 1, 1, 1, 1, 1, 1, 1, 0, 1, 0, 0, 1, 1, 0, 0, 1, 0])) (id := 61) (.one 0 true (.one 1 true (.one 2 true (.one 3 true (.one 4 true (.one 5 true (.one 6 false (.one 7 false (.one 8 false (.one 9 false (.nil))))))))))) (Opq (regOps (sub (Try.f12.body.getD .skip) [1, 1, 1, 1, 1, 1, 1, 1, 1, 1, 1, 1, 1, 1, 1, 1, 1, 1, 1, 1, 1, 1, 1, 1, 1, 1, 1, 1, 0, 1, 0, 0, 1, 1, 0, 0, 1, 0]))) rfl (by kernel_rfl) (by kernel_rfl) (by kernel_rfl) (by kernel_rfl) (by kernel_rfl) (by kernel_rfl) [0, 0, 3, 4, 0, 16, 0, 96, 128, 264] (by kernel_rfl) (by kernel_rfl) (fun W' => W'.cell? ⟨b, 2, none⟩ = some (a.sK) ∧ W'.cell? ⟨gC, i * 2, none⟩ = some (iv q.1) ∧ W'.cell? ⟨gC, i * 2 + 1, none⟩ = some (iv q.2) ∧ W'.cell? (ad.add (i * 2)) = some (iv q.1) ∧ W'.cell? ⟨(ad.add (i * 2)).block, (ad.add (i * 2)).off + 1, none⟩ = some (iv q.2)) (fun _ _ _ => False) (fun _ _ _ h => h.elim) (fun _ _ _ _ _ _ _ _ h => h.elim) fun ds Q' hQn hQp => ?_
  have F0 : Fr (none :: none :: none :: some (.pointer (some ⟨b, 0, none⟩)) :: some (.pointer (some ⟨ba, 0, none⟩)) :: some (.pointer (some ⟨bb, 0, none⟩)) :: some (.bool false) :: some (.func (.func 48) #[] #[.pointer (some ⟨ba, 0, none⟩), .pointer (some ⟨b, 0, none⟩)]) :: some (.func (.func 49) #[] #[.pointer (some ⟨bb, 0, none⟩), .pointer (some ⟨b, 0, none⟩)]) :: some (.pointer (some ⟨bx, 0, none⟩)) :: o4 (o4 (some (.slice (some ⟨gA, 0, none⟩) a.L.length cA) :: some (.slice (some ⟨gB, 0, none⟩) a.N.length cB) :: some (.slice (some ⟨gC, 0, none⟩) a.K.length cC) :: none :: none :: o4 (o4 (o4 (some (iv s0) :: none :: some (iv s1) :: o16 (some (iv i) :: none :: none :: none :: o4 (o4 (o4 (o16 (o16 (o64 (o64 (o64 (o64 (o64 (some (iv a.K.length) :: some (iv i) :: none :: none :: o4 (o4 (o4 []))))))))))))))))))) ds { tmps := t, defers := ds } := Fr.start hSl
  clear hSl
  generalize ({ tmps := t, defers := ds } : Act) = a0 at *
  generalize W.drew = X0 at *
  refine tr_take t61_0t (.slice (some ⟨gC, 0, none⟩) a.K.length cC) (by kernel_rfl) rfl rfl (fun wq hq => ?_) ⟨hT0.cell 0 rfl rfl, hT0.cell 6 rfl hc1, hT0.cell 6 rfl hc2, (hck _ hT0.below).1, (hck _ hT0.below).2⟩ ?_; (focus (have e20 : a0.eval (.tmp 20) = (.slice (some ⟨gC, 0, none⟩) a.K.length cC) := F0.ev 20 (by kernel_rfl); generalize a0.eval = ev at e20 ⊢; simp [go_sem, mkO, t61_0t, e20]; done))
  refine F0.next 426 (.slice (some ⟨gC, 0, none⟩) a.K.length cC) fun a1 F1 => ?_
  clear F0
  refine tr_take t61_1t (iv i) (by kernel_rfl) rfl rfl (fun wq hq => ?_) ⟨hT0.cell 0 rfl rfl, hT0.cell 6 rfl hc1, hT0.cell 6 rfl hc2, (hck _ hT0.below).1, (hck _ hT0.below).2⟩ ?_; (focus (have e54 : a1.eval (.tmp 54) = (iv i) := F1.ev 54 (by kernel_rfl); generalize a1.eval = ev at e54 ⊢; simp [go_sem, mkO, t61_1t, e54]; done))
  refine F1.next 427 (iv i) fun a2 F2 => ?_
  clear F1 a1
  refine tr_take t61_2t (.pointer (some ⟨gC, i * 2, none⟩)) (by kernel_rfl) rfl rfl (fun wq hq => ?_) ⟨hT0.cell 0 rfl rfl, hT0.cell 6 rfl hc1, hT0.cell 6 rfl hc2, (hck _ hT0.below).1, (hck _ hT0.below).2⟩ ?_; (focus (have e426 : a2.eval (.tmp 426) = (.slice (some ⟨gC, 0, none⟩) a.K.length cC) := F2.ev 426 (by kernel_rfl); have e427 : a2.eval (.tmp 427) = (iv i) := F2.ev 427 (by kernel_rfl); generalize a2.eval = ev at e426 e427 ⊢; simp [go_sem, mkO, t61_2t, e426, e427, hu23, hi0, hs50, hiI]; done))
  refine F2.next 428 (.pointer (some ⟨gC, i * 2, none⟩)) fun a3 F3 => ?_
  clear F2 a2
  refine tr_take t61_3t (.agg #[iv q.1, iv q.2]) (by kernel_rfl) rfl rfl (fun wq hq => ?_) ⟨hT0.cell 0 rfl rfl, hT0.cell 6 rfl hc1, hT0.cell 6 rfl hc2, (hck _ hT0.below).1, (hck _ hT0.below).2⟩ ?_; (focus (have e428 : a3.eval (.tmp 428) = (.pointer (some ⟨gC, i * 2, none⟩)) := F3.ev 428 (by kernel_rfl); generalize a3.eval = ev at e428 ⊢; simp [go_sem, mkO, t61_3t, e428, hu50, hq.2.1, hq.2.2.1]; done))
  refine F3.next 429 (.agg #[iv q.1, iv q.2]) fun a4 F4 => ?_
  clear F3 a3
  refine tr_take t61_4t (.pointer (some ⟨b, 2, none⟩)) (by kernel_rfl) rfl rfl (fun wq hq => ?_) ⟨hT0.cell 0 rfl rfl, hT0.cell 6 rfl hc1, hT0.cell 6 rfl hc2, (hck _ hT0.below).1, (hck _ hT0.below).2⟩ ?_; (focus (have e3 : a4.eval (.tmp 3) = (.pointer (some ⟨b, 0, none⟩)) := F4.ev 3 (by kernel_rfl); generalize a4.eval = ev at e3 ⊢; simp [go_sem, mkO, t61_4t, e3, hu25]; done))
  refine F4.next 430 (.pointer (some ⟨b, 2, none⟩)) fun a5 F5 => ?_
  clear F4 a4
  refine tr_take t61_5t (.slice (some ad) a.K.length a.cK) (by kernel_rfl) rfl rfl (fun wq hq => ?_) ⟨hT0.cell 0 rfl rfl, hT0.cell 6 rfl hc1, hT0.cell 6 rfl hc2, (hck _ hT0.below).1, (hck _ hT0.below).2⟩ ?_; (focus (have e430 : a5.eval (.tmp 430) = (.pointer (some ⟨b, 2, none⟩)) := F5.ev 430 (by kernel_rfl); generalize a5.eval = ev at e430 ⊢; simp [go_sem, mkO, t61_5t, e430, hq.1, XP.sK, hA]; done))
  refine F5.next 431 (.slice (some ad) a.K.length a.cK) fun a6 F6 => ?_
  clear F5 a5
  refine tr_make t61_6 (iv i) _ (by kernel_rfl) rfl rfl ?_ ⟨hT0.cell 0 rfl rfl, hT0.cell 6 rfl hc1, hT0.cell 6 rfl hc2, (hck _ hT0.below).1, (hck _ hT0.below).2⟩ ?_; (focus (have hq := (show (fun W' : World => W'.cell? ⟨b, 2, none⟩ = some (a.sK) ∧ W'.cell? ⟨gC, i * 2, none⟩ = some (iv q.1) ∧ W'.cell? ⟨gC, i * 2 + 1, none⟩ = some (iv q.2) ∧ W'.cell? (ad.add (i * 2)) = some (iv q.1) ∧ W'.cell? ⟨(ad.add (i * 2)).block, (ad.add (i * 2)).off + 1, none⟩ = some (iv q.2)) X0 from ⟨hT0.cell 0 rfl rfl, hT0.cell 6 rfl hc1, hT0.cell 6 rfl hc2, (hck _ hT0.below).1, (hck _ hT0.below).2⟩); have e54 : a6.eval (.tmp 54) = (iv i) := F6.ev 54 (by kernel_rfl); generalize a6.eval = ev at e54 ⊢; simp [go_sem, mkO, t61_6, e54]; done))
  refine F6.next 432 (iv i) fun a7 F7 => ?_
  clear F6 a6
  refine tr_make t61_7 (.pointer (some (ad.add (i * 2)))) _ (by kernel_rfl) rfl rfl ?_ ⟨hT0.cell 0 rfl rfl, hT0.cell 6 rfl hc1, hT0.cell 6 rfl hc2, (hck _ hT0.below).1, (hck _ hT0.below).2⟩ ?_; (focus (have hq := (show (fun W' : World => W'.cell? ⟨b, 2, none⟩ = some (a.sK) ∧ W'.cell? ⟨gC, i * 2, none⟩ = some (iv q.1) ∧ W'.cell? ⟨gC, i * 2 + 1, none⟩ = some (iv q.2) ∧ W'.cell? (ad.add (i * 2)) = some (iv q.1) ∧ W'.cell? ⟨(ad.add (i * 2)).block, (ad.add (i * 2)).off + 1, none⟩ = some (iv q.2)) X0 from ⟨hT0.cell 0 rfl rfl, hT0.cell 6 rfl hc1, hT0.cell 6 rfl hc2, (hck _ hT0.below).1, (hck _ hT0.below).2⟩); have e431 : a7.eval (.tmp 431) = (.slice (some ad) a.K.length a.cK) := F7.ev 431 (by kernel_rfl); have e432 : a7.eval (.tmp 432) = (iv i) := F7.ev 432 (by kernel_rfl); generalize a7.eval = ev at e431 e432 ⊢; simp [go_sem, mkO, t61_7, e431, e432, hu23, hi0, hs50, hiI]; done))
  refine F7.next 433 (.pointer (some (ad.add (i * 2)))) fun a8 F8 => ?_
  clear F7 a7
  refine tr_make t61_8 (.agg #[iv q.1, iv q.2]) _ (by kernel_rfl) rfl rfl ?_ ⟨hT0.cell 0 rfl rfl, hT0.cell 6 rfl hc1, hT0.cell 6 rfl hc2, (hck _ hT0.below).1, (hck _ hT0.below).2⟩ ?_; (focus (have hq := (show (fun W' : World => W'.cell? ⟨b, 2, none⟩ = some (a.sK) ∧ W'.cell? ⟨gC, i * 2, none⟩ = some (iv q.1) ∧ W'.cell? ⟨gC, i * 2 + 1, none⟩ = some (iv q.2) ∧ W'.cell? (ad.add (i * 2)) = some (iv q.1) ∧ W'.cell? ⟨(ad.add (i * 2)).block, (ad.add (i * 2)).off + 1, none⟩ = some (iv q.2)) X0 from ⟨hT0.cell 0 rfl rfl, hT0.cell 6 rfl hc1, hT0.cell 6 rfl hc2, (hck _ hT0.below).1, (hck _ hT0.below).2⟩); have e433 : a8.eval (.tmp 433) = (.pointer (some (ad.add (i * 2)))) := F8.ev 433 (by kernel_rfl); generalize a8.eval = ev at e433 ⊢; simp [go_sem, mkO, t61_8, e433, hu50, hq.2.2.2.1, hq.2.2.2.2]; done))
  refine F8.next 434 (.agg #[iv q.1, iv q.2]) fun a9 F9 => ?_
  clear F8 a8
  refine tr_make t61_9 (.bool false) _ (by kernel_rfl) rfl rfl ?_ ⟨hT0.cell 0 rfl rfl, hT0.cell 6 rfl hc1, hT0.cell 6 rfl hc2, (hck _ hT0.below).1, (hck _ hT0.below).2⟩ ?_; (focus (have hq := (show (fun W' : World => W'.cell? ⟨b, 2, none⟩ = some (a.sK) ∧ W'.cell? ⟨gC, i * 2, none⟩ = some (iv q.1) ∧ W'.cell? ⟨gC, i * 2 + 1, none⟩ = some (iv q.2) ∧ W'.cell? (ad.add (i * 2)) = some (iv q.1) ∧ W'.cell? ⟨(ad.add (i * 2)).block, (ad.add (i * 2)).off + 1, none⟩ = some (iv q.2)) X0 from ⟨hT0.cell 0 rfl rfl, hT0.cell 6 rfl hc1, hT0.cell 6 rfl hc2, (hck _ hT0.below).1, (hck _ hT0.below).2⟩); have e429 : a9.eval (.tmp 429) = (.agg #[iv q.1, iv q.2]) := F9.ev 429 (by kernel_rfl); have e434 : a9.eval (.tmp 434) = (.agg #[iv q.1, iv q.2]) := F9.ev 434 (by kernel_rfl); generalize a9.eval = ev at e429 e434 ⊢; simp [go_sem, mkO, t61_9, e429, e434]; done))
  refine F9.next 435 (.bool false) fun a10 F10 => ?_
  clear F9 a9
  exact F10.out hQn hT0.keep ⟨hT0.again, hbw, (F10.fin [426, 427, 428, 429, 430, 431, 432, 433, 434, 54] (by kernel_rfl))⟩
def TzI (w : World) (a x : XP) (b ba bb bx m1 m2 gA gB gC : Nat) (cuA cuB cuC : List Value) (cA cB cC s0 s1 : Nat) (n : Nat) (t : Array Value) (W : World) : Prop := ∃ i : Nat, i ≤ a.K.length ∧ n = a.K.length - i ∧ TqW w a x b ba bb bx m1 m2 gA gB gC cuA cuB cuC W ∧ Slots (none :: none :: none :: some (.pointer (some ⟨b, 0, none⟩)) :: some (.pointer (some ⟨ba, 0, none⟩)) :: some (.pointer (some ⟨bb, 0, none⟩)) :: some (.bool false) :: some (.func (.func 48) #[] #[.pointer (some ⟨ba, 0, none⟩), .pointer (some ⟨b, 0, none⟩)]) :: some (.func (.func 49) #[] #[.pointer (some ⟨bb, 0, none⟩), .pointer (some ⟨b, 0, none⟩)]) :: some (.pointer (some ⟨bx, 0, none⟩)) :: o4 (o4 (some (.slice (some ⟨gA, 0, none⟩) a.L.length cA) :: some (.slice (some ⟨gB, 0, none⟩) a.N.length cB) :: some (.slice (some ⟨gC, 0, none⟩) a.K.length cC) :: none :: none :: o4 (o4 (o4 (some (iv s0) :: none :: some (iv s1) :: o64 (o64 (o64 (o64 (o64 (o64 (some (iv a.K.length) :: some (iv i) :: none :: none :: o4 (o4 (o4 [])))))))))))))) t
set_option maxRecDepth 100000 in
set_option maxHeartbeats 4000000 in
theorem tu_pairs {w : World} {a x : XP} {b ba bb bx m1 m2 gA cA gB cB gC cC : Nat} {cuA cuB cuC : List Value} {s0 s1 : Nat} (hf : a.Fine) (ha : a.At w) (hm1 : m1 < 256) (hm2 : m2 < 256) (hpA : Pre cuA (a.L.map vi)) (hpB : Pre cuB (a.N.map vi)) (hpC : Pre cuC (flatV a.s3.2.2)) (hpb : ∀ j, j < a.L.length → s0.testBit j = s1.testBit ((j + m1) % a.L.length)) (hs0 : s0 < 1024) (hs1 : s1 < 1024) (hpa : ∀ p j, p < a.N.length → j < a.L.length → pairA a j p = pairA x ((j + m1) % a.L.length : Nat) ((p + m2) % a.N.length : Nat)) {W : World} (hV : TqW w a x b ba bb bx m1 m2 gA gB gC cuA cuB cuC W) {t : Array Value} (hSl : Slots (none :: none :: none :: some (.pointer (some ⟨b, 0, none⟩)) :: some (.pointer (some ⟨ba, 0, none⟩)) :: some (.pointer (some ⟨bb, 0, none⟩)) :: some (.bool false) :: some (.func (.func 48) #[] #[.pointer (some ⟨ba, 0, none⟩), .pointer (some ⟨b, 0, none⟩)]) :: some (.func (.func 49) #[] #[.pointer (some ⟨bb, 0, none⟩), .pointer (some ⟨b, 0, none⟩)]) :: some (.pointer (some ⟨bx, 0, none⟩)) :: o4 (o4 (some (.slice (some ⟨gA, 0, none⟩) a.L.length cA) :: some (.slice (some ⟨gB, 0, none⟩) a.N.length cB) :: some (.slice (some ⟨gC, 0, none⟩) a.K.length cC) :: none :: none :: o4 (o4 (o4 (some (iv s0) :: none :: some (iv s1) :: o16 (o64 (o64 (o64 (o64 (o64 (o64 [])))))))))))) t) :
    Exec Try.prog none (sub (Try.f12.body.getD .skip) [1, 1, 1, 1, 1, 1, 1, 1, 1, 1, 1, 1, 1, 1, 1, 1, 1, 1, 1, 1, 1, 1, 1, 1, 1, 1, 1, 1, 0]) t W (andThen (fun t' W' => TqW w a x b ba bb bx m1 m2 gA gB gC cuA cuB cuC W' ∧ Slots (none :: none :: o4 (some (.bool false) :: none :: none :: none :: o4 (o4 (o4 (o16 (o16 (o64 (o64 (o64 (o64 (o64 (o64 [])))))))))))) t') fun _ _ _ => False) := by
  have h10 := hf.k
  obtain ⟨y, hy⟩ := Slots.open_ hSl; simp only [fill, Nat.reduceAdd] at hy; subst hy; clear hSl
  show Exec _ _ (Code.seq _ (Code.block _ _)) _ _ _
  refine exec_seq (exec_region_o fun ds => ?_)
  gi_wp2
  refine eq_mk (Keep.refl _) ?_
  show Exec _ _ (Code.block _ _) _ _ _
  refine exec_block ?_
  refine exec_loop (TzI w a x b ba bb bx m1 m2 gA gB gC cuA cuB cuC cA cB cC s0 s1) a.K.length ⟨0, by omega, rfl, hV, by simp [Slots, Fits]⟩ ?_
  clear hV y
  clear W
  rintro n t W ⟨k, hk, hn, hV, hSl⟩
  have HN := Lib.hid hn
  clear hn
  obtain ⟨y, hy⟩ := Slots.open_ hSl; simp only [fill, Nat.reduceAdd] at hy; subst hy; clear hSl
  show Exec _ _ (Code.seq _ (Code.seq _ _)) _ _ _
  refine exec_seq (exec_region_o fun ds => ?_)
  gi_wp2
  refine eq_mk (Keep.refl _) ?_
  show Exec _ _ (Code.seq (Code.cond _ _ _) _) _ _ _
  refine exec_seq (exec_cond (b := decide (k < a.K.length)) (by first | rfl | (show Value.bool _ = _; congr 1; exact decide_eq_decide.2 (by omega))) (fun hp => exec_skip ?_) (fun hp => exec_exit ?_))
  · have hkl : k < a.K.length := by have := of_decide_eq_true hp; omega
    have hl := s3_kin_len a
    obtain ⟨q, hq⟩ : ∃ q, a.s3.2.2[k]? = some q := ⟨_, List.getElem?_eq_getElem (by omega)⟩
    obtain ⟨ad, hA, _⟩ := rowK_of hf ha k q hq
    have hck : ∀ Y, Below w.heap.size w Y → Y.cell? (ad.add (k * 2)) = some (iv q.1) ∧ Y.cell? ⟨(ad.add (k * 2)).block, (ad.add (k * 2)).off + 1, none⟩ = some (iv q.2) := fun Y hY => by
      obtain ⟨_, e, h1, h2⟩ := rowK_of hf (ha.below hY) k q hq
      rw [hA] at e
      cases e
      exact ⟨h1, h2⟩
    obtain ⟨g1, g2⟩ := flatV_get a.s3.2.2 k q hq
    show Exec _ _ (Code.seq (Code.block _ _) _) _ _ _
    refine exec_cut (fun t' W => TqW w a x b ba bb bx m1 m2 gA gB gC cuA cuB cuC W ∧ Slots (none :: none :: none :: some (.pointer (some ⟨b, 0, none⟩)) :: some (.pointer (some ⟨ba, 0, none⟩)) :: some (.pointer (some ⟨bb, 0, none⟩)) :: some (.bool false) :: some (.func (.func 48) #[] #[.pointer (some ⟨ba, 0, none⟩), .pointer (some ⟨b, 0, none⟩)]) :: some (.func (.func 49) #[] #[.pointer (some ⟨bb, 0, none⟩), .pointer (some ⟨b, 0, none⟩)]) :: some (.pointer (some ⟨bx, 0, none⟩)) :: o4 (o4 (some (.slice (some ⟨gA, 0, none⟩) a.L.length cA) :: some (.slice (some ⟨gB, 0, none⟩) a.N.length cB) :: some (.slice (some ⟨gC, 0, none⟩) a.K.length cC) :: none :: none :: o4 (o4 (o4 (some (iv s0) :: none :: some (iv s1) :: o64 (o64 (o64 (o64 (o64 (o64 (some (iv a.K.length) :: some (iv k) :: none :: none :: o4 (o4 (o4 [])))))))))))))) t') (exec_block ?_) ?_
    · obtain ⟨hT, hxa⟩ := hV
      show Exec _ _ (Code.seq _ (Code.seq _ _)) _ _ _
      refine exec_seq (exec_region_o fun ds => ?_)
      gi_wp2
      refine eq_mk (Keep.refl _) ?_
      show Exec _ _ (Code.seq _ _) _ _ _
      refine exec_seq ((tu_r61 (cA := cA) (cB := cB) (cC := cC) (s0 := s0) (s1 := s1) hkl hA hck (hpC _ _ g1) (hpC _ _ g2) hT (by simp [Slots, Fits])).mono ?_)
      clear y
      intro e2 t W2 hh
      obtain ⟨rfl, hT2, hb2, hSl⟩ := only_normal hh
      have hxa2 := hxa.below hb2
      clear hh hT hxa hb2
      clear W
      obtain ⟨y, hy⟩ := Slots.open_ hSl; simp only [fill, Nat.reduceAdd] at hy; subst hy; clear hSl
      show Exec _ _ (Code.cond _ _ _) _ _ _
      refine exec_cond (b := false) rfl (fun h => by cases h) (fun _ => exec_skip ?_)
      exact ⟨⟨hT2, hxa2⟩, by simp [Slots, Fits]⟩
    · clear hV y
      clear W
      rintro t' Y ⟨hV, hSl⟩
      obtain ⟨y, hy⟩ := Slots.open_ hSl; simp only [fill, Nat.reduceAdd] at hy; subst hy; clear hSl
      have hw : IntKind.i64.wrap ((k : Int) + 1) = ((k + 1 : Nat) : Int) := by rw [IntWalk.i64_in _ (by omega)]; norm_cast
      refine exec_region_o fun ds => ?_
      gi_wp2
      exact eq_mk (Keep.refl _) ⟨n - 1, by rw [HN.out]; omega, k + 1, by omega, by rw [HN.out]; omega, hV, by simp only [Slots, Fits, and_self]; simp⟩
  · exact ⟨hV, by simp [Slots, Fits]⟩
end Go.Proofs.Ytbdmmikflkpmpaa
end

section
namespace Go.Proofs.Ytbdmmikflkpmpaa
open Go.RowKit Go.TL Go.Shelf Go.Pn
attribute [local go_sem] Oper.semAt_some
attribute [local go_sem] run_store_func
end Go.Proofs.Ytbdmmikflkpmpaa
end

section
namespace Go.Proofs.Ytbdmmikflkpmpaa
open Go.RowKit Go.TL Go.Shelf Go.Pn
set_option maxRecDepth 100000 in
set_option maxHeartbeats 8000000 in
theorem tu_rest {w : World} {a x tw : XP} {b ba bb bx bt m1 m2 gA cA gB cB gC cC : Nat} {cuA cuB cuC : List Value} {n se bu be es eh ew : Int} {s0 s1 u0 u1 w0 w1 : Nat} (hf : a.Fine) (ha : a.At w) (hm1 : m1 < 256) (hm2 : m2 < 256) (hpA : Pre cuA (a.L.map vi)) (hpB : Pre cuB (a.N.map vi)) (hpC : Pre cuC (flatV a.s3.2.2)) (hV : TuV a x tw (fun j => (j + m1) % a.L.length) (fun j => (j + m2) % a.N.length) n se bu be s0 s1 es u0 u1 eh w0 w1 ew)
    {W0 : World} (hT0 : Tr w W0 W0 [(b, .cells #[a.sL, a.sN, a.sK] 25 (0, 0)), (ba, .cells #[.int .u8 (m1 : Int)] 5 (0, 0)), (bb, .cells #[.int .u8 (m2 : Int)] 5 (0, 0)), (bx, .cells #[x.sL, x.sN, x.sK] 25 (0, 0)), (gA, .cells (cuA).toArray 3 (0, 0)), (gB, .cells (cuB).toArray 3 (0, 0)), (gC, .cells (cuC).toArray 50 (0, 0)), (bt, .cells #[tw.sL, tw.sN, tw.sK] 25 (0, 0))]) (hxa0 : x.At W0) (hta0 : tw.At W0) {t : Array Value} (hSl : Slots (none :: none :: none :: some (.pointer (some ⟨b, 0, none⟩)) :: some (.pointer (some ⟨ba, 0, none⟩)) :: some (.pointer (some ⟨bb, 0, none⟩)) :: some (.bool false) :: some (.func (.func 48) #[] #[.pointer (some ⟨ba, 0, none⟩), .pointer (some ⟨b, 0, none⟩)]) :: some (.func (.func 49) #[] #[.pointer (some ⟨bb, 0, none⟩), .pointer (some ⟨b, 0, none⟩)]) :: some (.pointer (some ⟨bx, 0, none⟩)) :: some (.pointer (some ⟨bt, 0, none⟩)) :: none :: none :: none :: o4 (some (.slice (some ⟨gA, 0, none⟩) a.L.length cA) :: some (.slice (some ⟨gB, 0, none⟩) a.N.length cB) :: some (.slice (some ⟨gC, 0, none⟩) a.K.length cC) :: none :: o16 (o16 (o64 (o64 (o64 (o64 (o64 (o64 []))))))))) t) {Q : Exit → Array Value → World → Prop} (hQ : ∀ (Z : World) (t : Array Value), Below w.heap.size w Z → Slots (none :: none :: o4 (some (.bool true) :: none :: none :: none :: o4 (o4 (o4 (o16 (o16 (o64 (o64 (o64 (o64 (o64 (o64 [])))))))))))) t → Q .ret t Z) :
    Exec Try.prog none (sub (Try.f12.body.getD .skip) [1, 1, 1, 1, 1, 1, 1, 1, 1, 1, 1, 1]) t W0 Q := by
  have hu25 := Try.underlying25
  obtain ⟨y, hy0⟩ := Slots.open_ hSl; simp only [fill, Nat.reduceAdd] at hy0; subst hy0; clear hSl
  show Exec _ _ (Code.seq _ _) _ _ _
  have c0 := hT0.cell 0 rfl (j := 0) rfl
  have c1 := hT0.cell 0 rfl (j := 1) rfl
  have c2 := hT0.cell 0 rfl (j := 2) rfl
  have hcall := Count_any a W0 (ha.below hT0.below)
  rw [hV.c1] at hcall
  refine exec_seq (exec_region_o fun ds => ?_)
  gi_wp2_with fail
  refine ⟨trivial, rfl, (callsIn_wide.2 hcall).mono ?_⟩
  rintro e W1 ⟨rfl, hy⟩
  have hT1 := hT0.step hy
  have hxa1 := hxa0.below hy
  have hta1 := hta0.below hy
  have hK := hT1.keep
  replace hT1 := hT1.again
  clear hy c0 c1 c2 hcall hT0 hxa0 hta0
  gi_wp2
  refine eq_mk hK ?_
  show Exec _ _ (Code.seq _ _) _ _ _
  clear hK
  clear W0
  have c0 := hT1.cell 3 rfl (j := 0) rfl
  have c1 := hT1.cell 3 rfl (j := 1) rfl
  have c2 := hT1.cell 3 rfl (j := 2) rfl
  have hcall := Count_any x W1 (hxa1)
  rw [hV.c2] at hcall
  refine exec_seq (exec_region_o fun ds => ?_)
  gi_wp2_with fail
  refine ⟨trivial, rfl, (callsIn_wide.2 hcall).mono ?_⟩
  rintro e W2 ⟨rfl, hy⟩
  have hT2 := hT1.step hy
  have hxa2 := hxa1.below hy
  have hta2 := hta1.below hy
  have hK := hT2.keep
  replace hT2 := hT2.again
  clear hy c0 c1 c2 hcall hT1 hxa1 hta1
  gi_wp2
  refine eq_mk hK ?_
  show Exec _ _ (Code.seq _ _) _ _ _
  clear hK
  clear W1
  have c0 := hT2.cell 7 rfl (j := 0) rfl
  have c1 := hT2.cell 7 rfl (j := 1) rfl
  have c2 := hT2.cell 7 rfl (j := 2) rfl
  have hcall := Count_any tw W2 (hta2)
  rw [hV.c3] at hcall
  refine exec_seq (exec_region_o fun ds => ?_)
  gi_wp2_with fail
  refine ⟨trivial, rfl, (callsIn_wide.2 hcall).mono ?_⟩
  rintro e W3 ⟨rfl, hy⟩
  have hT3 := hT2.step hy
  have hxa3 := hxa2.below hy
  have hta3 := hta2.below hy
  have hK := hT3.keep
  replace hT3 := hT3.again
  clear hy c0 c1 c2 hcall hT2 hxa2 hta2
  gi_wp2
  refine eq_mk hK ?_
  show Exec _ _ (Code.seq _ _) _ _ _
  clear hK
  clear W2
  have c0 := hT3.cell 0 rfl (j := 0) rfl
  have c1 := hT3.cell 0 rfl (j := 1) rfl
  have c2 := hT3.cell 0 rfl (j := 2) rfl
  have hcall := Seats_any a W3 (ha.below hT3.below)
  rw [hV.se1] at hcall
  refine exec_seq (exec_region_o fun ds => ?_)
  gi_wp2_with fail
  refine ⟨trivial, rfl, (callsIn_wide.2 hcall).mono ?_⟩
  rintro e W4 ⟨rfl, hy⟩
  have hT4 := hT3.step hy
  have hxa4 := hxa3.below hy
  have hta4 := hta3.below hy
  have hK := hT4.keep
  replace hT4 := hT4.again
  clear hy c0 c1 c2 hcall hT3 hxa3 hta3
  gi_wp2
  refine eq_mk hK ?_
  show Exec _ _ (Code.seq _ _) _ _ _
  clear hK
  clear W3
  have c0 := hT4.cell 3 rfl (j := 0) rfl
  have c1 := hT4.cell 3 rfl (j := 1) rfl
  have c2 := hT4.cell 3 rfl (j := 2) rfl
  have hcall := Seats_any x W4 (hxa4)
  rw [hV.se2] at hcall
  refine exec_seq (exec_region_o fun ds => ?_)
  gi_wp2_with fail
  refine ⟨trivial, rfl, (callsIn_wide.2 hcall).mono ?_⟩
  rintro e W5 ⟨rfl, hy⟩
  have hT5 := hT4.step hy
  have hxa5 := hxa4.below hy
  have hta5 := hta4.below hy
  have hK := hT5.keep
  replace hT5 := hT5.again
  clear hy c0 c1 c2 hcall hT4 hxa4 hta4
  gi_wp2
  refine eq_mk hK ?_
  show Exec _ _ (Code.seq _ _) _ _ _
  clear hK
  clear W4
  have c0 := hT5.cell 0 rfl (j := 0) rfl
  have c1 := hT5.cell 0 rfl (j := 1) rfl
  have c2 := hT5.cell 0 rfl (j := 2) rfl
  have hcall := Busy_any a W5 (ha.below hT5.below)
  rw [hV.b1] at hcall
  refine exec_seq (exec_region_o fun ds => ?_)
  gi_wp2_with fail
  refine ⟨trivial, rfl, (callsIn_wide.2 hcall).mono ?_⟩
  rintro e W6 ⟨rfl, hy⟩
  have hT6 := hT5.step hy
  have hxa6 := hxa5.below hy
  have hta6 := hta5.below hy
  have hK := hT6.keep
  replace hT6 := hT6.again
  clear hy c0 c1 c2 hcall hT5 hxa5 hta5
  gi_wp2
  refine eq_mk hK ?_
  show Exec _ _ (Code.seq _ _) _ _ _
  clear hK
  clear W5
  have c0 := hT6.cell 3 rfl (j := 0) rfl
  have c1 := hT6.cell 3 rfl (j := 1) rfl
  have c2 := hT6.cell 3 rfl (j := 2) rfl
  have hcall := Busy_any x W6 (hxa6)
  rw [hV.b2] at hcall
  refine exec_seq (exec_region_o fun ds => ?_)
  gi_wp2_with fail
  refine ⟨trivial, rfl, (callsIn_wide.2 hcall).mono ?_⟩
  rintro e W7 ⟨rfl, hy⟩
  have hT7 := hT6.step hy
  have hxa7 := hxa6.below hy
  have hta7 := hta6.below hy
  have hK := hT7.keep
  replace hT7 := hT7.again
  clear hy c0 c1 c2 hcall hT6 hxa6 hta6
  gi_wp2
  refine eq_mk hK ?_
  show Exec _ _ (Code.seq _ _) _ _ _
  clear hK
  clear W6
  have c0 := hT7.cell 0 rfl (j := 0) rfl
  have c1 := hT7.cell 0 rfl (j := 1) rfl
  have c2 := hT7.cell 0 rfl (j := 2) rfl
  have hcall := Spare_any a W7 (ha.below hT7.below)
  rw [hV.p1] at hcall
  refine exec_seq (exec_region_o fun ds => ?_)
  gi_wp2_with fail
  refine ⟨trivial, rfl, (callsIn_wide.2 hcall).mono ?_⟩
  rintro e W8 ⟨rfl, hy⟩
  have hT8 := hT7.step hy
  have hxa8 := hxa7.below hy
  have hta8 := hta7.below hy
  have hK := hT8.keep
  replace hT8 := hT8.again
  clear hy c0 c1 c2 hcall hT7 hxa7 hta7
  gi_wp2
  refine eq_mk hK ?_
  show Exec _ _ (Code.seq _ _) _ _ _
  clear hK
  clear W7
  have c0 := hT8.cell 3 rfl (j := 0) rfl
  have c1 := hT8.cell 3 rfl (j := 1) rfl
  have c2 := hT8.cell 3 rfl (j := 2) rfl
  have hcall := Spare_any x W8 (hxa8)
  rw [hV.p2] at hcall
  refine exec_seq (exec_region_o fun ds => ?_)
  gi_wp2_with fail
  refine ⟨trivial, rfl, (callsIn_wide.2 hcall).mono ?_⟩
  rintro e W9 ⟨rfl, hy⟩
  have hT9 := hT8.step hy
  have hxa9 := hxa8.below hy
  have hta9 := hta8.below hy
  have hK := hT9.keep
  replace hT9 := hT9.again
  clear hy c0 c1 c2 hcall hT8 hxa8 hta8
  gi_wp2
  refine eq_mk hK ?_
  show Exec _ _ (Code.seq _ _) _ _ _
  clear hK
  clear W8
  have c0 := hT9.cell 0 rfl (j := 0) rfl
  have c1 := hT9.cell 0 rfl (j := 1) rfl
  have c2 := hT9.cell 0 rfl (j := 2) rfl
  have hcall := Short_any a W9 (ha.below hT9.below)
  rw [hV.h1] at hcall
  refine exec_seq (exec_region_o fun ds => ?_)
  gi_wp2_with fail
  refine ⟨trivial, rfl, (callsIn_wide.2 hcall).mono ?_⟩
  rintro e W10 ⟨rfl, hy⟩
  have hT10 := hT9.step hy
  have hxa10 := hxa9.below hy
  have hta10 := hta9.below hy
  have hK := hT10.keep
  replace hT10 := hT10.again
  clear hy c0 c1 c2 hcall hT9 hxa9 hta9
  gi_wp2
  refine eq_mk hK ?_
  show Exec _ _ (Code.seq _ _) _ _ _
  clear hK
  clear W9
  have c0 := hT10.cell 3 rfl (j := 0) rfl
  have c1 := hT10.cell 3 rfl (j := 1) rfl
  have c2 := hT10.cell 3 rfl (j := 2) rfl
  have hcall := Short_any x W10 (hxa10)
  rw [hV.h2] at hcall
  refine exec_seq (exec_region_o fun ds => ?_)
  gi_wp2_with fail
  refine ⟨trivial, rfl, (callsIn_wide.2 hcall).mono ?_⟩
  rintro e W11 ⟨rfl, hy⟩
  have hT11 := hT10.step hy
  have hxa11 := hxa10.below hy
  have hta11 := hta10.below hy
  have hK := hT11.keep
  replace hT11 := hT11.again
  clear hy c0 c1 c2 hcall hT10 hxa10 hta10
  gi_wp2
  refine eq_mk hK ?_
  show Exec _ _ (Code.seq _ _) _ _ _
  clear hK
  clear W10
  have c0 := hT11.cell 0 rfl (j := 0) rfl
  have c1 := hT11.cell 0 rfl (j := 1) rfl
  have c2 := hT11.cell 0 rfl (j := 2) rfl
  have hcall := Waive_any a W11 (ha.below hT11.below)
  rw [hV.v1] at hcall
  refine exec_seq (exec_region_o fun ds => ?_)
  gi_wp2_with fail
  refine ⟨trivial, rfl, (callsIn_wide.2 hcall).mono ?_⟩
  rintro e W12 ⟨rfl, hy⟩
  have hT12 := hT11.step hy
  have hxa12 := hxa11.below hy
  have hta12 := hta11.below hy
  have hK := hT12.keep
  replace hT12 := hT12.again
  clear hy c0 c1 c2 hcall hT11 hxa11 hta11
  gi_wp2
  refine eq_mk hK ?_
  show Exec _ _ (Code.seq _ _) _ _ _
  clear hK
  clear W11
  have c0 := hT12.cell 3 rfl (j := 0) rfl
  have c1 := hT12.cell 3 rfl (j := 1) rfl
  have c2 := hT12.cell 3 rfl (j := 2) rfl
  have hcall := Waive_any x W12 (hxa12)
  rw [hV.v2] at hcall
  refine exec_seq (exec_region_o fun ds => ?_)
  gi_wp2_with fail
  refine ⟨trivial, rfl, (callsIn_wide.2 hcall).mono ?_⟩
  rintro e W13 ⟨rfl, hy⟩
  have hT13 := hT12.step hy
  have hxa13 := hxa12.below hy
  have hta13 := hta12.below hy
  have hK := hT13.keep
  replace hT13 := hT13.again
  clear hy c0 c1 c2 hcall hT12 hxa12 hta12
  gi_wp2
  refine eq_mk hK ?_
  show Exec _ _ (Code.seq _ _) _ _ _
  clear hK
  clear W12
  refine exec_seq (exec_region_o fun ds => ?_)
  gi_wp2
  refine eq_mk (Keep.refl _) ?_
  show Exec _ _ (Code.seq (Code.seq _ _) _) _ _ _
  refine exec_seq (exec_seq ((tu_r42 (cA := cA) (cB := cB) (cC := cC) (a := a) (b := b) (ba := ba) (bb := bb) (bx := bx) (bt := bt) (gA := gA) (gB := gB) (gC := gC) (n := n) (se := se) (bu := bu) (be := be) (es := es) (eh := eh) (ew := ew) (s0 := s0) (s1 := s1) hV.hp hV.vp hV.hl.1 hV.hl.2 hV.vl.1 hV.vl.2 (Tr.start hT13.below) (by simp [Slots, Fits])).mono ?_))
  clear y
  intro e t W14 hh
  obtain ⟨rfl, hb, hSl⟩ := only_normal hh
  have hT14 := (hT13.step hb).again
  have hxa14 := hxa13.below hb
  clear hh hT13 hxa13 hta13 hb
  clear W13
  obtain ⟨y, hy0⟩ := Slots.open_ hSl; simp only [fill, Nat.reduceAdd] at hy0; subst hy0; clear hSl
  show Exec _ _ (Code.cond _ _ _) _ _ _
  refine exec_cond (b := false) rfl (fun h => by cases h) (fun _ => exec_skip ?_)
  have hq : TqW w a _ b ba bb bx m1 m2 gA gB gC cuA cuB cuC W14 := ⟨hT14.drop (List.sublist_append_left ([(b, .cells #[a.sL, a.sN, a.sK] 25 (0, 0)), (ba, .cells #[.int .u8 (m1 : Int)] 5 (0, 0)), (bb, .cells #[.int .u8 (m2 : Int)] 5 (0, 0)), (bx, .cells #[x.sL, x.sN, x.sK] 25 (0, 0)), (gA, .cells (cuA).toArray 3 (0, 0)), (gB, .cells (cuB).toArray 3 (0, 0)), (gC, .cells (cuC).toArray 50 (0, 0))] : List (Nat × Obj)) [_]), hxa14⟩
  have hps : s0 < 1024 ∧ s1 < 1024 := hV.pl
  show Exec _ _ (Code.seq _ _) _ _ _
  refine exec_seq ((tu_judges (cA := cA) (cB := cB) (cC := cC) hf ha hm1 hm2 hpA hpB hpC hV.pb hps.1 hps.2 hV.pa hq (by simp [Slots, Fits])).mono ?_)
  clear y
  intro e t W15 hh
  obtain ⟨rfl, hq2, hSl⟩ := only_normal hh
  clear hh hq hT14 hxa14
  clear W14
  show Exec _ _ (Code.seq _ _) _ _ _
  refine exec_seq ((tu_pairs hf ha hm1 hm2 hpA hpB hpC hV.pb hps.1 hps.2 hV.pa hq2 hSl).mono ?_)
  clear hSl
  clear t
  intro e t W16 hh
  obtain ⟨rfl, hq3, hSl⟩ := only_normal hh
  have hB := hq3.1.below
  clear hh hq2 hq3
  clear W15
  obtain ⟨y, hy0⟩ := Slots.open_ hSl; simp only [fill, Nat.reduceAdd] at hy0; subst hy0; clear hSl
  show Exec _ _ (Code.seq _ _) _ _ _
  refine exec_seq (exec_region_o fun ds => ?_)
  gi_wp2_with fail
  refine ⟨trivial, rfl, (callsIn_wide.2 (alive14 W16)).mono ?_⟩
  rintro e Y ⟨rfl, hy⟩
  have hBY := hB.trans (hy.mono hB.size)
  gi_wp2
  refine eq_mk (Keep.of_below hy) ?_
  show Exec _ _ _ _ _ _
  exact exec_ret (hQ Y _ hBY (by simp [Slots, Fits]))
end Go.Proofs.Ytbdmmikflkpmpaa
end
