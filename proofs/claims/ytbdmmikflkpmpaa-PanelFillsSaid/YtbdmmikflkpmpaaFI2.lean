/- Parts of the proof: Panels: panels that are changed are copied first. Panels: rows are copied. Panels: changes, one after the other. Drawn regions: an operation that yields a value and makes memory. Panels: who can sit where, at first everybody. Panels: who is kin cannot sit. Panels: they are opened. A deferred function whose first operation is recover, and that hands what it got to another function. Panels: what is needed, and what is caught. Panels: does some of a row have it? Panels: are they valid? Panels: they are valid just if.. Panels: checked, and found to have a seating. Panels: how many seats can be filled. Panels: only some plots have needs. Code that keeps no books of its own: a plainer triple. Panels: all sets, the smaller ones first. Panels: the plots that are too many. Panels: a judge with another load. Panels: a judge with another load, walked. Panels: nobody with more than so many. Panels:  -/
import Derived.Test.YtbdmmikflkpmpaaProg
import Derived.Test.YtbdmmikflkpmpaaFI1
import Derived.WalkKit
import Derived.WalkSpells
import Derived.WalkLawsBesides
import Derived.Outline
import Derived.OwnWalkIn
import Derived.TacticsInMore
import Derived.LoopNIn
import Derived.LoopIn
import Derived.Shelf.RegionOpen
import Derived.Deep.QuietTactic
import Derived.BigQuiet
import Derived.Lib.Hide
import Derived.Maps.AppendAt
import Derived.Laws.OwnMore
set_option linter.unusedVariables false
set_option linter.unusedSimpArgs false
section
namespace Go.Proofs.Ytbdmmikflkpmpaa
open Go.RowKit Go.TL Go.Shelf Go.Pn
attribute [local go_sem] Oper.semAt_some
structure Bx (W : World) (bp bL bN nL nN : Nat) (vL vN : Array Value) (k : Value) : Prop where
  box : W.heap[bp]? = some (.cells #[.slice (some ⟨bL, 0, none⟩) nL nL, .slice (some ⟨bN, 0, none⟩) nN nN, k] 25 (0, 0))
  hl : W.heap[bL]? = some (.cells vL 3 (0, 0))
  hn : W.heap[bN]? = some (.cells vN 3 (0, 0))
  ne1 : bp ≠ bL
  ne2 : bp ≠ bN
  ne3 : bL ≠ bN
theorem Bx.keep {W W' : World} {bp bL bN nL nN : Nat} {vL vN : Array Value} {k : Value} (h : Bx W bp bL bN nL nN vL vN k) (hb : Below W.heap.size W W') : Bx W' bp bL bN nL nN vL vN k :=
  ⟨(hb.block _ (Array.getElem?_eq_some_iff.1 h.box).1).trans h.box, (hb.block _ (Array.getElem?_eq_some_iff.1 h.hl).1).trans h.hl, (hb.block _ (Array.getElem?_eq_some_iff.1 h.hn).1).trans h.hn, h.ne1, h.ne2, h.ne3⟩
theorem box_set (W : World) (b i : Nat) (cs : List Value) (t : TypeId) (v : Value) (h : W.heap[b]? = some (.cells cs.toArray t (0, 0))) : (W.setCell ⟨b, i, none⟩ v).heap[b]? = some (.cells (cs.set i v).toArray t (0, 0)) := by
  rw [heap_set_at, if_pos rfl, h]
  simp [updObj]
theorem box_far (W : World) (b i k : Nat) (v : Value) (o : Obj) (h : W.heap[k]? = some o) (hne : k ≠ b) : (W.setCell ⟨b, i, none⟩ v).heap[k]? = some o := (Below.heap_setCell W ⟨b, i, none⟩ v k hne).trans h
structure OpS (W X : World) (bx bp : Nat) (xs ps : List Value) : Prop where
  gr : W.grownBy X (some bp)
  hx : X.heap[bx]? = some (.cells xs.toArray 25 (0, 0))
  hp : X.heap[bp]? = some (.cells ps.toArray 25 (0, 0))
theorem OpS.alloc {W X : World} {bx bp : Nat} {xs ps : List Value} (h : OpS W X bx bp xs ps) (o : Obj) : OpS W (X.alloc o) bx bp xs ps := by
  have hb := (Below.refl X.heap.size X).alloc (Nat.le_refl _) o
  exact ⟨grown_trans h.gr (grown_below bp hb), (hb.block _ (Array.getElem?_eq_some_iff.1 h.hx).1).trans h.hx, (hb.block _ (Array.getElem?_eq_some_iff.1 h.hp).1).trans h.hp⟩
theorem OpS.set {W X : World} {bx bp : Nat} {xs ps : List Value} (h : OpS W X bx bp xs ps) (hne : bx ≠ bp) (i : Nat) (v : Value) : OpS W (X.setCell ⟨bp, i, none⟩ v) bx bp xs (ps.set i v) :=
  ⟨grown_trans h.gr (grown_set X bp i v), box_far X bp i bx v _ h.hx hne, box_set X bp i ps 25 v h.hp⟩
theorem OpS.c {W X : World} {bx bp : Nat} {xs ps : List Value} (h : OpS W X bx bp xs ps) {i : Nat} {v : Value} (hv : xs[i]? = some v) : X.cell? ⟨bx, i, none⟩ = some v := cells_get h.hx hv
theorem OpS.d {W X : World} {bx bp : Nat} {xs ps : List Value} (h : OpS W X bx bp xs ps) {i : Nat} {v : Value} (hv : ps[i]? = some v) : X.cell? ⟨bp, i, none⟩ = some v := cells_get h.hp hv
theorem OpS.f {W X : World} {bx bp : Nat} {xs ps : List Value} (h : OpS W X bx bp xs ps) (o : Nat) : X.frozen? ⟨bp, o, none⟩ = false := by simp [World.frozen?, h.hp]
theorem OpS.k {W X : World} {bx bp : Nat} {xs ps ps0 : List Value} (h : OpS W X bx bp xs ps) (hp : W.heap[bp]? = some (.cells ps0.toArray 25 (0, 0))) : Keep W X := (Keep.refl W).grown h.gr fun j o hj ho => by
  cases hj
  rw [hp] at ho
  cases ho
  rfl
theorem heap_next {X : World} {k : Nat} {o : Obj} (h : X.heap[k]? = some o) (o' : Obj) : (X.alloc o').heap[k]? = some o := (((Below.refl X.heap.size X).alloc (Nat.le_refl _) o').block _ (Array.getElem?_eq_some_iff.1 h).1).trans h
theorem heap_lt {X : World} {k : Nat} {o : Obj} (h : X.heap[k]? = some o) : k < X.heap.size := (Array.getElem?_eq_some_iff.1 h).1
def o56_0t : It := ⟨(Op.fieldAddr 25 (Operand.tmp 2) 0), some 12, 0, true, none⟩
def o56_1t : It := ⟨(Op.load 22 (Operand.tmp 12)), some 13, 22, true, none⟩
def o56_2t : It := ⟨(Op.call { callee := (Callee.builtin Builtin.len), args := #[(Operand.tmp 13)], argTypes := #[22] }), some 14, 3, true, none⟩
def o56_4t : It := ⟨(Op.fieldAddr 25 (Operand.tmp 2) 1), some 16, 0, true, none⟩
def o56_5t : It := ⟨(Op.load 22 (Operand.tmp 16)), some 17, 22, true, none⟩
def o56_6t : It := ⟨(Op.call { callee := (Callee.builtin Builtin.len), args := #[(Operand.tmp 17)], argTypes := #[22] }), some 18, 3, true, none⟩
def o56_3 : It := ⟨(Op.makeSlice 22 (Operand.tmp 14) (Operand.tmp 14)), some 15, 22, false, none⟩
def o56_8t : It := ⟨(Op.fieldAddr 25 (Operand.tmp 5) 0), some 20, 0, true, none⟩
def o56_7 : It := ⟨(Op.makeSlice 22 (Operand.tmp 18) (Operand.tmp 18)), some 19, 22, false, none⟩
def o56_9 : It := ⟨(Op.store 22 (Operand.tmp 20) (Operand.tmp 15)), none, 0, false, none⟩
def o56_10 : It := ⟨(Op.fieldAddr 25 (Operand.tmp 5) 1), some 21, 0, false, none⟩
def o56_11 : It := ⟨(Op.store 22 (Operand.tmp 21) (Operand.tmp 19)), none, 0, false, none⟩
def o56_8 : It := ⟨(Op.fieldAddr 25 (Operand.tmp 5) 0), some 20, 0, false, none⟩
set_option maxRecDepth 100000 in
set_option maxHeartbeats 4000000 in
theorem op_r2 {W : World} {bx bp nL nN cL cN : Nat} {AL AN : Option Addr} {K v1 : Value} (hx : W.heap[bx]? = some (.cells #[.slice AL nL cL, .slice AN nN cN, K] 25 (0, 0))) (hbp : W.heap[bp]? = some (.cells #[.slice AL nL cL, .slice AN nN cN, K] 25 (0, 0))) (hne : bx ≠ bp) (hnL : nL ≤ 1000000) (hnN : nN ≤ 1000000) (t : Array Value) (hSl : Slots (none :: some (v1) :: some (.pointer (some ⟨bx, 0, none⟩)) :: none :: none :: some (.pointer (some ⟨bp, 0, none⟩)) :: none :: none :: o4 (o16 (o64 []))) t) :
    Exec Try.prog none (sub (Try.f56.body.getD .skip) [1, 1, 0]) t W (andThen (fun t' W' => ∃ bL bN, Bx W' bp bL bN nL nN (zeroI nL) (zeroI nN) K ∧ W.heap.size ≤ bL ∧ W.heap.size ≤ bN ∧ W.grownBy W' (some bp) ∧ Slots (none :: some (v1) :: some (.pointer (some ⟨bx, 0, none⟩)) :: none :: none :: some (.pointer (some ⟨bp, 0, none⟩)) :: none :: none :: o4 (o16 (o64 []))) t') fun _ _ _ => False) := by
  have hu25 := Try.underlying25
  have hu22 := Try.underlying22
  have hbl : bp < W.heap.size := (Array.getElem?_eq_some_iff.1 hbp).1
  have hmnL := fun W' => run_make22 nL hnL W'
  have hmnN := fun W' => run_make22 nN hnN W'
  obtain ⟨x, hx⟩ := Slots.open_ hSl; simp only [fill, Nat.reduceAdd] at hx; subst hx; clear hSl
  have hOd : OpS W W.drew bx bp [.slice AL nL cL, .slice AN nN cN, K] [.slice AL nL cL, .slice AN nN cN, K] := ⟨grown_below bp (Below.refl _ W).drew, hx, hbp⟩
  refine region_tree (c := (sub (Try.f56.body.getD .skip) [1, 1, 0])) (id := 2) (.one 0 true (.one 1 true (.one 2 true (.one 4 true (.one 5 true (.one 6 true (.two 3 7 (.one 8 true (.two 7 9 (.one 9 false (.one 10 false (.one 11 false (.nil)))) (.one 7 false (.one 10 false (.one 11 false (.nil)))))) (.one 3 false (.one 8 false (.one 9 false (.one 10 false (.one 11 false (.nil))))))))))))) (Opq (regOps (sub (Try.f56.body.getD .skip) [1, 1, 0]))) rfl (by kernel_rfl) (by kernel_rfl) (by kernel_rfl) (by kernel_rfl) (by kernel_rfl) (by kernel_rfl) [0, 1, 2, 4, 0, 16, 32, 64, 15, 271, 1023, 2047] (by kernel_rfl) (by kernel_rfl) (fun W' => W'.cell? ⟨bx, 0, none⟩ = some (.slice AL nL cL) ∧ W'.cell? ⟨bx, 1, none⟩ = some (.slice AN nN cN)) (fun _ _ _ => False) (fun _ _ _ h => h.elim) (fun _ _ _ _ _ _ _ _ h => h.elim) fun ds Q' hQn hQp => ?_
  have hO0 := hOd
  generalize W.drew = X0 at *
  refine tr_take o56_0t (.pointer (some ⟨bx, 0, none⟩)) (by kernel_rfl) rfl (by first | exact rfl | trivial) (fun wq hq => ?_) (⟨hO0.c rfl, hO0.c rfl⟩) ?_; (focus (simp [go_sem, mkO, o56_0t, hu25]; done)); simp only [o56_0t, put_eq, List.set_cons_succ, List.set_cons_zero]
  refine tr_take o56_1t (.slice AL nL cL) (by kernel_rfl) rfl (by first | exact rfl | trivial) (fun wq hq => ?_) (⟨hO0.c rfl, hO0.c rfl⟩) ?_; (focus (simp [go_sem, mkO, o56_1t, hq.1]; done)); simp only [o56_1t, put_eq, List.set_cons_succ, List.set_cons_zero]
  refine tr_take o56_2t (iv nL) (by kernel_rfl) rfl (by first | exact rfl | trivial) (fun wq hq => ?_) (⟨hO0.c rfl, hO0.c rfl⟩) ?_; (focus (simp [go_sem, mkO, o56_2t]; done)); simp only [o56_2t, put_eq, List.set_cons_succ, List.set_cons_zero]
  refine tr_take o56_4t (.pointer (some ⟨bx, 1, none⟩)) (by kernel_rfl) rfl (by first | exact rfl | trivial) (fun wq hq => ?_) (⟨hO0.c rfl, hO0.c rfl⟩) ?_; (focus (simp [go_sem, mkO, o56_4t, hu25]; done)); simp only [o56_4t, put_eq, List.set_cons_succ, List.set_cons_zero]
  refine tr_take o56_5t (.slice AN nN cN) (by kernel_rfl) rfl (by first | exact rfl | trivial) (fun wq hq => ?_) (⟨hO0.c rfl, hO0.c rfl⟩) ?_; (focus (simp [go_sem, mkO, o56_5t, hq.2]; done)); simp only [o56_5t, put_eq, List.set_cons_succ, List.set_cons_zero]
  refine tr_take o56_6t (iv nN) (by kernel_rfl) rfl (by first | exact rfl | trivial) (fun wq hq => ?_) (⟨hO0.c rfl, hO0.c rfl⟩) ?_; (focus (simp [go_sem, mkO, o56_6t]; done)); simp only [o56_6t, put_eq, List.set_cons_succ, List.set_cons_zero]
  refine ⟨?_, ?_⟩
  · have hO1 := hO0.alloc (.cells (zeroI nL) 3)
    refine tr_make o56_3 (.slice (some ⟨X0.heap.size, 0, none⟩) nL nL) (X0.alloc (.cells (zeroI nL) 3)) (by kernel_rfl) rfl (by first | exact rfl | trivial) (by simp [go_sem, mkO, o56_3, hmnL]) ⟨hO1.c rfl, hO1.c rfl⟩ ?_; simp only [o56_3, put_eq, List.set_cons_succ, List.set_cons_zero]
    have rnL := World.alloc_heap_new X0 (.cells (zeroI nL) 3)
    have gnL : W.heap.size ≤ X0.heap.size := hO0.gr.size
    obtain ⟨bnL, hbnL⟩ : ∃ b, X0.heap.size = b := ⟨_, rfl⟩
    simp only [hbnL] at rnL gnL ⊢
    generalize X0.alloc (.cells (zeroI nL) 3) = X1 at *
    clear hbnL
    clear hO0
    refine tr_take o56_8t (.pointer (some ⟨bp, 0, none⟩)) (by kernel_rfl) rfl (by first | exact rfl | trivial) (fun wq hq => ?_) (⟨hO1.c rfl, hO1.c rfl⟩) ?_; (focus (simp [go_sem, mkO, o56_8t, hu25]; done)); simp only [o56_8t, put_eq, List.set_cons_succ, List.set_cons_zero]
    refine ⟨?_, ?_⟩
    · have hO2 := hO1.alloc (.cells (zeroI nN) 3)
      refine tr_make o56_7 (.slice (some ⟨X1.heap.size, 0, none⟩) nN nN) (X1.alloc (.cells (zeroI nN) 3)) (by kernel_rfl) rfl (by first | exact rfl | trivial) (by simp [go_sem, mkO, o56_7, hmnN]) ⟨hO2.c rfl, hO2.c rfl⟩ ?_; simp only [o56_7, put_eq, List.set_cons_succ, List.set_cons_zero]
      have rnN := World.alloc_heap_new X1 (.cells (zeroI nN) 3)
      have gnN : W.heap.size ≤ X1.heap.size := hO1.gr.size
      have nenLnN := heap_lt rnL; replace rnL := heap_next rnL (.cells (zeroI nN) 3)
      obtain ⟨bnN, hbnN⟩ : ∃ b, X1.heap.size = b := ⟨_, rfl⟩
      simp only [hbnN] at rnN gnN nenLnN ⊢
      generalize X1.alloc (.cells (zeroI nN) 3) = X2 at *
      clear hbnN
      clear hO1
      have hd := hO2.d (i := 0) rfl; have hf := hO2.f; have hO3 := hO2.set hne 0 (.slice (some ⟨bnL, 0, none⟩) nL nL)
      refine tr_store o56_9 (X2.setCell ⟨bp, 0, none⟩ (.slice (some ⟨bnL, 0, none⟩) nL nL)) (by kernel_rfl) rfl (by first | exact rfl | trivial) (by simp [go_sem, mkO, o56_9, hd, hf]) ⟨hO3.c rfl, hO3.c rfl⟩ ?_; simp only [o56_9, put_none]
      replace rnL := box_far X2 bp 0 _ (.slice (some ⟨bnL, 0, none⟩) nL nL) _ rnL (by omega)
      replace rnN := box_far X2 bp 0 _ (.slice (some ⟨bnL, 0, none⟩) nL nL) _ rnN (by omega)
      clear hd hf
      generalize X2.setCell ⟨bp, 0, none⟩ (.slice (some ⟨bnL, 0, none⟩) nL nL) = X3 at *
      clear hO2
      refine tr_make o56_10 (.pointer (some ⟨bp, 1, none⟩)) _ (by kernel_rfl) rfl (by first | exact rfl | trivial) ?_ (⟨hO3.c rfl, hO3.c rfl⟩) ?_; (focus (simp [go_sem, mkO, o56_10, hu25]; done)); simp only [o56_10, put_eq, List.set_cons_succ, List.set_cons_zero]
      have hd := hO3.d (i := 1) rfl; have hf := hO3.f; have hO4 := hO3.set hne 1 (.slice (some ⟨bnN, 0, none⟩) nN nN)
      refine tr_store o56_11 (X3.setCell ⟨bp, 1, none⟩ (.slice (some ⟨bnN, 0, none⟩) nN nN)) (by kernel_rfl) rfl (by first | exact rfl | trivial) (by simp [go_sem, mkO, o56_11, hd, hf]) ⟨hO4.c rfl, hO4.c rfl⟩ ?_; simp only [o56_11, put_none]
      replace rnL := box_far X3 bp 1 _ (.slice (some ⟨bnN, 0, none⟩) nN nN) _ rnL (by omega)
      replace rnN := box_far X3 bp 1 _ (.slice (some ⟨bnN, 0, none⟩) nN nN) _ rnN (by omega)
      clear hd hf
      generalize X3.setCell ⟨bp, 1, none⟩ (.slice (some ⟨bnN, 0, none⟩) nN nN) = X4 at *
      clear hO3
      exact hQn _ _ (hO4.k (ps0 := [_, _, _]) hbp) ⟨bnL, bnN, ⟨hO4.hp, rnL, rnN, by omega, by omega, by omega⟩, gnL, gnN, hO4.gr, (by simp only [Slots, Fits, and_self])⟩
    · have hd := hO1.d (i := 0) rfl; have hf := hO1.f; have hO2 := hO1.set hne 0 (.slice (some ⟨bnL, 0, none⟩) nL nL)
      refine tr_store o56_9 (X1.setCell ⟨bp, 0, none⟩ (.slice (some ⟨bnL, 0, none⟩) nL nL)) (by kernel_rfl) rfl (by first | exact rfl | trivial) (by simp [go_sem, mkO, o56_9, hd, hf]) ⟨hO2.c rfl, hO2.c rfl⟩ ?_; simp only [o56_9, put_none]
      replace rnL := box_far X1 bp 0 _ (.slice (some ⟨bnL, 0, none⟩) nL nL) _ rnL (by omega)
      clear hd hf
      generalize X1.setCell ⟨bp, 0, none⟩ (.slice (some ⟨bnL, 0, none⟩) nL nL) = X2 at *
      clear hO1
      have hO3 := hO2.alloc (.cells (zeroI nN) 3)
      refine tr_make o56_7 (.slice (some ⟨X2.heap.size, 0, none⟩) nN nN) (X2.alloc (.cells (zeroI nN) 3)) (by kernel_rfl) rfl (by first | exact rfl | trivial) (by simp [go_sem, mkO, o56_7, hmnN]) ⟨hO3.c rfl, hO3.c rfl⟩ ?_; simp only [o56_7, put_eq, List.set_cons_succ, List.set_cons_zero]
      have rnN := World.alloc_heap_new X2 (.cells (zeroI nN) 3)
      have gnN : W.heap.size ≤ X2.heap.size := hO2.gr.size
      have nenLnN := heap_lt rnL; replace rnL := heap_next rnL (.cells (zeroI nN) 3)
      obtain ⟨bnN, hbnN⟩ : ∃ b, X2.heap.size = b := ⟨_, rfl⟩
      simp only [hbnN] at rnN gnN nenLnN ⊢
      generalize X2.alloc (.cells (zeroI nN) 3) = X3 at *
      clear hbnN
      clear hO2
      refine tr_make o56_10 (.pointer (some ⟨bp, 1, none⟩)) _ (by kernel_rfl) rfl (by first | exact rfl | trivial) ?_ (⟨hO3.c rfl, hO3.c rfl⟩) ?_; (focus (simp [go_sem, mkO, o56_10, hu25]; done)); simp only [o56_10, put_eq, List.set_cons_succ, List.set_cons_zero]
      have hd := hO3.d (i := 1) rfl; have hf := hO3.f; have hO4 := hO3.set hne 1 (.slice (some ⟨bnN, 0, none⟩) nN nN)
      refine tr_store o56_11 (X3.setCell ⟨bp, 1, none⟩ (.slice (some ⟨bnN, 0, none⟩) nN nN)) (by kernel_rfl) rfl (by first | exact rfl | trivial) (by simp [go_sem, mkO, o56_11, hd, hf]) ⟨hO4.c rfl, hO4.c rfl⟩ ?_; simp only [o56_11, put_none]
      replace rnL := box_far X3 bp 1 _ (.slice (some ⟨bnN, 0, none⟩) nN nN) _ rnL (by omega)
      replace rnN := box_far X3 bp 1 _ (.slice (some ⟨bnN, 0, none⟩) nN nN) _ rnN (by omega)
      clear hd hf
      generalize X3.setCell ⟨bp, 1, none⟩ (.slice (some ⟨bnN, 0, none⟩) nN nN) = X4 at *
      clear hO3
      exact hQn _ _ (hO4.k (ps0 := [_, _, _]) hbp) ⟨bnL, bnN, ⟨hO4.hp, rnL, rnN, by omega, by omega, by omega⟩, gnL, gnN, hO4.gr, (by simp only [Slots, Fits, and_self])⟩
  · have hO1 := hO0.alloc (.cells (zeroI nN) 3)
    refine tr_make o56_7 (.slice (some ⟨X0.heap.size, 0, none⟩) nN nN) (X0.alloc (.cells (zeroI nN) 3)) (by kernel_rfl) rfl (by first | exact rfl | trivial) (by simp [go_sem, mkO, o56_7, hmnN]) ⟨hO1.c rfl, hO1.c rfl⟩ ?_; simp only [o56_7, put_eq, List.set_cons_succ, List.set_cons_zero]
    have rnN := World.alloc_heap_new X0 (.cells (zeroI nN) 3)
    have gnN : W.heap.size ≤ X0.heap.size := hO0.gr.size
    obtain ⟨bnN, hbnN⟩ : ∃ b, X0.heap.size = b := ⟨_, rfl⟩
    simp only [hbnN] at rnN gnN ⊢
    generalize X0.alloc (.cells (zeroI nN) 3) = X1 at *
    clear hbnN
    clear hO0
    have hO2 := hO1.alloc (.cells (zeroI nL) 3)
    refine tr_make o56_3 (.slice (some ⟨X1.heap.size, 0, none⟩) nL nL) (X1.alloc (.cells (zeroI nL) 3)) (by kernel_rfl) rfl (by first | exact rfl | trivial) (by simp [go_sem, mkO, o56_3, hmnL]) ⟨hO2.c rfl, hO2.c rfl⟩ ?_; simp only [o56_3, put_eq, List.set_cons_succ, List.set_cons_zero]
    have rnL := World.alloc_heap_new X1 (.cells (zeroI nL) 3)
    have gnL : W.heap.size ≤ X1.heap.size := hO1.gr.size
    have nenNnL := heap_lt rnN; replace rnN := heap_next rnN (.cells (zeroI nL) 3)
    obtain ⟨bnL, hbnL⟩ : ∃ b, X1.heap.size = b := ⟨_, rfl⟩
    simp only [hbnL] at rnL gnL nenNnL ⊢
    generalize X1.alloc (.cells (zeroI nL) 3) = X2 at *
    clear hbnL
    clear hO1
    refine tr_make o56_8 (.pointer (some ⟨bp, 0, none⟩)) _ (by kernel_rfl) rfl (by first | exact rfl | trivial) ?_ (⟨hO2.c rfl, hO2.c rfl⟩) ?_; (focus (simp [go_sem, mkO, o56_8, hu25]; done)); simp only [o56_8, put_eq, List.set_cons_succ, List.set_cons_zero]
    have hd := hO2.d (i := 0) rfl; have hf := hO2.f; have hO3 := hO2.set hne 0 (.slice (some ⟨bnL, 0, none⟩) nL nL)
    refine tr_store o56_9 (X2.setCell ⟨bp, 0, none⟩ (.slice (some ⟨bnL, 0, none⟩) nL nL)) (by kernel_rfl) rfl (by first | exact rfl | trivial) (by simp [go_sem, mkO, o56_9, hd, hf]) ⟨hO3.c rfl, hO3.c rfl⟩ ?_; simp only [o56_9, put_none]
    replace rnN := box_far X2 bp 0 _ (.slice (some ⟨bnL, 0, none⟩) nL nL) _ rnN (by omega)
    replace rnL := box_far X2 bp 0 _ (.slice (some ⟨bnL, 0, none⟩) nL nL) _ rnL (by omega)
    clear hd hf
    generalize X2.setCell ⟨bp, 0, none⟩ (.slice (some ⟨bnL, 0, none⟩) nL nL) = X3 at *
    clear hO2
    refine tr_make o56_10 (.pointer (some ⟨bp, 1, none⟩)) _ (by kernel_rfl) rfl (by first | exact rfl | trivial) ?_ (⟨hO3.c rfl, hO3.c rfl⟩) ?_; (focus (simp [go_sem, mkO, o56_10, hu25]; done)); simp only [o56_10, put_eq, List.set_cons_succ, List.set_cons_zero]
    have hd := hO3.d (i := 1) rfl; have hf := hO3.f; have hO4 := hO3.set hne 1 (.slice (some ⟨bnN, 0, none⟩) nN nN)
    refine tr_store o56_11 (X3.setCell ⟨bp, 1, none⟩ (.slice (some ⟨bnN, 0, none⟩) nN nN)) (by kernel_rfl) rfl (by first | exact rfl | trivial) (by simp [go_sem, mkO, o56_11, hd, hf]) ⟨hO4.c rfl, hO4.c rfl⟩ ?_; simp only [o56_11, put_none]
    replace rnN := box_far X3 bp 1 _ (.slice (some ⟨bnN, 0, none⟩) nN nN) _ rnN (by omega)
    replace rnL := box_far X3 bp 1 _ (.slice (some ⟨bnN, 0, none⟩) nN nN) _ rnL (by omega)
    clear hd hf
    generalize X3.setCell ⟨bp, 1, none⟩ (.slice (some ⟨bnN, 0, none⟩) nN nN) = X4 at *
    clear hO3
    exact hQn _ _ (hO4.k (ps0 := [_, _, _]) hbp) ⟨bnL, bnN, ⟨hO4.hp, rnL, rnN, by omega, by omega, by omega⟩, gnL, gnN, hO4.gr, (by simp only [Slots, Fits, and_self])⟩
end Go.Proofs.Ytbdmmikflkpmpaa
end

section
namespace Go.Proofs.Ytbdmmikflkpmpaa
open Go.RowKit Go.TL Go.Shelf Go.Pn
attribute [local go_sem] Oper.semAt_some
section
variable {F : Fence} {n : Nat} {P : Program} {ops : Array Oper} {rest : List Oper} {o : Oper} {a : Act} {Q : Exit → Act → World → Prop} {w : World}
theorem walk_copy (hg : o.guard = none) {d s : Operand} {t t' : TypeId} (hop : o.op = .call { callee := .builtin .copy, args := #[d, s], argTypes := #[t, t'] }) {v u v' : Value} {w' : World} (hd : a.eval d = v) (hs : a.eval s = u)
    (hr : (Builtin.copy_ #[t, t'] o.type #[v, u]).run P w = .ok v' w') (hK : wpListIn F n P ops Q rest (a.put o.dst v') w') : wpListIn F n P ops Q (o :: rest) a w := by
  refine wpListIn_plain hg fun K' hK' => ?_
  unfold Oper.wpIn
  refine ⟨?_, ?_⟩
  · simp [Oper.about, hop, resolve, Target.leads, Sem.run_pure]
  · rw [Oper.semAt_plain F _ _ (by rw [hop]; intro c hc'; cases hc')]
    simp [execOp, hop, resolve, invoke, builtin, hd, hs, hr, Result.andThen]
    exact hK' _ _ hK
end
def RowK (W : World) (A : Option Addr) (K : List (Nat × Nat)) : Prop := ∀ (i : Nat) (k : Nat × Nat), K[i]? = some k → ∃ a, A = some a ∧ W.cell? (a.add (i * 2)) = some (iv k.1) ∧ W.cell? ⟨(a.add (i * 2)).block, (a.add (i * 2)).off + 1, none⟩ = some (iv k.2)
theorem RowK.grow {W W' : World} {n : Nat} {A : Option Addr} {K : List (Nat × Nat)} (h : RowK W A K) (hG : Grow n W W') : RowK W' A K := fun i k hk => by
  obtain ⟨a, e, h1, h2⟩ := h i k hk
  exact ⟨a, e, hG.cell h1, hG.cell h2⟩
structure NP where
  AL : Option Addr
  cL : Nat
  L : List Nat
  AN : Option Addr
  cN : Nat
  N : List Nat
  AK : Option Addr
  cK : Nat
  K : List (Nat × Nat)
def NP.sL (x : NP) : Value := .slice x.AL x.L.length x.cL
def NP.sN (x : NP) : Value := .slice x.AN x.N.length x.cN
def NP.sK (x : NP) : Value := .slice x.AK x.K.length x.cK
def NP.val (x : NP) : Value := .agg #[x.sL, x.sN, x.sK]
structure NP.At (x : NP) (w : World) : Prop where
  l : RowV w x.AL (x.L.map iv)
  n : RowV w x.AN (x.N.map iv)
  k : RowK w x.AK x.K
theorem NP.At.grow {x : NP} {w w' : World} {b : Nat} (h : x.At w) (hG : Grow b w w') : x.At w' := ⟨h.l.grow hG, h.n.grow hG, h.k.grow hG⟩
theorem NP.At.below {x : NP} {w w' : World} (h : x.At w) (hb : Below w.heap.size w w') : x.At w' := h.grow (Grow.of_below (B := 0) hb)
theorem zeroI_iv (l : List Nat) : (zeroI l.length).size = l.length := zeroI_size _
structure OB (W : World) (bp bL bN : Nat) (L N : List Nat) (AK : Option Addr) (cK : Nat) (K : List (Nat × Nat)) : Prop where
  bx : Bx W bp bL bN L.length N.length (L.map iv).toArray (N.map iv).toArray (.slice AK K.length cK)
  k : RowK W AK K
  f : K ≠ [] → ∀ a, AK = some a → a.block ≠ bL ∧ a.block ≠ bN ∧ a.block ≠ bp
theorem RowK.low {W : World} {A : Option Addr} {K : List (Nat × Nat)} (h : RowK W A K) (hK : K ≠ []) : ∀ a, A = some a → a.block < W.heap.size := by
  intro a e
  obtain ⟨k, hk⟩ : ∃ k, K[0]? = some k := by
    cases K with
    | nil => exact absurd rfl hK
    | cons k r => exact ⟨k, rfl⟩
  obtain ⟨a', e', h1, _⟩ := h 0 k hk
  rw [e] at e'
  cases e'
  have := World.block_lt_of_cell? W _ h1
  simpa [Addr.add] using this
set_option maxRecDepth 100000 in
set_option maxHeartbeats 4000000 in
theorem op_start {a : NP} {w : World} (ha : a.At w) (hL : a.L.length ≤ 1000) (hN : a.N.length ≤ 1000) (v1 : Value) (t : Array Value) (hSl : Slots (some (a.val) :: some (v1) :: none :: none :: o4 (o4 (o16 (o64 [])))) t) (Q : Exit → Array Value → World → Prop)
    (h : ∀ t' W bp bL bN, Below w.heap.size w W → w.heap.size ≤ bp → w.heap.size ≤ bL → w.heap.size ≤ bN → OB W bp bL bN a.L a.N a.AK a.cK a.K → Slots (none :: some (v1) :: none :: none :: none :: some (.pointer (some ⟨bp, 0, none⟩)) :: none :: none :: o4 (o16 (o64 []))) t' → Exec Try.prog none (sub (Try.f56.body.getD .skip) [1, 1, 1, 1, 1]) t' W Q) :
    Exec Try.prog none (Try.f56.body.getD .skip) t w Q := by
  have hu25 := Try.underlying25
  have hu22 := Try.underlying22
  obtain ⟨x, hx⟩ := Slots.open_ hSl; simp only [fill, Nat.reduceAdd] at hx; subst hx; clear hSl
  simp only [NP.val, NP.sL, NP.sN, NP.sK]
  show Exec _ _ (Code.seq _ _) _ _ _
  refine exec_seq (exec_region_o fun ds => ?_)
  gi_wp2
  refine eq_mk ((Keep.refl _).alloc _) ?_
  show Exec _ _ _ _ _ _
  have b1 : (w.alloc (.cells #[(.slice a.AL a.L.length a.cL), (.slice a.AN a.N.length a.cN), (.slice a.AK a.K.length a.cK)] 25)).heap[w.heap.size]? = some (.cells #[(.slice a.AL a.L.length a.cL), (.slice a.AN a.N.length a.cN), (.slice a.AK a.K.length a.cK)] 25 (0, 0)) := World.alloc_heap_new _ _
  have hB := (Below.refl w.heap.size w).alloc (Nat.le_refl _) (.cells #[(.slice a.AL a.L.length a.cL), (.slice a.AN a.N.length a.cN), (.slice a.AK a.K.length a.cK)] 25)
  have hlt := heap_lt b1
  generalize w.alloc (.cells #[(.slice a.AL a.L.length a.cL), (.slice a.AN a.N.length a.cN), (.slice a.AK a.K.length a.cK)] 25) = V at *
  have c0 := cells_get (cs := [_, _, _]) (k := 0) b1 rfl
  have c1 := cells_get (cs := [_, _, _]) (k := 1) b1 rfl
  have c2 := cells_get (cs := [_, _, _]) (k := 2) b1 rfl
  refine exec_seq (exec_region_o fun ds => ?_)
  gi_wp2
  refine eq_mk ((Keep.refl _).alloc _) ?_
  show Exec _ _ _ _ _ _
  clear c0 c1 c2
  have hZp : (V.alloc (.cells #[.slice a.AL a.L.length a.cL, .slice a.AN a.N.length a.cN, .slice a.AK a.K.length a.cK] 25)).heap[V.heap.size]? = some (.cells #[.slice a.AL a.L.length a.cL, .slice a.AN a.N.length a.cN, .slice a.AK a.K.length a.cK] 25 (0, 0)) := World.alloc_heap_new _ _
  have hZx := heap_next b1 (.cells #[.slice a.AL a.L.length a.cL, .slice a.AN a.N.length a.cN, .slice a.AK a.K.length a.cK] 25)
  have hZB := hB.alloc hB.size (.cells #[.slice a.AL a.L.length a.cL, .slice a.AN a.N.length a.cN, .slice a.AK a.K.length a.cK] 25)
  generalize V.alloc (.cells #[.slice a.AL a.L.length a.cL, .slice a.AN a.N.length a.cN, .slice a.AK a.K.length a.cK] 25) = Z at *
  clear hB
  obtain ⟨bp, hbp⟩ : ∃ b, V.heap.size = b := ⟨_, rfl⟩
  simp only [hbp] at hZp hlt ⊢
  clear b1 hbp
  clear V
  refine exec_seq ((op_r2 (bx := w.heap.size) (bp := bp) (v1 := v1) hZx hZp (by omega) (by omega) (by omega) _ (by simp only [Slots, Fits, and_self])).mono ?_)
  intro e t' X hh
  obtain ⟨rfl, bL, bN, hX, hbL, hbN, hgr, hSl⟩ := only_normal hh
  clear hh x
  obtain ⟨x, hx⟩ := Slots.open_ hSl; simp only [fill, Nat.reduceAdd] at hx; subst hx; clear hSl
  show Exec _ _ _ _ _ _
  have hXB : Below w.heap.size w X := hZB.grown hgr hZB.size (fun q e => by cases e; omega)
  have hXx := (hgr.block w.heap.size (heap_lt hZx) (fun e => by have := Option.some.inj e; omega)).trans hZx
  have hwb := hZB.size
  have hltL : w.heap.size < bL := by have := heap_lt hZx; omega
  have hltN : w.heap.size < bN := by have := heap_lt hZx; omega
  clear hgr hZx hZp hZB hwb hbL hbN
  clear Z
  have hAX := ha.below hXB
  obtain ⟨X2, hcp, hh2, hg2⟩ := run_copy22 X 3 bL a.L.length a.cL a.AL (zeroI a.L.length) a.L rfl hX.hl (zeroI_iv _) hAX.l
  have c0 := cells_get (cs := [_, _, _]) (k := 0) hX.box rfl
  have c1 := cells_get (cs := [_, _, _]) (k := 0) hXx rfl
  refine exec_seq (exec_region_o fun ds => ?_)
  gi_wp2_with (gi_at_builtin; refine walk_copy rfl rfl rfl rfl hcp ?_)
  refine eq_mk ((Keep.refl _).grown hg2 (fun j o hj ho => by cases hj; rw [hX.hl] at ho; cases ho; rfl)) ?_
  show Exec _ _ _ _ _ _
  have far : ∀ k o, X.heap[k]? = some o → k ≠ bL → X2.heap[k]? = some o := fun k o hk hne => (hg2.block k (heap_lt hk) (fun e => hne (Option.some.inj e))).trans hk
  have hY : Bx X2 bp bL bN a.L.length a.N.length (a.L.map iv).toArray (zeroI a.N.length) (.slice a.AK a.K.length a.cK) := ⟨far _ _ hX.box hX.ne1, hh2, far _ _ hX.hn (fun e => hX.ne3 e.symm), hX.ne1, hX.ne2, hX.ne3⟩
  have hYx := far _ _ hXx (by omega)
  have hYB := hXB.grown hg2 hXB.size (fun q e => by cases e; omega)
  clear far hcp hh2 hg2 hX hXx hXB c0 c1 hAX
  clear X
  have hAX := ha.below hYB
  obtain ⟨X3, hcp, hh2, hg2⟩ := run_copy22 X2 3 bN a.N.length a.cN a.AN (zeroI a.N.length) a.N rfl hY.hn (zeroI_iv _) hAX.n
  have c0 := cells_get (cs := [_, _, _]) (k := 1) hY.box rfl
  have c1 := cells_get (cs := [_, _, _]) (k := 1) hYx rfl
  refine exec_seq (exec_region_o fun ds => ?_)
  gi_wp2_with (gi_at_builtin; refine walk_copy rfl rfl rfl rfl hcp ?_)
  refine eq_mk ((Keep.refl _).grown hg2 (fun j o hj ho => by cases hj; rw [hY.hn] at ho; cases ho; rfl)) ?_
  show Exec _ _ _ _ _ _
  have far : ∀ k o, X2.heap[k]? = some o → k ≠ bN → X3.heap[k]? = some o := fun k o hk hne => (hg2.block k (heap_lt hk) (fun e => hne (Option.some.inj e))).trans hk
  have hW : Bx X3 bp bL bN a.L.length a.N.length (a.L.map iv).toArray (a.N.map iv).toArray (.slice a.AK a.K.length a.cK) := ⟨far _ _ hY.box hY.ne2, far _ _ hY.hl hY.ne3, hh2, hY.ne1, hY.ne2, hY.ne3⟩
  have hWB := hYB.grown hg2 hYB.size (fun q e => by cases e; omega)
  exact h _ X3 bp bL bN hWB (by omega) (by omega) (by omega) ⟨hW, (ha.below hWB).k, fun hK a e => by have := ha.k.low hK a e; omega⟩ (by simp only [Slots, Fits, and_self])
end Go.Proofs.Ytbdmmikflkpmpaa
end

section
namespace Go.Proofs.Ytbdmmikflkpmpaa
open Go.RowKit Go.TL Go.Shelf Go.Pn
attribute [local go_sem] Oper.semAt_some
theorem run_store_func (P : Program) (w : World) (a : Addr) (f : Fn) (r c : Array Value) (m : Mode) : (store a (.func f r c) m).run P w = stored P w a (.func f r c) m := run_store P w a _ m rfl
attribute [local go_sem] run_store_func
abbrev S3 := List Nat × List Nat × List (Nat × Nat)
def S3.Ok (s : S3) : Prop := s.1.length ≤ 40 ∧ s.2.1.length ≤ 40 ∧ s.2.2.length ≤ 40
structure Chg (V : World) (g : Nat) (lb : Array Value) (T : S3 → S3) (R : S3 → Prop) : Prop where
  eg : ∀ args w, (callFunc g args).run Try.prog w = .ok (.enter g args) w
  len : ∀ s : S3, s.Ok → (T s).Ok
  run : ∀ (W : World) (bp bL bN : Nat) (s : S3) (AK : Option Addr) (cK : Nat), Below V.heap.size V W → V.heap.size ≤ bp → V.heap.size ≤ bL → V.heap.size ≤ bN → s.Ok → R s → OB W bp bL bN s.1 s.2.1 AK cK s.2.2 →
    Calls Try.prog g (#[.pointer (some ⟨bp, 0, none⟩)] ++ lb) W fun e W' => (∃ v, e = .returned v) ∧ Keep W W' ∧ Below V.heap.size V W' ∧ ∃ AK' cK', OB W' bp bL bN (T s).1 (T s).2.1 AK' cK' (T s).2.2
abbrev Ch := Nat × Array Value × (S3 → S3) × (S3 → Prop)
def chgs (cs : List Ch) (s : S3) : S3 := cs.foldl (fun s c => c.2.2.1 s) s
def ChI (V : World) (bp bL bN : Nat) (cs : List Ch) (s0 : S3) (v1 : Value) (n : Nat) (t : Array Value) (W : World) : Prop :=
  ∃ (i : Nat) (AK : Option Addr) (cK : Nat), i ≤ cs.length ∧ n = cs.length - i ∧ Below V.heap.size V W ∧ (chgs (cs.take i) s0).Ok ∧ OB W bp bL bN (chgs (cs.take i) s0).1 (chgs (cs.take i) s0).2.1 AK cK (chgs (cs.take i) s0).2.2 ∧
    Slots (none :: o4 (some (.pointer (some ⟨bp, 0, none⟩)) :: none :: none :: o4 (o4 (o16 (some (v1) :: some (iv cs.length) :: some (iv i) :: none :: o4 (o4 (o16 (o16 (o16 []))))))))) t
def ChE (V : World) (bp bL bN : Nat) (s : S3) (t : Array Value) (W : World) : Prop :=
  ∃ (AK : Option Addr) (cK : Nat), Below V.heap.size V W ∧ s.Ok ∧ OB W bp bL bN s.1 s.2.1 AK cK s.2.2 ∧ Slots (none :: o4 (some (.pointer (some ⟨bp, 0, none⟩)) :: none :: none :: o4 (o16 (o64 [])))) t
def ChM (V : World) (bp bL bN : Nat) (m i : Nat) (s : S3) (v1 : Value) (t : Array Value) (W : World) : Prop :=
  ∃ (AK : Option Addr) (cK : Nat), Below V.heap.size V W ∧ s.Ok ∧ OB W bp bL bN s.1 s.2.1 AK cK s.2.2 ∧ Slots (none :: o4 (some (.pointer (some ⟨bp, 0, none⟩)) :: none :: none :: o4 (o4 (o16 (some (v1) :: some (iv m) :: some (iv i) :: none :: o4 (o4 (o16 (o16 (o16 []))))))))) t
set_option maxRecDepth 100000 in
set_option maxHeartbeats 4000000 in
theorem op_chg {V : World} {cs : List Ch} {Al : Option Addr} {cl : Nat} (hcs : ∀ c ∈ cs, Chg V c.1 c.2.1 c.2.2.1 c.2.2.2) (hm : cs.length ≤ 1000) (hrow : ∀ i c, cs[i]? = some c → ∃ a, Al = some a ∧ V.cell? (a.add i) = some (.func (.func c.1) #[] c.2.1)) {W : World} {bp bL bN : Nat} {s0 : S3} {AK : Option Addr} {cK : Nat}
    (hV : Below V.heap.size V W) (hbp : V.heap.size ≤ bp) (hbL : V.heap.size ≤ bL) (hbN : V.heap.size ≤ bN) (hok : s0.Ok) (hpre : ∀ (i : Nat) (c : Ch), cs[i]? = some c → c.2.2.2 (chgs (cs.take i) s0)) (hO : OB W bp bL bN s0.1 s0.2.1 AK cK s0.2.2) (t : Array Value) (hSl : Slots (none :: some (.slice Al cs.length cl) :: none :: none :: none :: some (.pointer (some ⟨bp, 0, none⟩)) :: none :: none :: o4 (o16 (o64 []))) t) :
    Exec Try.prog none (sub (Try.f56.body.getD .skip) [1, 1, 1, 1, 1, 0]) t W (andThen (ChE V bp bL bN (chgs cs s0)) fun _ _ _ => False) := by
  have hu136 := Try.underlying136
  have hu83 := Try.underlying83
  obtain ⟨x, hx⟩ := Slots.open_ hSl; simp only [fill, Nat.reduceAdd] at hx; subst hx; clear hSl
  show Exec _ _ (Code.seq _ _) _ _ _
  refine exec_seq (exec_region_o fun ds => ?_)
  gi_wp2
  refine eq_mk (Keep.refl _) ?_
  show Exec _ _ _ _ _ _
  refine exec_block ?_
  refine exec_loop (ChI V bp bL bN cs s0 (.slice Al cs.length cl)) cs.length ⟨0, AK, cK, by omega, rfl, hV, hok, hO, by simp [Slots, Fits]⟩ ?_
  clear hV hok hO
  clear x W AK cK
  rintro n t W ⟨i, AK, cK, hi, hn, hV, hok, hO, hSl⟩
  obtain ⟨s, hs⟩ : ∃ s, chgs (cs.take i) s0 = s := ⟨_, rfl⟩
  rw [hs] at hok hO
  obtain ⟨x, hx⟩ := Slots.open_ hSl; simp only [fill, Nat.reduceAdd] at hx; subst hx; clear hSl
  refine exec_seq (exec_region_o fun ds => ?_)
  gi_wp2
  refine eq_mk (Keep.refl _) ?_
  show Exec _ _ _ _ _ _
  refine exec_seq (exec_cond (b := decide (i < cs.length)) (by first | rfl | (show Value.bool _ = _; congr 1; exact decide_eq_decide.2 (by omega))) (fun hp => exec_skip ?_) (fun hp => exec_exit ?_))
  · have hil : i < cs.length := by have := of_decide_eq_true hp; omega
    show Exec _ _ _ _ _ _
    obtain ⟨c, hc⟩ : ∃ c, cs[i]? = some c := ⟨_, List.getElem?_eq_getElem hil⟩
    obtain ⟨al, hA, hcell⟩ := hrow i c hc
    have hch := hcs c (List.mem_of_getElem? hc)
    have hpr := hpre i c hc
    rw [hs] at hpr
    have hst : chgs (cs.take (i + 1)) s0 = c.2.2.1 s := by
      unfold chgs at hs ⊢
      rw [List.take_add_one, hc, List.foldl_append, hs]
      rfl
    obtain ⟨g, lb, T, R⟩ := c
    subst hA
    have hcW := (Grow.of_below (B := 0) hV).cell hcell
    have hiI : (i : Int) < cs.length := by omega
    refine exec_cut (ChM V bp bL bN cs.length i (T s) (.slice (some al) cs.length cl)) ?_ ?_
    · refine exec_block (exec_seq (exec_region_o fun ds => ?_))
      gi_wp2
      refine eq_mk ((Keep.refl _).alloc _) ?_
      show Exec _ _ _ _ _ _
      have hB1 := (Below.refl W.heap.size W).alloc (Nat.le_refl _) (.cells #[.func (.func g) #[] lb] 83)
      have hbox := Boxed.new W 83 (.func (.func g) #[] lb)
      have hO1 : OB (W.alloc (.cells #[.func (.func g) #[] lb] 83)) bp bL bN s.1 s.2.1 AK cK s.2.2 := ⟨hO.bx.keep hB1, hO.k.grow (Grow.of_below (B := 0) hB1), hO.f⟩
      have hV1 := hV.trans (hB1.mono hV.size)
      generalize W.alloc (.cells #[.func (.func g) #[] lb] 83) = X at *
      generalize W.heap.size = b7 at *
      have cb := hbox.cell
      have eg := hch.eg
      have hcall := hch.run X bp bL bN s AK cK hV1 hbp hbL hbN hok hpr hO1
      refine exec_region_o fun ds => ?_
      gi_wp2_with fail
      refine ⟨trivial, rfl, (callsIn_wide.2 hcall).mono ?_⟩
      rintro e Y ⟨⟨v, rfl⟩, hK, hVY, AK', cK', hOY⟩
      clear hcall eg
      gi_wp2
      exact eq_mk hK ⟨AK', cK', hVY, hch.len s hok, hOY, (by simp only [Slots, Fits, and_self])⟩
    · rintro t' W' ⟨AK', cK', hV, hok, hO, hSl⟩
      clear x
      obtain ⟨x, hx⟩ := Slots.open_ hSl; simp only [fill, Nat.reduceAdd] at hx; subst hx; clear hSl
      have hw : IntKind.i64.wrap ((i : Int) + 1) = ((i + 1 : Nat) : Int) := by rw [IntWalk.i64_in _ (by omega)]; norm_cast
      refine exec_region_o fun ds => ?_
      gi_wp2
      exact eq_mk (Keep.refl _) ⟨n - 1, by omega, i + 1, AK', cK', by omega, by omega, hV, by rw [hst]; exact hok, by rw [hst]; exact hO, by simp only [Slots, Fits, and_self]; simp⟩
  · have hil : i = cs.length := by have := of_decide_eq_false hp; omega
    show ChE _ _ _ _ _ _ _
    rw [hil, List.take_length] at hs
    rw [hs]
    exact ⟨AK, cK, hV, hok, hO, (by simp only [Slots, Fits, and_self])⟩
end Go.Proofs.Ytbdmmikflkpmpaa
end

section
namespace Go.TL
open Go Go.RowKit
section
variable {P : Program} {md : Region.Mode} {ops : Array Oper} {Q : Exit → Act → World → Prop} {S : World → Prop} {i : Nat} {o : Oper} {fuel : Nat} {listed : Array Bool} {a : Act} {w : World}
theorem held_mk (i : Nat) (v : Value) (w' : World) (hi : ops[i]? = some o) (hr : Region.ready md ops listed = [i]) (hw : Region.wanted o (yielded ops a.tmps) = true) (he : (execOp a.eval o).run P w = .ok (.value v) w') (hS : S w')
    (h : wpAnyH P md ops Q S fuel (listed.setIfInBounds i true) (a.put o.dst v) w') : wpAnyH P md ops Q S (fuel + 1) listed a w := by
  refine wpAnyH_all hr (by simp) fun j hj => ?_
  obtain rfl : j = i := by simpa using hj
  unfold wpOp
  simp only [hi, hw, if_true]
  left
  unfold Oper.wp
  rw [he]
  exact ⟨hS, h⟩
end
end Go.TL
end

section
namespace Go.Proofs.Ytbdmmikflkpmpaa
open Go.RowKit Go.TL Go.Shelf Go.Pn
attribute [local go_sem] Oper.semAt_some
theorem info70 : ∃ i0, Try.prog.info? 70 = some i0 ∧ i0.zero = some (.int .u64 0) ∧ i0.size = 1 ∧ i0.bytes = 8 := by
  have h : (Try.prog.info? 70).map (fun i => (i.zero, i.size, i.bytes)) = some (some (.int .u64 0), 1, 8) := by kernel_rfl
  cases e : Try.prog.info? 70 with
  | none => rw [e] at h; cases h
  | some i0 =>
    rw [e] at h
    have := Option.some.inj h
    simp only [Prod.mk.injEq] at this
    exact ⟨i0, rfl, this⟩
theorem exec_append {P : Program} {a : Act} {w w' : World} {v xv v' : Value} {o : Oper} (s y : Operand) (t : TypeId) (ho : o.op = .call { callee := .builtin .append, args := #[s, y], argTypes := #[t, t] }) (hs : a.eval s = v) (hx : a.eval y = xv)
    (hr : (Builtin.append_ #[t, t] o.type #[v, xv]).run P w = .ok v' w') : (execOp a.eval o).run P w = .ok (.value v') w' := by
  unfold execOp
  simp only [ho, resolve, invoke, builtin, Sem.run_bind, Sem.run_pure, Result.andThen_ok, List.map_toArray, List.map_cons, List.map_nil, hs, hx, hr]
structure PB (V W : World) (sL sN sK vF : Value) (F : List Nat) : Prop where
  below : Below V.heap.size V W
  hp : W.heap[V.heap.size]? = some (.cells #[sL, sN, sK, vF] 75 (0, 0))
  own : W.ownsRow (V.heap.size + 1) 70 1 vF F.length (F.map u64)
theorem PB.lt {V W : World} {sL sN sK vF : Value} {F : List Nat} (h : PB V W sL sN sK vF F) : V.heap.size < W.heap.size := heap_lt h.hp
theorem PB.ne {V W : World} {sL sN sK vF : Value} {F : List Nat} (h : PB V W sL sN sK vF F) : some V.heap.size ≠ vF.ownBlock := fun e => by
  have := (h.own.lt V.heap.size e.symm).1
  omega
theorem PB.app {V W : World} {sL sN sK vF : Value} {F : List Nat} (h : PB V W sL sN sK vF F) (s : Nat) (hn : F.length ≤ 1000) :
    ∃ vF' W', (Builtin.append_ #[73, 73] 73 #[vF, .slice (some ⟨W.heap.size, 0, none⟩) 1 1]).run Try.prog (W.alloc (.cells #[u64 s] 70)) = .ok vF' W' ∧
      W'.ownsRow (V.heap.size + 1) 70 1 vF' (F ++ [s]).length ((F ++ [s]).map u64) ∧ Below V.heap.size V W' ∧ W'.heap[V.heap.size]? = some (.cells #[sL, sN, sK, vF] 75 (0, 0)) ∧ Keep W W' := by
  obtain ⟨i0, hi0, hz, hs, hb⟩ := info70
  have ha := (Below.refl W.heap.size W).alloc (Nat.le_refl _) (.cells #[u64 s] 70)
  have hB := h.below.trans (ha.mono h.below.size)
  have hlt := h.lt
  obtain ⟨v', W', hrun, ho, hg, _, hat⟩ := run_append_own_at (P := Try.prog) (w := W.alloc (.cells #[u64 s] 70)) (V.heap.size + 1) 73 73 70 i0 (.int .u64 0) 1 8 Try.underlying73 hi0 hz hs hb rfl (by decide) vF F.length (F.map u64) (h.own.alloc _) ⟨W.heap.size, 0, none⟩ 1 1 [u64 s] rfl (by
    intro j y hj
    match j, hj with
    | 0, hj =>
      cases hj
      exact cells_get (cs := [u64 s]) (k := 0) (World.alloc_heap_new _ _) rfl) (by intro y hy; rw [List.mem_singleton.1 hy]; rfl) (by unfold maxLen; omega) (by omega) (by rw [World.size_alloc]; omega)
  refine ⟨v', W', hrun, ?_, hB.grown hg hB.size (fun q e => ?_), (hg.block _ (Nat.lt_of_lt_of_le hlt ha.size) h.ne).trans ((ha.block _ hlt).trans h.hp), ?_⟩
  · rw [List.length_append, List.map_append]
    exact ho
  · have := (h.own.lt q e).1
    omega
  · refine ((Keep.refl W).alloc _).grown hg fun j o hj ho' => ?_
    rcases h.own.2 with ⟨rfl, _⟩ | ⟨g, cap, cur, rfl, _, hg', _⟩
    · simp [Value.ownBlock] at hj
    · simp only [Value.ownBlock, Option.some.injEq] at hj
      subst hj
      rw [(ha.block _ (heap_lt hg')).trans hg'] at ho'
      cases ho'
      rfl
theorem PB.store {V W : World} {sL sN sK vF vF' : Value} {F : List Nat} (hb : Below V.heap.size V W) (hp : W.heap[V.heap.size]? = some (.cells #[sL, sN, sK, vF] 75 (0, 0))) (ho : W.ownsRow (V.heap.size + 1) 70 1 vF' F.length (F.map u64)) :
    PB V (W.setCell ⟨V.heap.size, 3, none⟩ vF') sL sN sK vF' F := by
  refine ⟨hb.setCell (Nat.le_refl _) _, box_set W _ 3 [sL, sN, sK, vF] 75 vF' hp, ho.kept (grown_set W V.heap.size 3 vF') ?_⟩
  cases e : vF'.ownBlock with
  | none => exact .inl rfl
  | some q =>
    right
    intro c
    have := (ho.lt q e).1
    have := Option.some.inj c
    omega
def FtI (V : World) (bp nL nN : Nat) (sL sN sK : Value) (n : Nat) (t : Array Value) (W : World) : Prop :=
  ∃ (i : Nat) (vF : Value), i ≤ nN ∧ n = nN - i ∧ PB V W sL sN sK vF (List.replicate i (2 ^ nL - 1)) ∧ Slots (none :: o4 (some (.pointer (some ⟨bp, 0, none⟩)) :: none :: none :: some (.pointer (some ⟨V.heap.size, 0, none⟩)) :: none :: none :: o4 (o16 (o16 (some (iv nN) :: some (iv i) :: none :: none :: none :: o4 (o4 (o16 (o16 [])))))))) t
def FtM (V : World) (bp nL nN i : Nat) (sL sN sK : Value) (t : Array Value) (W : World) : Prop :=
  ∃ (vF : Value), PB V W sL sN sK vF (List.replicate (i + 1) (2 ^ nL - 1)) ∧ Slots (none :: o4 (some (.pointer (some ⟨bp, 0, none⟩)) :: none :: none :: some (.pointer (some ⟨V.heap.size, 0, none⟩)) :: none :: none :: o4 (o16 (o16 (some (iv nN) :: some (iv i) :: none :: none :: none :: o4 (o4 (o16 (o16 [])))))))) t
def FtE (V : World) (bp nL nN : Nat) (sL sN sK : Value) (t : Array Value) (W : World) : Prop :=
  ∃ (vF : Value), PB V W sL sN sK vF (List.replicate nN (2 ^ nL - 1)) ∧ Slots (none :: o4 (some (.pointer (some ⟨bp, 0, none⟩)) :: none :: none :: some (.pointer (some ⟨V.heap.size, 0, none⟩)) :: none :: none :: none :: o16 (o64 []))) t
set_option maxRecDepth 100000 in
set_option maxHeartbeats 4000000 in
theorem op_fit {V : World} {bp bL nL nN cL : Nat} {sN sK : Value} {AL : Option Addr} (hbp : V.heap[bp]? = some (.cells #[.slice AL nL cL, sN, sK] 25 (0, 0))) (hnL : nL ≤ 60) (hnN : nN ≤ 1000) {W : World} (hP : PB V W (.slice AL nL cL) sN sK (.slice none 0 0) []) (t : Array Value) (hSl : Slots (none :: o4 (some (.pointer (some ⟨bp, 0, none⟩)) :: none :: none :: some (.pointer (some ⟨V.heap.size, 0, none⟩)) :: none :: none :: o4 (o16 (o16 (some (iv nN) :: some (iv 0) :: none :: none :: none :: o4 (o4 (o16 (o16 [])))))))) t) :
    Exec Try.prog none (sub (Try.f56.body.getD .skip) [1, 1, 1, 1, 1, 1, 1, 0, 1]) t W (andThen (FtE V bp nL nN (.slice AL nL cL) sN sK) fun _ _ _ => False) := by
  have hu75 := Try.underlying75
  have hu25 := Try.underlying25
  have hu73 := Try.underlying73
  have hw1 := shl_u nL (by omega)
  have hpw : 1 ≤ 2 ^ nL := Nat.one_le_two_pow
  have hp64 : 2 ^ nL < 2 ^ 64 := Nat.pow_lt_pow_right (by omega) (by omega)
  have hw2 : IntKind.u64.wrap ((2 : Int) ^ nL - 1) = ((2 ^ nL - 1 : Nat) : Int) := by
    rw [pow_cast, wrapu _ (by omega) (by omega)]
    omega
  refine exec_block ?_
  refine exec_loop (FtI V bp nL nN (.slice AL nL cL) sN sK) nN ⟨0, .slice none 0 0, by omega, rfl, hP, hSl⟩ ?_
  clear hSl t hP
  clear W
  rintro n t W ⟨i, vF, hi, hn, hP, hSl⟩
  obtain ⟨x, hx⟩ := Slots.open_ hSl; simp only [fill, Nat.reduceAdd] at hx; subst hx; clear hSl
  refine exec_seq (exec_region_o fun ds => ?_)
  gi_wp2
  refine eq_mk (Keep.refl _) ?_
  show Exec _ _ _ _ _ _
  refine exec_seq (exec_cond (b := decide (i < nN)) (by first | rfl | (show Value.bool _ = _; congr 1; exact decide_eq_decide.2 (by omega))) (fun hp => exec_skip ?_) (fun hp => exec_exit ?_))
  · have hil : i < nN := by have := of_decide_eq_true hp; omega
    show Exec _ _ _ _ _ _
    refine exec_cut (FtM V bp nL nN i (.slice AL nL cL) sN sK) ?_ ?_
    · have hblt := heap_lt hbp
      have hS0 : ∀ {X : World}, Below V.heap.size V X → X.heap[V.heap.size]? = some (.cells #[.slice AL nL cL, sN, sK, vF] 75 (0, 0)) → X.cell? ⟨V.heap.size, 3, none⟩ = some vF ∧ X.cell? ⟨bp, 0, none⟩ = some (.slice AL nL cL) := fun hb hp => ⟨cells_get (cs := [_, _, _, _]) hp rfl, (Grow.of_below (B := 0) hb).cell (cells_get (cs := [_, _, _]) hbp rfl)⟩
      have hd : Below W.heap.size W W.drew := (Below.refl _ W).drew
      refine exec_block (region_of_tail 12 (by kernel_rfl) (by kernel_rfl) (by kernel_rfl) (fun W' => W'.cell? ⟨V.heap.size, 3, none⟩ = some vF ∧ W'.cell? ⟨bp, 0, none⟩ = some (.slice AL nL cL)) (fun _ _ _ => False) (fun _ _ _ h => h.elim) fun ds => ?_)
      have hPd : PB V W.drew (.slice AL nL cL) sN sK vF (List.replicate i (2 ^ nL - 1)) := ⟨hP.below.trans (hd.mono hP.below.size), hP.hp, hP.own.kept (grown_below 0 hd) (by
        cases e : vF.ownBlock with
        | none => exact .inl rfl
        | some q => right; intro c; have := (hP.own.lt q e).1; have := Option.some.inj c; omega)⟩
      have hS := hS0 hPd.below hPd.hp
      refine held_take 0 (.pointer (some ⟨V.heap.size, 0, none⟩)) rfl (by kernel_rfl) (by kernel_rfl) (by kernel_rfl) (by intro _ _ _ h; first | exact h | (simpa [behind, Act.put] using h)) rfl (by first | exact hS | assumption) (fun wq hq => ?_) ?_; (focus (first | rfl | (simp [go_sem]; done))); simp only [Act.put, Array.getInternal_eq_getElem, List.take_succ_cons, List.take_zero, List.take_nil, List.getElem_toArray, List.getElem_cons_succ, List.getElem_cons_zero, List.setIfInBounds_toArray, List.set_cons_succ, List.set_cons_zero]
      refine held_take 1 (.pointer (some ⟨V.heap.size, 0, none⟩)) rfl (by kernel_rfl) (by kernel_rfl) (by kernel_rfl) (by intro _ _ _ h; first | exact h | (simpa [behind, Act.put] using h)) rfl (by first | exact hS | assumption) (fun wq hq => ?_) ?_; (focus (first | rfl | (simp [go_sem]; done))); simp only [Act.put, Array.getInternal_eq_getElem, List.take_succ_cons, List.take_zero, List.take_nil, List.getElem_toArray, List.getElem_cons_succ, List.getElem_cons_zero, List.setIfInBounds_toArray, List.set_cons_succ, List.set_cons_zero]
      refine held_take 2 (.pointer (some ⟨V.heap.size, 0, none⟩)) rfl (by kernel_rfl) (by kernel_rfl) (by kernel_rfl) (by intro _ _ _ h; first | exact h | (simpa [behind, Act.put] using h)) rfl (by first | exact hS | assumption) (fun wq hq => ?_) ?_; (focus (simp [go_sem]; done)); simp only [Act.put, Array.getInternal_eq_getElem, List.take_succ_cons, List.take_zero, List.take_nil, List.getElem_toArray, List.getElem_cons_succ, List.getElem_cons_zero, List.setIfInBounds_toArray, List.set_cons_succ, List.set_cons_zero]
      refine held_take 3 (.pointer (some ⟨V.heap.size, 3, none⟩)) rfl (by kernel_rfl) (by kernel_rfl) (by kernel_rfl) (by intro _ _ _ h; first | exact h | (simpa [behind, Act.put] using h)) rfl (by first | exact hS | assumption) (fun wq hq => ?_) ?_; (focus (simp [go_sem, hu75]; done)); simp only [Act.put, Array.getInternal_eq_getElem, List.take_succ_cons, List.take_zero, List.take_nil, List.getElem_toArray, List.getElem_cons_succ, List.getElem_cons_zero, List.setIfInBounds_toArray, List.set_cons_succ, List.set_cons_zero]
      refine held_take 4 (vF) rfl (by kernel_rfl) (by kernel_rfl) (by kernel_rfl) (by intro _ _ _ h; first | exact h | (simpa [behind, Act.put] using h)) rfl (by first | exact hS | assumption) (fun wq hq => ?_) ?_; (focus (simp [go_sem, hq.1]; done)); simp only [Act.put, Array.getInternal_eq_getElem, List.take_succ_cons, List.take_zero, List.take_nil, List.getElem_toArray, List.getElem_cons_succ, List.getElem_cons_zero, List.setIfInBounds_toArray, List.set_cons_succ, List.set_cons_zero]
      refine held_take 5 (.pointer (some ⟨bp, 0, none⟩)) rfl (by kernel_rfl) (by kernel_rfl) (by kernel_rfl) (by intro _ _ _ h; first | exact h | (simpa [behind, Act.put] using h)) rfl (by first | exact hS | assumption) (fun wq hq => ?_) ?_; (focus (simp [go_sem, hu25]; done)); simp only [Act.put, Array.getInternal_eq_getElem, List.take_succ_cons, List.take_zero, List.take_nil, List.getElem_toArray, List.getElem_cons_succ, List.getElem_cons_zero, List.setIfInBounds_toArray, List.set_cons_succ, List.set_cons_zero]
      refine held_take 6 (.slice AL nL cL) rfl (by kernel_rfl) (by kernel_rfl) (by kernel_rfl) (by intro _ _ _ h; first | exact h | (simpa [behind, Act.put] using h)) rfl (by first | exact hS | assumption) (fun wq hq => ?_) ?_; (focus (simp [go_sem, hq.2]; done)); simp only [Act.put, Array.getInternal_eq_getElem, List.take_succ_cons, List.take_zero, List.take_nil, List.getElem_toArray, List.getElem_cons_succ, List.getElem_cons_zero, List.setIfInBounds_toArray, List.set_cons_succ, List.set_cons_zero]
      refine held_take 7 (iv nL) rfl (by kernel_rfl) (by kernel_rfl) (by kernel_rfl) (by intro _ _ _ h; first | exact h | (simpa [behind, Act.put] using h)) rfl (by first | exact hS | assumption) (fun wq hq => ?_) ?_; (focus (simp [go_sem]; done)); simp only [Act.put, Array.getInternal_eq_getElem, List.take_succ_cons, List.take_zero, List.take_nil, List.getElem_toArray, List.getElem_cons_succ, List.getElem_cons_zero, List.setIfInBounds_toArray, List.set_cons_succ, List.set_cons_zero]
      refine held_take 8 (u64 (2 ^ nL)) rfl (by kernel_rfl) (by kernel_rfl) (by kernel_rfl) (by intro _ _ _ h; first | exact h | (simpa [behind, Act.put] using h)) rfl (by first | exact hS | assumption) (fun wq hq => ?_) ?_; (focus (simp [go_sem, hw1]; done)); simp only [Act.put, Array.getInternal_eq_getElem, List.take_succ_cons, List.take_zero, List.take_nil, List.getElem_toArray, List.getElem_cons_succ, List.getElem_cons_zero, List.setIfInBounds_toArray, List.set_cons_succ, List.set_cons_zero]
      refine held_take 9 (u64 (2 ^ nL - 1)) rfl (by kernel_rfl) (by kernel_rfl) (by kernel_rfl) (by intro _ _ _ h; first | exact h | (simpa [behind, Act.put] using h)) rfl (by first | exact hS | assumption) (fun wq hq => ?_) ?_; (focus (simp [go_sem, hw2]; done)); simp only [Act.put, Array.getInternal_eq_getElem, List.take_succ_cons, List.take_zero, List.take_nil, List.getElem_toArray, List.getElem_cons_succ, List.getElem_cons_zero, List.setIfInBounds_toArray, List.set_cons_succ, List.set_cons_zero]
      generalize W.drew = X at *
      obtain ⟨vF', X', hrun, hown, hXB, hXp, hXK⟩ := hPd.app (2 ^ nL - 1) (by rw [List.length_replicate]; omega)
      have hSa : (X.alloc (.cells #[u64 (2 ^ nL - 1)] 70)).cell? ⟨V.heap.size, 3, none⟩ = some vF ∧ (X.alloc (.cells #[u64 (2 ^ nL - 1)] 70)).cell? ⟨bp, 0, none⟩ = some (.slice AL nL cL) := hS0 (hPd.below.alloc hPd.below.size _) (heap_next hPd.hp _)
      refine held_mk 10 (.slice (some ⟨X.heap.size, 0, none⟩) 1 1) (X.alloc (.cells #[u64 (2 ^ nL - 1)] 70)) rfl (by kernel_rfl) rfl (by simp [go_sem, hu73]) hSa ?_
      simp only [Act.put, Array.getInternal_eq_getElem, List.take_succ_cons, List.take_zero, List.take_nil, List.getElem_toArray, List.getElem_cons_succ, List.getElem_cons_zero, List.setIfInBounds_toArray, List.set_cons_succ, List.set_cons_zero]
      refine held_mk 11 vF' X' rfl (by kernel_rfl) rfl ?_ (hS0 hXB hXp) ?_
      · exact exec_append _ _ 73 rfl rfl rfl hrun
      simp only [Act.put, Array.getInternal_eq_getElem, List.take_succ_cons, List.take_zero, List.take_nil, List.getElem_toArray, List.getElem_cons_succ, List.getElem_cons_zero, List.setIfInBounds_toArray, List.set_cons_succ, List.set_cons_zero]
      refine held_done (by kernel_rfl) ?_
      refine behind_normal 3 (by kernel_rfl) ?_
      have d3 := cells_get (cs := [_, _, _, _]) (k := 3) hXp rfl
      have df : ∀ o, X'.frozen? ⟨V.heap.size, o, none⟩ = false := fun o => by simp [World.frozen?, hXp]
      refine any_val 12 (.pointer (some ⟨V.heap.size, 0, none⟩)) rfl (by kernel_rfl) rfl (by first | (simp [go_sem]; done) | rfl) ?_; simp only [Act.put, Array.getInternal_eq_getElem, List.take_succ_cons, List.take_zero, List.take_nil, List.getElem_toArray, List.getElem_cons_succ, List.getElem_cons_zero, List.setIfInBounds_toArray, List.set_cons_succ, List.set_cons_zero]
      refine any_val 13 (.pointer (some ⟨V.heap.size, 3, none⟩)) rfl (by kernel_rfl) rfl (by first | (simp [go_sem, hu75]; done) | rfl) ?_; simp only [Act.put, Array.getInternal_eq_getElem, List.take_succ_cons, List.take_zero, List.take_nil, List.getElem_toArray, List.getElem_cons_succ, List.getElem_cons_zero, List.setIfInBounds_toArray, List.set_cons_succ, List.set_cons_zero]
      obtain ⟨A', c', hv'⟩ : ∃ A c, vF' = .slice A (List.replicate i (2 ^ nL - 1) ++ [2 ^ nL - 1]).length c := by
        rcases hown.2 with ⟨e, hn⟩ | ⟨g, cap, cur, e, _⟩
        · exact ⟨none, 0, by rw [e, hn]⟩
        · exact ⟨_, _, e⟩
      subst hv'
      refine any_skip 14 (X'.setCell ⟨V.heap.size, 3, none⟩ (.slice A' (List.replicate i (2 ^ nL - 1) ++ [2 ^ nL - 1]).length c')) rfl (by kernel_rfl) rfl (by simp [go_sem, d3, df]) ?_; simp only [Act.put, Array.getInternal_eq_getElem, List.take_succ_cons, List.take_zero, List.take_nil, List.getElem_toArray, List.getElem_cons_succ, List.getElem_cons_zero, List.setIfInBounds_toArray, List.set_cons_succ, List.set_cons_zero]
      refine any_done (by kernel_rfl) ⟨rfl, ((Keep.of_below hd).trans hXK).setCell _ _, ?_⟩
      have hfin := PB.store hXB hXp hown
      refine ⟨.slice A' (List.replicate i (2 ^ nL - 1) ++ [2 ^ nL - 1]).length c', ?_, by simp [Slots, Fits]⟩
      rw [List.replicate_succ']
      exact hfin
    · clear hP
      rintro t' W' ⟨vF, hP, hSl⟩
      clear x
      obtain ⟨x, hx⟩ := Slots.open_ hSl; simp only [fill, Nat.reduceAdd] at hx; subst hx; clear hSl
      have hw : IntKind.i64.wrap ((i : Int) + 1) = ((i + 1 : Nat) : Int) := by rw [IntWalk.i64_in _ (by omega)]; norm_cast
      refine exec_region_o fun ds => ?_
      gi_wp2
      exact eq_mk (Keep.refl _) ⟨n - 1, by omega, i + 1, vF, by omega, by omega, hP, by simp only [Slots, Fits, and_self]; simp⟩
  · have hil : i = nN := by have := of_decide_eq_false hp; omega
    subst hil
    exact ⟨vF, hP, (by simp only [Slots, Fits, and_self])⟩
end Go.Proofs.Ytbdmmikflkpmpaa
end

section
namespace Go.Proofs.Ytbdmmikflkpmpaa
open Go.RowKit Go.TL Go.Shelf Go.Pn
attribute [local go_sem] Oper.semAt_some
def kinF (F : List Nat) (K : List (Nat × Nat)) : List Nat := K.foldl (fun F k => F.set k.2 (clrB (F.getD k.2 0) k.1)) F
theorem kinF_len (K : List (Nat × Nat)) : ∀ F : List Nat, (kinF F K).length = F.length := by
  induction K with
  | nil => intro F; rfl
  | cons k r ih =>
    intro F
    show (kinF (F.set k.2 (clrB (F.getD k.2 0) k.1)) r).length = _
    rw [ih, List.length_set]
theorem clrB_lt {s : Nat} (x : Nat) (h : s < 2 ^ 64) : clrB s x < 2 ^ 64 := Nat.lt_of_le_of_lt Nat.and_le_left h
theorem getD_set (F : List Nat) (p q v : Nat) : (F.set p v).getD q 0 = if p = q ∧ p < F.length then v else F.getD q 0 := by
  rw [List.getD_eq_getElem?_getD, List.getElem?_set, List.getD_eq_getElem?_getD]
  by_cases h : p = q
  · subst h
    by_cases hp : p < F.length
    · simp [hp]
    · simp [hp, List.getElem?_eq_none (Nat.le_of_not_lt hp)]
  · simp [h]
theorem kinF_lt (K : List (Nat × Nat)) : ∀ F : List Nat, (∀ q, F.getD q 0 < 2 ^ 64) → ∀ q, (kinF F K).getD q 0 < 2 ^ 64 := by
  induction K with
  | nil => intro F h; exact h
  | cons k r ih =>
    intro F h
    refine ih _ fun q => ?_
    rw [getD_set]
    split
    · exact clrB_lt _ (h _)
    · exact h q
theorem kinF_bit (K : List (Nat × Nat)) : ∀ F : List Nat, (∀ k ∈ K, k.1 < 64) → (∀ q, F.getD q 0 < 2 ^ 64) → ∀ q j, q < F.length → ((kinF F K).getD q 0).testBit j = ((F.getD q 0).testBit j && !decide ((j, q) ∈ K)) := by
  induction K with
  | nil => intro F _ _ q j _; simp [kinF]
  | cons k r ih =>
    intro F hk h q j hq
    have hl : q < (F.set k.2 (clrB (F.getD k.2 0) k.1)).length := by rw [List.length_set]; exact hq
    refine (ih _ (fun x hx => hk x (List.mem_cons_of_mem _ hx)) (fun q => ?_) q j hl).trans ?_
    · rw [getD_set]
      split
      · exact clrB_lt _ (h _)
      · exact h q
    · rw [getD_set]
      by_cases e : k.2 = q
      · subst e
        rw [if_pos ⟨rfl, hq⟩, clrB_bit _ _ _ (h _) (hk k List.mem_cons_self)]
        by_cases e2 : k.1 = j
        · subst e2
          simp
        · have : ((j, k.2) = k) = False := eq_false fun c => e2 (by rw [← c])
          simp [this, e2]
      · have : ((j, q) = k) = False := eq_false fun c => e (by rw [← c])
        rw [if_neg (fun c => e c.1)]
        simp [this]
def KiI (V : World) (nN : Nat) (sL sN : Value) (A : Option Addr) (cK : Nat) (K : List (Nat × Nat)) (F0 : List Nat) (n : Nat) (t : Array Value) (W : World) : Prop :=
  ∃ (i : Nat) (vF : Value), i ≤ K.length ∧ n = K.length - i ∧ PB V W sL sN (.slice A K.length cK) vF (kinF F0 (K.take i)) ∧ Slots (o4 (o4 (some (.pointer (some ⟨V.heap.size, 0, none⟩)) :: none :: o4 (o4 (o16 (o16 (o16 (some (.slice A K.length cK) :: some (iv K.length) :: some (iv i) :: none :: none :: none :: o4 (o16 []))))))))) t
def KiM (V : World) (nN i : Nat) (sL sN : Value) (A : Option Addr) (cK : Nat) (K : List (Nat × Nat)) (F : List Nat) (t : Array Value) (W : World) : Prop :=
  ∃ (vF : Value), PB V W sL sN (.slice A K.length cK) vF F ∧ Slots (o4 (o4 (some (.pointer (some ⟨V.heap.size, 0, none⟩)) :: none :: o4 (o4 (o16 (o16 (o16 (some (.slice A K.length cK) :: some (iv K.length) :: some (iv i) :: none :: none :: none :: o4 (o16 []))))))))) t
def KiE (V : World) (sL sN sK : Value) (F : List Nat) (t : Array Value) (W : World) : Prop :=
  ∃ (vF : Value), PB V W sL sN sK vF F ∧ Slots (o4 (o4 (some (.pointer (some ⟨V.heap.size, 0, none⟩)) :: none :: none :: none :: o16 (o64 [])))) t
set_option maxRecDepth 100000 in
set_option maxHeartbeats 4000000 in
theorem op_kin {V : World} {nN cK : Nat} {sL sN : Value} {A : Option Addr} {K : List (Nat × Nat)} {F0 : List Nat} (hK : RowK V A K) (hlK : K.length ≤ 1000) (hk1 : ∀ k ∈ K, k.1 < 64) (hk2 : ∀ k ∈ K, k.2 < nN) (hn0 : F0.length = nN) (hnN : nN ≤ 1000) (hF0 : ∀ q, F0.getD q 0 < 2 ^ 64) {W : World} {vF : Value}
    (hP : PB V W sL sN (.slice A K.length cK) vF F0) (t : Array Value) (hSl : Slots (o4 (o4 (some (.pointer (some ⟨V.heap.size, 0, none⟩)) :: none :: o4 (o4 (o16 (o16 (o16 (some (.slice A K.length cK) :: some (iv K.length) :: some (iv 0) :: none :: none :: none :: o4 (o16 []))))))))) t) :
    Exec Try.prog none (sub (Try.f56.body.getD .skip) [1, 1, 1, 1, 1, 1, 1, 1, 0, 1]) t W (andThen (KiE V sL sN (.slice A K.length cK) (kinF F0 K)) fun _ _ _ => False) := by
  have hu75 := Try.underlying75
  have hu50 := Try.underlying50
  have hu23 := Try.underlying23
  have hu73 := Try.underlying73
  refine exec_block ?_
  refine exec_loop (KiI V nN sL sN A cK K F0) K.length ⟨0, vF, by omega, rfl, hP, hSl⟩ ?_
  clear hSl t hP
  clear W vF
  rintro n t W ⟨i, vF, hi, hn, hP, hSl⟩
  obtain ⟨x, hx⟩ := Slots.open_ hSl; simp only [fill, Nat.reduceAdd] at hx; subst hx; clear hSl
  refine exec_seq (exec_region_o fun ds => ?_)
  gi_wp2
  refine eq_mk (Keep.refl _) ?_
  show Exec _ _ _ _ _ _
  refine exec_seq (exec_cond (b := decide (i < K.length)) (by first | rfl | (show Value.bool _ = _; congr 1; exact decide_eq_decide.2 (by omega))) (fun hp => exec_skip ?_) (fun hp => exec_exit ?_))
  · have hil : i < K.length := by have := of_decide_eq_true hp; omega
    show Exec _ _ _ _ _ _
    obtain ⟨k, hk⟩ : ∃ k, K[i]? = some k := ⟨_, List.getElem?_eq_getElem hil⟩
    obtain ⟨al, hA, hc1, hc2⟩ := hK i k hk
    have hkm := List.mem_of_getElem? hk
    have hk1' := hk1 k hkm
    have hk2' := hk2 k hkm
    obtain ⟨k1, k2⟩ := k
    simp only at hc1 hc2 hk1' hk2'
    subst hA
    obtain ⟨F, hF⟩ : ∃ F, kinF F0 (K.take i) = F := ⟨_, rfl⟩
    have hFl : F.length = nN := by rw [← hF, kinF_len, hn0]
    have hFb : ∀ q, F.getD q 0 < 2 ^ 64 := by rw [← hF]; exact kinF_lt _ _ hF0
    have hnext : kinF F0 (K.take (i + 1)) = F.set k2 (clrB (F.getD k2 0) k1) := by
      unfold kinF at hF ⊢
      rw [List.take_add_one, hk, List.foldl_append, hF]
      rfl
    rw [hF] at hP
    refine exec_cut (KiM V nN i sL sN (some al) cK K (F.set k2 (clrB (F.getD k2 0) k1))) ?_ ?_
    · clear hnext hF hk hkm
      clear hn0 hF0 hk1 hk2 hK
      have hiI : (i : Int) < K.length := by omega
      have g1 := (Grow.of_below (B := 0) hP.below).cell hc1
      have g2 := (Grow.of_below (B := 0) hP.below).cell hc2
      refine exec_block (exec_seq (exec_region_o fun ds => ?_))
      gi_wp2
      refine eq_mk ((Keep.refl _).alloc _) ?_
      show Exec _ _ _ _ _ _
      have b1 : (W.alloc (.cells #[iv k1, iv k2] 50)).heap[W.heap.size]? = some (.cells #[iv k1, iv k2] 50 (0, 0)) := World.alloc_heap_new _ _
      have hB1 := (Below.refl W.heap.size W).alloc (Nat.le_refl _) (.cells #[iv k1, iv k2] 50)
      have hPX : PB V (W.alloc (.cells #[iv k1, iv k2] 50)) sL sN (.slice (some al) K.length cK) vF F := ⟨hP.below.trans (hB1.mono hP.below.size), heap_next hP.hp _, hP.own.alloc _⟩
      clear hP g1 g2 hc1 hc2
      generalize W.alloc (.cells #[iv k1, iv k2] 50) = X at *
      generalize W.heap.size = b at *
      clear hB1
      obtain ⟨g, cap, e⟩ : ∃ g cap, vF = .slice (some ⟨g, 0, none⟩) F.length cap := by
        rcases hPX.own.2 with ⟨_, hz⟩ | ⟨g, cap, cur, e, _⟩
        · omega
        · exact ⟨g, cap, e⟩
      subst e
      have hk2F : k2 < F.length := by omega
      have hk2I : (k2 : Int) < F.length := by omega
      have hgp : g ≠ V.heap.size := fun e => hPX.ne (by rw [e]; rfl)
      have hgX := (hPX.own.lt g rfl).2
      have hgl := (hPX.own.lt g rfl).1
      have hgc : X.cell? ⟨g, k2, none⟩ = some (u64 (F.getD k2 0)) := by
        rw [hPX.own.cellAt k2 (by omega), List.getElem?_map, List.getElem?_eq_getElem hk2F, List.getD_eq_getElem?_getD, List.getElem?_eq_getElem hk2F]
        rfl
      have hS0 : ∀ {Y : World}, Below X.heap.size X Y → Y.cell? ⟨V.heap.size, 3, none⟩ = some (.slice (some ⟨g, 0, none⟩) F.length cap) ∧ Y.cell? ⟨g, k2, none⟩ = some (u64 (F.getD k2 0)) ∧ Y.cell? ⟨b, 0, none⟩ = some (iv k1) ∧ Y.cell? ⟨b, 1, none⟩ = some (iv k2) := fun hY => ⟨(Grow.of_below (B := 0) hY).cell (cells_get (cs := [_, _, _, _]) hPX.hp rfl), (Grow.of_below (B := 0) hY).cell hgc, (Grow.of_below (B := 0) hY).cell (cells_get (cs := [_, _]) b1 rfl), (Grow.of_below (B := 0) hY).cell (cells_get (cs := [_, _]) b1 rfl)⟩
      have hd : Below X.heap.size X X.drew := (Below.refl _ X).drew
      refine region_of_tail 17 (by kernel_rfl) (by kernel_rfl) (by kernel_rfl) (fun Y => Y.cell? ⟨V.heap.size, 3, none⟩ = some (.slice (some ⟨g, 0, none⟩) F.length cap) ∧ Y.cell? ⟨g, k2, none⟩ = some (u64 (F.getD k2 0)) ∧ Y.cell? ⟨b, 0, none⟩ = some (iv k1) ∧ Y.cell? ⟨b, 1, none⟩ = some (iv k2)) (fun _ _ _ => False) (fun _ _ _ h => h.elim) fun ds => ?_
      have hS := hS0 hd
      refine held_take 0 (.pointer (some ⟨V.heap.size, 0, none⟩)) rfl (by kernel_rfl) (by kernel_rfl) (by kernel_rfl) (by intro _ _ _ h; first | exact h | (simpa [behind, Act.put] using h)) rfl (by first | exact hS | assumption) (fun wq hq => ?_) ?_; (focus (first | rfl | (simp [go_sem]; done))); simp only [Act.put, Array.getInternal_eq_getElem, List.take_succ_cons, List.take_zero, List.take_nil, List.getElem_toArray, List.getElem_cons_succ, List.getElem_cons_zero, List.setIfInBounds_toArray, List.set_cons_succ, List.set_cons_zero]
      refine held_take 1 (.pointer (some ⟨V.heap.size, 0, none⟩)) rfl (by kernel_rfl) (by kernel_rfl) (by kernel_rfl) (by intro _ _ _ h; first | exact h | (simpa [behind, Act.put] using h)) rfl (by first | exact hS | assumption) (fun wq hq => ?_) ?_; (focus (simp [go_sem]; done)); simp only [Act.put, Array.getInternal_eq_getElem, List.take_succ_cons, List.take_zero, List.take_nil, List.getElem_toArray, List.getElem_cons_succ, List.getElem_cons_zero, List.setIfInBounds_toArray, List.set_cons_succ, List.set_cons_zero]
      refine held_take 2 (.pointer (some ⟨V.heap.size, 3, none⟩)) rfl (by kernel_rfl) (by kernel_rfl) (by kernel_rfl) (by intro _ _ _ h; first | exact h | (simpa [behind, Act.put] using h)) rfl (by first | exact hS | assumption) (fun wq hq => ?_) ?_; (focus (simp [go_sem, hu75]; done)); simp only [Act.put, Array.getInternal_eq_getElem, List.take_succ_cons, List.take_zero, List.take_nil, List.getElem_toArray, List.getElem_cons_succ, List.getElem_cons_zero, List.setIfInBounds_toArray, List.set_cons_succ, List.set_cons_zero]
      refine held_take 3 (.slice (some ⟨g, 0, none⟩) F.length cap) rfl (by kernel_rfl) (by kernel_rfl) (by kernel_rfl) (by intro _ _ _ h; first | exact h | (simpa [behind, Act.put] using h)) rfl (by first | exact hS | assumption) (fun wq hq => ?_) ?_; (focus (simp [go_sem, hq.1]; done)); simp only [Act.put, Array.getInternal_eq_getElem, List.take_succ_cons, List.take_zero, List.take_nil, List.getElem_toArray, List.getElem_cons_succ, List.getElem_cons_zero, List.setIfInBounds_toArray, List.set_cons_succ, List.set_cons_zero]
      refine held_take 4 (.pointer (some ⟨b, 1, none⟩)) rfl (by kernel_rfl) (by kernel_rfl) (by kernel_rfl) (by intro _ _ _ h; first | exact h | (simpa [behind, Act.put] using h)) rfl (by first | exact hS | assumption) (fun wq hq => ?_) ?_; (focus (simp [go_sem, hu50]; done)); simp only [Act.put, Array.getInternal_eq_getElem, List.take_succ_cons, List.take_zero, List.take_nil, List.getElem_toArray, List.getElem_cons_succ, List.getElem_cons_zero, List.setIfInBounds_toArray, List.set_cons_succ, List.set_cons_zero]
      refine held_take 5 (iv k2) rfl (by kernel_rfl) (by kernel_rfl) (by kernel_rfl) (by intro _ _ _ h; first | exact h | (simpa [behind, Act.put] using h)) rfl (by first | exact hS | assumption) (fun wq hq => ?_) ?_; (focus (simp [go_sem, hq.2.2.2]; done)); simp only [Act.put, Array.getInternal_eq_getElem, List.take_succ_cons, List.take_zero, List.take_nil, List.getElem_toArray, List.getElem_cons_succ, List.getElem_cons_zero, List.setIfInBounds_toArray, List.set_cons_succ, List.set_cons_zero]
      refine held_take 6 (.pointer (some ⟨V.heap.size, 0, none⟩)) rfl (by kernel_rfl) (by kernel_rfl) (by kernel_rfl) (by intro _ _ _ h; first | exact h | (simpa [behind, Act.put] using h)) rfl (by first | exact hS | assumption) (fun wq hq => ?_) ?_; (focus (first | rfl | (simp [go_sem]; done))); simp only [Act.put, Array.getInternal_eq_getElem, List.take_succ_cons, List.take_zero, List.take_nil, List.getElem_toArray, List.getElem_cons_succ, List.getElem_cons_zero, List.setIfInBounds_toArray, List.set_cons_succ, List.set_cons_zero]
      refine held_take 7 (.pointer (some ⟨V.heap.size, 0, none⟩)) rfl (by kernel_rfl) (by kernel_rfl) (by kernel_rfl) (by intro _ _ _ h; first | exact h | (simpa [behind, Act.put] using h)) rfl (by first | exact hS | assumption) (fun wq hq => ?_) ?_; (focus (simp [go_sem]; done)); simp only [Act.put, Array.getInternal_eq_getElem, List.take_succ_cons, List.take_zero, List.take_nil, List.getElem_toArray, List.getElem_cons_succ, List.getElem_cons_zero, List.setIfInBounds_toArray, List.set_cons_succ, List.set_cons_zero]
      refine held_take 8 (.pointer (some ⟨V.heap.size, 3, none⟩)) rfl (by kernel_rfl) (by kernel_rfl) (by kernel_rfl) (by intro _ _ _ h; first | exact h | (simpa [behind, Act.put] using h)) rfl (by first | exact hS | assumption) (fun wq hq => ?_) ?_; (focus (simp [go_sem, hu75]; done)); simp only [Act.put, Array.getInternal_eq_getElem, List.take_succ_cons, List.take_zero, List.take_nil, List.getElem_toArray, List.getElem_cons_succ, List.getElem_cons_zero, List.setIfInBounds_toArray, List.set_cons_succ, List.set_cons_zero]
      refine held_take 9 (.slice (some ⟨g, 0, none⟩) F.length cap) rfl (by kernel_rfl) (by kernel_rfl) (by kernel_rfl) (by intro _ _ _ h; first | exact h | (simpa [behind, Act.put] using h)) rfl (by first | exact hS | assumption) (fun wq hq => ?_) ?_; (focus (simp [go_sem, hq.1]; done)); simp only [Act.put, Array.getInternal_eq_getElem, List.take_succ_cons, List.take_zero, List.take_nil, List.getElem_toArray, List.getElem_cons_succ, List.getElem_cons_zero, List.setIfInBounds_toArray, List.set_cons_succ, List.set_cons_zero]
      refine held_take 10 (.pointer (some ⟨b, 1, none⟩)) rfl (by kernel_rfl) (by kernel_rfl) (by kernel_rfl) (by intro _ _ _ h; first | exact h | (simpa [behind, Act.put] using h)) rfl (by first | exact hS | assumption) (fun wq hq => ?_) ?_; (focus (simp [go_sem, hu50]; done)); simp only [Act.put, Array.getInternal_eq_getElem, List.take_succ_cons, List.take_zero, List.take_nil, List.getElem_toArray, List.getElem_cons_succ, List.getElem_cons_zero, List.setIfInBounds_toArray, List.set_cons_succ, List.set_cons_zero]
      refine held_take 11 (iv k2) rfl (by kernel_rfl) (by kernel_rfl) (by kernel_rfl) (by intro _ _ _ h; first | exact h | (simpa [behind, Act.put] using h)) rfl (by first | exact hS | assumption) (fun wq hq => ?_) ?_; (focus (simp [go_sem, hq.2.2.2]; done)); simp only [Act.put, Array.getInternal_eq_getElem, List.take_succ_cons, List.take_zero, List.take_nil, List.getElem_toArray, List.getElem_cons_succ, List.getElem_cons_zero, List.setIfInBounds_toArray, List.set_cons_succ, List.set_cons_zero]
      refine held_take 12 (.pointer (some ⟨g, k2, none⟩)) rfl (by kernel_rfl) (by kernel_rfl) (by kernel_rfl) (by intro _ _ _ h; first | exact h | (simpa [behind, Act.put] using h)) rfl (by first | exact hS | assumption) (fun wq hq => ?_) ?_; (focus (simp [go_sem, hu73, hk2I, hk2F]; done)); simp only [Act.put, Array.getInternal_eq_getElem, List.take_succ_cons, List.take_zero, List.take_nil, List.getElem_toArray, List.getElem_cons_succ, List.getElem_cons_zero, List.setIfInBounds_toArray, List.set_cons_succ, List.set_cons_zero]
      refine held_take 13 (u64 (F.getD k2 0)) rfl (by kernel_rfl) (by kernel_rfl) (by kernel_rfl) (by intro _ _ _ h; first | exact h | (simpa [behind, Act.put] using h)) rfl (by first | exact hS | assumption) (fun wq hq => ?_) ?_; (focus (simp [go_sem, hq.2.1]; done)); simp only [Act.put, Array.getInternal_eq_getElem, List.take_succ_cons, List.take_zero, List.take_nil, List.getElem_toArray, List.getElem_cons_succ, List.getElem_cons_zero, List.setIfInBounds_toArray, List.set_cons_succ, List.set_cons_zero]
      refine held_take 14 (.pointer (some ⟨b, 0, none⟩)) rfl (by kernel_rfl) (by kernel_rfl) (by kernel_rfl) (by intro _ _ _ h; first | exact h | (simpa [behind, Act.put] using h)) rfl (by first | exact hS | assumption) (fun wq hq => ?_) ?_; (focus (simp [go_sem, hu50]; done)); simp only [Act.put, Array.getInternal_eq_getElem, List.take_succ_cons, List.take_zero, List.take_nil, List.getElem_toArray, List.getElem_cons_succ, List.getElem_cons_zero, List.setIfInBounds_toArray, List.set_cons_succ, List.set_cons_zero]
      refine held_take 15 (iv k1) rfl (by kernel_rfl) (by kernel_rfl) (by kernel_rfl) (by intro _ _ _ h; first | exact h | (simpa [behind, Act.put] using h)) rfl (by first | exact hS | assumption) (fun wq hq => ?_) ?_; (focus (simp [go_sem, hq.2.2.1]; done)); simp only [Act.put, Array.getInternal_eq_getElem, List.take_succ_cons, List.take_zero, List.take_nil, List.getElem_toArray, List.getElem_cons_succ, List.getElem_cons_zero, List.setIfInBounds_toArray, List.set_cons_succ, List.set_cons_zero]
      refine held_call 16 (f := 69) (args := #[u64 (F.getD k2 0), iv k1]) rfl (by kernel_rfl) rfl (by simp [go_sem]) ?_
      refine (clrB69 (F.getD k2 0) k1 (hFb k2) hk1' X.drew).mono ?_
      rintro e Y ⟨rfl, hY⟩
      have hY' := hd.trans hY
      refine .inl ⟨_, rfl, hS0 hY', ?_⟩
      simp only [Act.put, Array.getInternal_eq_getElem, List.take_succ_cons, List.take_zero, List.take_nil, List.getElem_toArray, List.getElem_cons_succ, List.getElem_cons_zero, List.setIfInBounds_toArray, List.set_cons_succ, List.set_cons_zero]
      refine held_done (by kernel_rfl) ?_
      refine behind_normal 2 (by kernel_rfl) ?_
      have hPY : PB V Y sL sN (.slice (some al) K.length cK) (.slice (some ⟨g, 0, none⟩) F.length cap) F := ⟨hPX.below.trans (hY'.mono hPX.below.size), (hY'.block _ hPX.lt).trans hPX.hp, hPX.own.kept (grown_below V.heap.size hY') (.inr hPX.ne.symm)⟩
      obtain ⟨hst, hgr⟩ := hPY.own.stored k2 (u64 (clrB (F.getD k2 0) k1))
      have df := hPY.own.frozenAt k2
      have d3 := (hS0 hY').2.1
      refine any_val 17 (.pointer (some ⟨g, k2, none⟩)) rfl (by kernel_rfl) rfl (by first | (simp [go_sem, hu73, hk2I, hk2F]; done) | rfl) ?_; simp only [Act.put, Array.getInternal_eq_getElem, List.take_succ_cons, List.take_zero, List.take_nil, List.getElem_toArray, List.getElem_cons_succ, List.getElem_cons_zero, List.setIfInBounds_toArray, List.set_cons_succ, List.set_cons_zero]
      refine any_skip 18 (Y.setCell ⟨g, k2, none⟩ (u64 (clrB (F.getD k2 0) k1))) rfl (by kernel_rfl) rfl (by simp [go_sem, d3, df]) ?_; simp only [Act.put, Array.getInternal_eq_getElem, List.take_succ_cons, List.take_zero, List.take_nil, List.getElem_toArray, List.getElem_cons_succ, List.getElem_cons_zero, List.setIfInBounds_toArray, List.set_cons_succ, List.set_cons_zero]
      refine any_done (by kernel_rfl) ⟨rfl, (Keep.of_below hY').setCell _ _, ?_⟩
      refine ⟨.slice (some ⟨g, 0, none⟩) F.length cap, ⟨hPY.below.grown hgr hPY.below.size (fun q e => by cases e; omega), (hgr.block _ hPY.lt (fun e => hgp (Option.some.inj e).symm)).trans hPY.hp, ?_⟩, by simp [Slots, Fits]⟩
      rw [List.length_set, List.map_set]
      exact hst
    · clear hP
      rintro t' W' ⟨vF, hP, hSl⟩
      clear x
      obtain ⟨x, hx⟩ := Slots.open_ hSl; simp only [fill, Nat.reduceAdd] at hx; subst hx; clear hSl
      have hw : IntKind.i64.wrap ((i : Int) + 1) = ((i + 1 : Nat) : Int) := by rw [IntWalk.i64_in _ (by omega)]; norm_cast
      refine exec_region_o fun ds => ?_
      rw [← hnext] at hP
      clear hnext hF
      gi_wp2
      exact eq_mk (Keep.refl _) ⟨n - 1, by omega, i + 1, vF, by omega, by omega, hP, by simp only [Slots, Fits, and_self]; simp⟩
  · have hil : i = K.length := by have := of_decide_eq_false hp; omega
    show KiE _ _ _ _ _ _ _
    rw [hil, List.take_length] at hP
    exact ⟨vF, hP, (by simp only [Slots, Fits, and_self])⟩
end Go.Proofs.Ytbdmmikflkpmpaa
end

section
namespace Go.Proofs.Ytbdmmikflkpmpaa
open Go.RowKit Go.TL Go.Shelf Go.Pn
attribute [local go_sem] Oper.semAt_some
def toP (s : S3) : Pnl := ⟨s.1, s.2.1, kinF (List.replicate s.2.1.length (2 ^ s.1.length - 1)) s.2.2⟩
structure S3.Good (s : S3) : Prop where
  j : s.1.length ≤ 6
  p : s.2.1.length ≤ 6
  k : s.2.2.length ≤ 10
  lb : ∀ n ∈ s.1, n ≤ 1000000
  nb : ∀ n ∈ s.2.1, n ≤ 1000000
  k1 : ∀ k ∈ s.2.2, k.1 < s.1.length
  k2 : ∀ k ∈ s.2.2, k.2 < s.2.1.length
theorem rep_lt {n v : Nat} (h : v < 2 ^ 64) (q : Nat) : (List.replicate n v).getD q 0 < 2 ^ 64 := by
  rw [List.getD_eq_getElem?_getD, List.getElem?_replicate]
  split
  · exact h
  · exact Nat.pos_of_ne_zero (by decide)
theorem toP_fl (s : S3) : (toP s).fit.length = (toP s).needs.length := by
  show (kinF _ _).length = _
  rw [kinF_len, List.length_replicate]
  rfl
theorem two_lt {n : Nat} (h : n ≤ 6) : 2 ^ n - 1 < 2 ^ 64 := by
  have : 2 ^ n < 2 ^ 64 := Nat.pow_lt_pow_right (by omega) (by omega)
  omega
theorem toP_lt {s : S3} (h : s.Good) (q : Nat) : (toP s).fit.getD q 0 < 2 ^ 64 := kinF_lt _ _ (fun q => rep_lt (two_lt h.j) q) q
theorem row_of_cells {W : World} {b t : Nat} {vs : List Value} (h : W.heap[b]? = some (.cells vs.toArray t (0, 0))) : RowV W (some ⟨b, 0, none⟩) vs := fun i v hv => ⟨_, rfl, by
  rw [show (⟨b, 0, none⟩ : Addr).add i = ⟨b, i, none⟩ from by simp [Addr.add]; exact fun h => h.symm]
  exact cells_get h hv⟩
theorem row_of_own {W : World} {base e n : Nat} {v : Value} {vs : List Value} (h : W.ownsRow base e 1 v n vs) : ∃ A c, v = .slice A n c ∧ RowV W A vs := by
  rcases h.2 with ⟨e, hz⟩ | ⟨g, cap, cur, e, _, hg, _, _, _, ht⟩
  · subst e
    subst hz
    have : vs = [] := List.eq_nil_of_length_eq_zero (by rw [h.1])
    subst this
    exact ⟨none, 0, rfl, RowV.nil _ _⟩
  · subst e
    refine ⟨_, _, rfl, fun i v hv => ⟨_, rfl, ?_⟩⟩
    have hi : i < vs.length := (List.getElem?_eq_some_iff.1 hv).1
    rw [show (⟨g, 0, none⟩ : Addr).add i = ⟨g, i, none⟩ from by (simp [Addr.add]; exact fun h => h.symm), h.cellAt i (by rw [h.1] at hi; exact hi)]
    exact hv
theorem PnlAt.grow {V W : World} {n pp : Nat} {P : Pnl} {m : PM} (h : PnlAt V pp P m) (hG : Grow n V W) : PnlAt W pp P m :=
  ⟨h.ok, h.fl, h.lb, h.nb, h.fb, hG.same pp _ h.heap (.inr rfl), h.rl.grow hG, h.rn.grow hG, h.rf.grow hG⟩
theorem PB.pnl {V W : World} {L N : List Nat} {K : List (Nat × Nat)} {bp bL bN cK : Nat} {AK : Option Addr} {vF : Value} (hG : S3.Good (L, N, K)) (hO : OB V bp bL bN L N AK cK K) (hP : PB V W (.slice (some ⟨bL, 0, none⟩) L.length L.length) (.slice (some ⟨bN, 0, none⟩) N.length N.length) (.slice AK K.length cK) vF (kinF (List.replicate N.length (2 ^ L.length - 1)) K)) :
    ∃ m, PnlAt W V.heap.size (toP (L, N, K)) m := by
  obtain ⟨A, c, e, hr⟩ := row_of_own hP.own
  subst e
  rw [kinF_len, List.length_replicate] at hP
  refine ⟨⟨some ⟨bL, 0, none⟩, L.length, some ⟨bN, 0, none⟩, N.length, AK, K.length, cK, A, c⟩, ⟨hG.j, hG.p⟩, toP_fl _, hG.lb, hG.nb, ?_, hP.hp, (row_of_cells hO.bx.hl).grow (Grow.of_below (B := 0) hP.below), (row_of_cells hO.bx.hn).grow (Grow.of_below (B := 0) hP.below), hr⟩
  intro n hn
  obtain ⟨i, hi⟩ := List.mem_iff_getElem?.1 hn
  have := toP_lt hG i
  rw [List.getD_eq_getElem?_getD, hi] at this
  exact this
set_option maxRecDepth 100000 in
set_option maxHeartbeats 4000000 in
theorem open56 {w : World} {a : NP} (ha : a.At w) (hL : a.L.length ≤ 40) (hN : a.N.length ≤ 40) (hK : a.K.length ≤ 40) {cs : List Ch} {Al : Option Addr} {cl : Nat} (hcs : ∀ c ∈ cs, Chg w c.1 c.2.1 c.2.2.1 c.2.2.2) (hm : cs.length ≤ 1000) (hpre : ∀ (i : Nat) (c : Ch), cs[i]? = some c → c.2.2.2 (chgs (cs.take i) (a.L, a.N, a.K)))
    (hrow : ∀ i c, cs[i]? = some c → ∃ a, Al = some a ∧ w.cell? (a.add i) = some (.func (.func c.1) #[] c.2.1)) (hG : (chgs cs (a.L, a.N, a.K)).Good) :
    Calls Try.prog 56 #[a.val, .slice Al cs.length cl] w fun e w' => ∃ pp m, e = .returned (.pointer (some ⟨pp, 0, none⟩)) ∧ w.heap.size ≤ pp ∧ Below w.heap.size w w' ∧ PnlAt w' pp (toP (chgs cs (a.L, a.N, a.K))) m := by
  have hu25 := Try.underlying25
  have hu22 := Try.underlying22
  have hu75 := Try.underlying75
  have hu23 := Try.underlying23
  refine calls_of_exec Try.func56 rfl ?_
  simp only [Try.ntmps56, List.size_toArray, List.length_cons, List.length_nil, Nat.reduceAdd, Nat.reduceSub, Array.replicate_succ, Array.replicate_zero, List.push_toArray, List.append_toArray, List.nil_append, List.cons_append]
  show Exec _ _ (Try.f56.body.getD .skip) _ _ _
  refine op_start ha (by omega) (by omega) (.slice Al cs.length cl) _ (by simp [Slots, Fits]) _ ?_
  rintro t W bp bL bN hV hbp hbL hbN hO hSl
  show Exec _ _ (Code.seq _ _) _ _ _
  refine exec_seq ((op_chg hcs hm hrow hV hbp hbL hbN (s0 := (a.L, a.N, a.K)) ⟨hL, hN, hK⟩ hpre hO t hSl).mono ?_)
  clear hSl hO hV
  clear t W
  intro e t W hh
  obtain ⟨rfl, AK, cK, hV, hok, hO, hSl⟩ := only_normal hh
  clear hh hrow hcs hm ha hpre
  generalize chgs cs (a.L, a.N, a.K) = s at *
  obtain ⟨L, N, K⟩ := s
  have g1 := hG.j
  have g2 := hG.p
  have g3 := hG.k
  have g4 := toP_lt hG
  have g5 := toP_fl (L, N, K)
  simp only at hok hO g1 g2 g3
  obtain ⟨x, hx⟩ := Slots.open_ hSl; simp only [fill, Nat.reduceAdd] at hx; subst hx; clear hSl
  show Exec _ _ (Code.seq _ _) _ _ _
  have c0 := cells_get (cs := [_, _, _]) (k := 0) hO.bx.box rfl
  have c1 := cells_get (cs := [_, _, _]) (k := 1) hO.bx.box rfl
  have c2 := cells_get (cs := [_, _, _]) (k := 2) hO.bx.box rfl
  refine exec_seq (exec_region_o fun ds => ?_)
  gi_wp2
  refine eq_mk ((Keep.refl _).alloc _) ?_
  show Exec _ _ _ _ _ _
  have hB1 := (Below.refl W.heap.size W).alloc (Nat.le_refl _) (.cells #[.slice (some ⟨bL, 0, none⟩) L.length L.length, .slice (some ⟨bN, 0, none⟩) N.length N.length, .slice AK K.length cK, .slice none 0 0] 75)
  have hP0 : PB W (W.alloc (.cells #[.slice (some ⟨bL, 0, none⟩) L.length L.length, .slice (some ⟨bN, 0, none⟩) N.length N.length, .slice AK K.length cK, .slice none 0 0] 75)) (.slice (some ⟨bL, 0, none⟩) L.length L.length) (.slice (some ⟨bN, 0, none⟩) N.length N.length) (.slice AK K.length cK) (.slice none 0 0) [] := ⟨hB1, World.alloc_heap_new _ _, World.ownsRow_nil _ _ _ _⟩
  clear hB1 c0 c1 c2
  generalize (W.alloc (.cells #[.slice (some ⟨bL, 0, none⟩) L.length L.length, .slice (some ⟨bN, 0, none⟩) N.length N.length, .slice AK K.length cK, .slice none 0 0] 75)) = X at *
  have c1 := (Grow.of_below (B := 0) hP0.below).cell (cells_get (cs := [_, _, _]) (k := 1) hO.bx.box rfl)
  refine exec_seq (exec_seq (exec_region_o fun ds => ?_))
  gi_wp2
  refine eq_mk (Keep.refl _) ?_
  show Exec _ _ _ _ _ _
  refine (op_fit (bL := bL) (cL := L.length) hO.bx.box (by omega) (by omega : N.length ≤ 1000) hP0 _ (by simp [Slots, Fits])).mono ?_
  clear c1 hP0 x
  clear X
  rintro e t X hh
  obtain ⟨rfl, vF, hP, hSl⟩ := only_normal hh
  clear hh
  obtain ⟨x, hx⟩ := Slots.open_ hSl; simp only [fill, Nat.reduceAdd] at hx; subst hx; clear hSl
  show Exec _ _ _ _ _ _
  have c2 := (Grow.of_below (B := 0) hP.below).cell (cells_get (cs := [_, _, _]) (k := 2) hO.bx.box rfl)
  refine exec_seq (exec_seq (exec_region_o fun ds => ?_))
  gi_wp2
  refine eq_mk (Keep.refl _) ?_
  show Exec _ _ _ _ _ _
  refine (op_kin (nN := N.length) hO.k (by omega) (fun k hk => by have := hG.k1 k hk; simp only at this; omega) (fun k hk => hG.k2 k hk) (List.length_replicate) (by omega) (rep_lt (two_lt g1)) hP _ (by simp [Slots, Fits])).mono ?_
  clear c2 hP x
  clear X vF
  rintro e t X hh
  obtain ⟨rfl, vF, hP, hSl⟩ := only_normal hh
  clear hh
  obtain ⟨x, hx⟩ := Slots.open_ hSl; simp only [fill, Nat.reduceAdd] at hx; subst hx; clear hSl
  show Exec _ _ _ _ _ _
  refine exec_seq (exec_region_o fun ds => ?_)
  gi_wp2
  refine eq_mk (Keep.refl _) ?_
  show Exec _ _ _ _ _ _
  have hB := hV.trans (hP.below.mono hV.size)
  obtain ⟨m, hm⟩ := hP.pnl hG hO
  exact exec_ret ⟨.inr rfl, fun W' hg => ⟨.pointer (some ⟨W.heap.size, 0, none⟩), by simp [results, Try.f56, go_sem], W.heap.size, m, rfl, hV.size, hB.trans (hg.below (Nat.le_refl _) hB.size), hm.grow hg⟩⟩
end Go.Proofs.Ytbdmmikflkpmpaa
end

section
namespace Go.TL
open Go Go.RowKit
section
variable {F : Fence} {n : Nat} {P : Program} {Q : Exit → Act → List Frame → World → Prop} {a : Act} {cs : List Frame} {w : World}
theorem wpSIn_recover_first {id m : Nat} {ops : Array Oper} {o : Oper} (hF1 : F.round = none) (ho : ops[0]? = some o) (hsz : ops.size = m + 1) (hg : o.guard = none) (habout : ∀ f, o.about P w a.eval = some f → F.fn f)
    (hr : (execOp a.eval o).run P w = .ok .recover w) {v : Value} {cs' : List Frame} (hrec : recoverD cs = some (v, cs') ∨ (recoverD cs = none ∧ v = .nilIface ∧ cs' = cs))
    (h : wpOpsIn F n P ops (fun e a' w' => Q e a' cs' w') (List.range' 1 m) (a.put o.dst v) w) : (Code.region id ops false).wpSIn F n P Q a cs w := by
  intro b k hb hro hF hroom
  have hlen : cs'.length = cs.length := by
    rcases hrec with h | ⟨_, _, rfl⟩
    · exact recoverD_length h
    · rfl
  have hrange : List.range ops.size = 0 :: List.range' 1 m := by
    rw [hsz, List.range_eq_range', List.range'_succ]
  have h0 : (lone (b.atR a (.inRegion ops (0 :: List.range' 1 m) :: k)) cs w).fenced P F := fenced_oper hF hroom ho habout
  have hw : Region.wanted o (yielded ops a.tmps) = true := by simp [Region.wanted, hg]
  have hgs := stepGR_op (P := P) (b := b) (k := k) (cs := cs) (w := w) (rest := List.range' 1 m) ho hw
  rw [hro, Oper.semAt_none] at hgs
  have hfin : ∀ v, (b.atR a (.inRegion ops (0 :: List.range' 1 m) :: k)).finish v = b.atR (a.put o.dst v) (.inRegion ops (List.range' 1 m) :: k) := by
    intro v; rw [Frame.finish_atR, ho]; rfl
  have hk : (b.atR a (.inRegion ops (0 :: List.range' 1 m) :: k)).kind = .deferred := hb
  have htr := tryRecover_deferred hk cs
  obtain ⟨e, a', w', hq, harr⟩ := wp_opsIn _ _ _ h b k cs' (hro.trans hF1.symm) hF (hlen ▸ hroom)
  refine ⟨e, a', cs', w', hlen, hq, .of_steps (.one (fenced_calm hF hroom rfl) stepR_region) ?_⟩
  rw [hrange]
  refine .of_steps (.one h0 (step_lone_go ?_)) harr
  rw [hgs, ← hfin]
  simp only [Frame.atR, hro] at htr ⊢
  rcases hrec with hrec | ⟨hrec, rfl, rfl⟩
  · simp [stepG.apply, hr, htr, hrec]
  · simp [stepG.apply, hr, htr, hrec]
theorem opsIn_call {P : Program} {ops : Array Oper} {Q : Exit → Act → World → Prop} {a : Act} {w : World} {i : Nat} {o : Oper} {f : FuncId} {args : Array Value} (ho : ops[i]? = some o) (hg : o.guard = none) (hop : ∀ c, o.op ≠ .defer c)
    (he : (execOp a.eval o).run P w = .ok (.enter f args) w) (hc : Calls P f args w fun e w' => ∃ v, e = .returned v ∧ Q .normal (a.put o.dst v) w') : wpOpsIn Fence.wide 0 P ops Q [i] a w := by
  simp only [wpOpsIn, ho, show Region.wanted o (yielded ops a.tmps) = true from by simp [Region.wanted, hg], if_true]
  refine ⟨fun _ _ => trivial, ?_⟩
  rw [Oper.semAt_plain Fence.wide _ _ hop, he]
  refine ⟨fun h => (by cases h), (callsIn_wide.2 hc).mono ?_⟩
  rintro e w' ⟨v, rfl, h⟩
  exact h
end
end Go.TL
end

section
namespace Go.Proofs.Ytbdmmikflkpmpaa
open Go.RowKit Go.TL Go.Shelf Go.Pn
attribute [local go_sem] Oper.semAt_some
set_option maxHeartbeats 400000 in
theorem need_yes (e : Int) (w : World) : Calls Try.prog 67 #[.bool true, .int .i64 e] w fun r w' => r = .returned (.tuple #[]) ∧ w = w' := by
  go_enter Try.func67, Try.ntmps67
  go_wp2
  go_end0
  exact ⟨rfl, rfl⟩
set_option maxHeartbeats 400000 in
theorem need_no (e : Int) (w : World) : Calls Try.prog 67 #[.bool false, .int .i64 e] w fun r w' => r = .panicked [{ v := .iface 133 (.agg #[.int .i64 e]), recovered := false }] ∧ w = w' := by
  go_enter Try.func67, Try.ntmps67
  go_wp2
  exact ⟨rfl, rfl, rfl⟩
set_option maxRecDepth 100000 in
theorem caught_nil (b : Nat) (w : World) : Calls Try.prog 51 #[.nilIface, .pointer (some ⟨b, 0, none⟩)] w fun r w' => r = .returned (.tuple #[]) ∧ Below w.heap.size w w' := by
  refine calls_of_exec Try.func51 rfl ?_
  simp only [Try.ntmps51, List.size_toArray, List.length_cons, List.length_nil, Nat.reduceAdd, Nat.reduceSub, Array.replicate_succ, Array.replicate_zero, List.push_toArray, List.append_toArray, List.nil_append, List.cons_append]
  refine exec_seq (exec_seq (exec_region_o fun ds => ?_))
  gi_wp2
  refine eq_mk (Keep.refl _) ?_
  refine exec_cond (b := true) rfl (fun _ => ?_) (fun h => by cases h)
  refine exec_ret ⟨.inr rfl, fun W' hG => ⟨.tuple #[], by simp [results, Try.f51, go_sem], rfl, hG.below (Nat.le_refl _) (Nat.le_refl _)⟩⟩
theorem assert133 (v : Value) (w : World) : (Instr.typeAssert (.iface 133 v) 20 133 true).run Try.prog w = .ok (.tuple #[v, .bool true]) w := by
  simp [Instr.typeAssert, run_underlying Try.underlying133]
set_option maxRecDepth 100000 in
theorem caught_some (b : Nat) (t : TypeId) (code x : Int) (w : World) (h : Boxed w b t (.int .i64 x)) : Calls Try.prog 51 #[.iface 133 (.agg #[.int .i64 code]), .pointer (some ⟨b, 0, none⟩)] w fun r w' => r = .returned (.tuple #[]) ∧ ∃ W1, Below w.heap.size w W1 ∧ w' = W1.setCell ⟨b, 0, none⟩ (.int .i64 code) := by
  have h1 := h.cell
  have h2 := h.frozen
  have h4 := (Grow.alloc 0 w (.cells #[.int .i64 code] 133)).boxed h
  have h5 := h4.cell
  have h6 := h4.frozen
  have hA := assert133 (.agg #[.int .i64 code]) w
  go_enter Try.func51, Try.ntmps51
  go_wp2
  exact bodyPost_end (results_none rfl _ _ _) rfl ⟨rfl, _, (Below.refl _ w).alloc (Nat.le_refl _) _, rfl⟩
theorem catches50 : Catches Try.prog 50 (fun b => #[.pointer (some ⟨b, 0, none⟩)]) 133 where
  calm b W hb := by
    refine callsDIn_of_wpSIn Try.func50 rfl trivial fun c₀ cs hu => ?_
    refine wpSIn_recover_first rfl rfl rfl rfl (fun _ _ => trivial) rfl (v := .nilIface) (cs' := c₀ :: cs) (.inr ⟨by simp [recoverD, hu], rfl, rfl⟩) ?_
    refine opsIn_call (f := 51) (args := #[.nilIface, .pointer (some ⟨b, 0, none⟩)]) rfl rfl (fun _ h => by cases h) (by simp [go_sem, Try.ntmps50]) ((caught_nil b W).mono ?_)
    rintro e w' ⟨rfl, h⟩
    exact ⟨_, rfl, rfl, .returning, by rw [← hu], _, results_none rfl _ _ _, ⟨_, rfl⟩, rfl, h⟩
  caught b t x code W h := by
    refine callsDIn_of_wpSIn Try.func50 rfl trivial fun c₀ cs hu => ?_
    refine wpSIn_recover_first rfl rfl rfl rfl (fun _ _ => trivial) rfl (v := .iface 133 (.agg #[.int .i64 code])) (cs' := { c₀ with mode := .panicking [{ v := .iface 133 (.agg #[.int .i64 code]), recovered := true }] } :: cs) (.inl (by simp [recoverD, hu])) ?_
    refine opsIn_call (f := 51) (args := #[.iface 133 (.agg #[.int .i64 code]), .pointer (some ⟨b, 0, none⟩)]) rfl rfl (fun _ h => by cases h) (by simp [go_sem, Try.ntmps50]) ((caught_some b t code x W h).mono ?_)
    rintro e w' ⟨rfl, h⟩
    exact ⟨_, rfl, rfl, _, rfl, _, results_none rfl _ _ _, ⟨_, rfl⟩, rfl, h⟩
theorem catches63 : Catches Try.prog 63 (fun b => #[.pointer (some ⟨b, 0, none⟩)]) 133 where
  calm b W hb := by
    refine callsDIn_of_wpSIn Try.func63 rfl trivial fun c₀ cs hu => ?_
    refine wpSIn_recover_first rfl rfl rfl rfl (fun _ _ => trivial) rfl (v := .nilIface) (cs' := c₀ :: cs) (.inr ⟨by simp [recoverD, hu], rfl, rfl⟩) ?_
    refine opsIn_call (f := 51) (args := #[.nilIface, .pointer (some ⟨b, 0, none⟩)]) rfl rfl (fun _ h => by cases h) (by simp [go_sem, Try.ntmps63]) ((caught_nil b W).mono ?_)
    rintro e w' ⟨rfl, h⟩
    exact ⟨_, rfl, rfl, .returning, by rw [← hu], _, results_none rfl _ _ _, ⟨_, rfl⟩, rfl, h⟩
  caught b t x code W h := by
    refine callsDIn_of_wpSIn Try.func63 rfl trivial fun c₀ cs hu => ?_
    refine wpSIn_recover_first rfl rfl rfl rfl (fun _ _ => trivial) rfl (v := .iface 133 (.agg #[.int .i64 code])) (cs' := { c₀ with mode := .panicking [{ v := .iface 133 (.agg #[.int .i64 code]), recovered := true }] } :: cs) (.inl (by simp [recoverD, hu])) ?_
    refine opsIn_call (f := 51) (args := #[.iface 133 (.agg #[.int .i64 code]), .pointer (some ⟨b, 0, none⟩)]) rfl rfl (fun _ h => by cases h) (by simp [go_sem, Try.ntmps63]) ((caught_some b t code x W h).mono ?_)
    rintro e w' ⟨rfl, h⟩
    exact ⟨_, rfl, rfl, _, rfl, _, results_none rfl _ _ _, ⟨_, rfl⟩, rfl, h⟩
theorem catches66 : Catches Try.prog 66 (fun b => #[.pointer (some ⟨b, 0, none⟩)]) 133 where
  calm b W hb := by
    refine callsDIn_of_wpSIn Try.func66 rfl trivial fun c₀ cs hu => ?_
    refine wpSIn_recover_first rfl rfl rfl rfl (fun _ _ => trivial) rfl (v := .nilIface) (cs' := c₀ :: cs) (.inr ⟨by simp [recoverD, hu], rfl, rfl⟩) ?_
    refine opsIn_call (f := 51) (args := #[.nilIface, .pointer (some ⟨b, 0, none⟩)]) rfl rfl (fun _ h => by cases h) (by simp [go_sem, Try.ntmps66]) ((caught_nil b W).mono ?_)
    rintro e w' ⟨rfl, h⟩
    exact ⟨_, rfl, rfl, .returning, by rw [← hu], _, results_none rfl _ _ _, ⟨_, rfl⟩, rfl, h⟩
  caught b t x code W h := by
    refine callsDIn_of_wpSIn Try.func66 rfl trivial fun c₀ cs hu => ?_
    refine wpSIn_recover_first rfl rfl rfl rfl (fun _ _ => trivial) rfl (v := .iface 133 (.agg #[.int .i64 code])) (cs' := { c₀ with mode := .panicking [{ v := .iface 133 (.agg #[.int .i64 code]), recovered := true }] } :: cs) (.inl (by simp [recoverD, hu])) ?_
    refine opsIn_call (f := 51) (args := #[.iface 133 (.agg #[.int .i64 code]), .pointer (some ⟨b, 0, none⟩)]) rfl rfl (fun _ h => by cases h) (by simp [go_sem, Try.ntmps66]) ((caught_some b t code x W h).mono ?_)
    rintro e w' ⟨rfl, h⟩
    exact ⟨_, rfl, rfl, _, rfl, _, results_none rfl _ _ _, ⟨_, rfl⟩, rfl, h⟩
theorem catches73 : Catches Try.prog 73 (fun b => #[.pointer (some ⟨b, 0, none⟩)]) 133 where
  calm b W hb := by
    refine callsDIn_of_wpSIn Try.func73 rfl trivial fun c₀ cs hu => ?_
    refine wpSIn_recover_first rfl rfl rfl rfl (fun _ _ => trivial) rfl (v := .nilIface) (cs' := c₀ :: cs) (.inr ⟨by simp [recoverD, hu], rfl, rfl⟩) ?_
    refine opsIn_call (f := 51) (args := #[.nilIface, .pointer (some ⟨b, 0, none⟩)]) rfl rfl (fun _ h => by cases h) (by simp [go_sem, Try.ntmps73]) ((caught_nil b W).mono ?_)
    rintro e w' ⟨rfl, h⟩
    exact ⟨_, rfl, rfl, .returning, by rw [← hu], _, results_none rfl _ _ _, ⟨_, rfl⟩, rfl, h⟩
  caught b t x code W h := by
    refine callsDIn_of_wpSIn Try.func73 rfl trivial fun c₀ cs hu => ?_
    refine wpSIn_recover_first rfl rfl rfl rfl (fun _ _ => trivial) rfl (v := .iface 133 (.agg #[.int .i64 code])) (cs' := { c₀ with mode := .panicking [{ v := .iface 133 (.agg #[.int .i64 code]), recovered := true }] } :: cs) (.inl (by simp [recoverD, hu])) ?_
    refine opsIn_call (f := 51) (args := #[.iface 133 (.agg #[.int .i64 code]), .pointer (some ⟨b, 0, none⟩)]) rfl rfl (fun _ h => by cases h) (by simp [go_sem, Try.ntmps73]) ((caught_some b t code x W h).mono ?_)
    rintro e w' ⟨rfl, h⟩
    exact ⟨_, rfl, rfl, _, rfl, _, results_none rfl _ _ _, ⟨_, rfl⟩, rfl, h⟩
theorem catches75 : Catches Try.prog 75 (fun b => #[.pointer (some ⟨b, 0, none⟩)]) 133 where
  calm b W hb := by
    refine callsDIn_of_wpSIn Try.func75 rfl trivial fun c₀ cs hu => ?_
    refine wpSIn_recover_first rfl rfl rfl rfl (fun _ _ => trivial) rfl (v := .nilIface) (cs' := c₀ :: cs) (.inr ⟨by simp [recoverD, hu], rfl, rfl⟩) ?_
    refine opsIn_call (f := 51) (args := #[.nilIface, .pointer (some ⟨b, 0, none⟩)]) rfl rfl (fun _ h => by cases h) (by simp [go_sem, Try.ntmps75]) ((caught_nil b W).mono ?_)
    rintro e w' ⟨rfl, h⟩
    exact ⟨_, rfl, rfl, .returning, by rw [← hu], _, results_none rfl _ _ _, ⟨_, rfl⟩, rfl, h⟩
  caught b t x code W h := by
    refine callsDIn_of_wpSIn Try.func75 rfl trivial fun c₀ cs hu => ?_
    refine wpSIn_recover_first rfl rfl rfl rfl (fun _ _ => trivial) rfl (v := .iface 133 (.agg #[.int .i64 code])) (cs' := { c₀ with mode := .panicking [{ v := .iface 133 (.agg #[.int .i64 code]), recovered := true }] } :: cs) (.inl (by simp [recoverD, hu])) ?_
    refine opsIn_call (f := 51) (args := #[.iface 133 (.agg #[.int .i64 code]), .pointer (some ⟨b, 0, none⟩)]) rfl rfl (fun _ h => by cases h) (by simp [go_sem, Try.ntmps75]) ((caught_some b t code x W h).mono ?_)
    rintro e w' ⟨rfl, h⟩
    exact ⟨_, rfl, rfl, _, rfl, _, results_none rfl _ _ _, ⟨_, rfl⟩, rfl, h⟩
theorem catches90 : Catches Try.prog 90 (fun b => #[.pointer (some ⟨b, 0, none⟩)]) 133 where
  calm b W hb := by
    refine callsDIn_of_wpSIn Try.func90 rfl trivial fun c₀ cs hu => ?_
    refine wpSIn_recover_first rfl rfl rfl rfl (fun _ _ => trivial) rfl (v := .nilIface) (cs' := c₀ :: cs) (.inr ⟨by simp [recoverD, hu], rfl, rfl⟩) ?_
    refine opsIn_call (f := 51) (args := #[.nilIface, .pointer (some ⟨b, 0, none⟩)]) rfl rfl (fun _ h => by cases h) (by simp [go_sem, Try.ntmps90]) ((caught_nil b W).mono ?_)
    rintro e w' ⟨rfl, h⟩
    exact ⟨_, rfl, rfl, .returning, by rw [← hu], _, results_none rfl _ _ _, ⟨_, rfl⟩, rfl, h⟩
  caught b t x code W h := by
    refine callsDIn_of_wpSIn Try.func90 rfl trivial fun c₀ cs hu => ?_
    refine wpSIn_recover_first rfl rfl rfl rfl (fun _ _ => trivial) rfl (v := .iface 133 (.agg #[.int .i64 code])) (cs' := { c₀ with mode := .panicking [{ v := .iface 133 (.agg #[.int .i64 code]), recovered := true }] } :: cs) (.inl (by simp [recoverD, hu])) ?_
    refine opsIn_call (f := 51) (args := #[.iface 133 (.agg #[.int .i64 code]), .pointer (some ⟨b, 0, none⟩)]) rfl rfl (fun _ h => by cases h) (by simp [go_sem, Try.ntmps90]) ((caught_some b t code x W h).mono ?_)
    rintro e w' ⟨rfl, h⟩
    exact ⟨_, rfl, rfl, _, rfl, _, results_none rfl _ _ _, ⟨_, rfl⟩, rfl, h⟩
theorem catches94 : Catches Try.prog 94 (fun b => #[.pointer (some ⟨b, 0, none⟩)]) 133 where
  calm b W hb := by
    refine callsDIn_of_wpSIn Try.func94 rfl trivial fun c₀ cs hu => ?_
    refine wpSIn_recover_first rfl rfl rfl rfl (fun _ _ => trivial) rfl (v := .nilIface) (cs' := c₀ :: cs) (.inr ⟨by simp [recoverD, hu], rfl, rfl⟩) ?_
    refine opsIn_call (f := 51) (args := #[.nilIface, .pointer (some ⟨b, 0, none⟩)]) rfl rfl (fun _ h => by cases h) (by simp [go_sem, Try.ntmps94]) ((caught_nil b W).mono ?_)
    rintro e w' ⟨rfl, h⟩
    exact ⟨_, rfl, rfl, .returning, by rw [← hu], _, results_none rfl _ _ _, ⟨_, rfl⟩, rfl, h⟩
  caught b t x code W h := by
    refine callsDIn_of_wpSIn Try.func94 rfl trivial fun c₀ cs hu => ?_
    refine wpSIn_recover_first rfl rfl rfl rfl (fun _ _ => trivial) rfl (v := .iface 133 (.agg #[.int .i64 code])) (cs' := { c₀ with mode := .panicking [{ v := .iface 133 (.agg #[.int .i64 code]), recovered := true }] } :: cs) (.inl (by simp [recoverD, hu])) ?_
    refine opsIn_call (f := 51) (args := #[.iface 133 (.agg #[.int .i64 code]), .pointer (some ⟨b, 0, none⟩)]) rfl rfl (fun _ h => by cases h) (by simp [go_sem, Try.ntmps94]) ((caught_some b t code x W h).mono ?_)
    rintro e w' ⟨rfl, h⟩
    exact ⟨_, rfl, rfl, _, rfl, _, results_none rfl _ _ _, ⟨_, rfl⟩, rfl, h⟩
theorem catches100 : Catches Try.prog 100 (fun b => #[.pointer (some ⟨b, 0, none⟩)]) 133 where
  calm b W hb := by
    refine callsDIn_of_wpSIn Try.func100 rfl trivial fun c₀ cs hu => ?_
    refine wpSIn_recover_first rfl rfl rfl rfl (fun _ _ => trivial) rfl (v := .nilIface) (cs' := c₀ :: cs) (.inr ⟨by simp [recoverD, hu], rfl, rfl⟩) ?_
    refine opsIn_call (f := 51) (args := #[.nilIface, .pointer (some ⟨b, 0, none⟩)]) rfl rfl (fun _ h => by cases h) (by simp [go_sem, Try.ntmps100]) ((caught_nil b W).mono ?_)
    rintro e w' ⟨rfl, h⟩
    exact ⟨_, rfl, rfl, .returning, by rw [← hu], _, results_none rfl _ _ _, ⟨_, rfl⟩, rfl, h⟩
  caught b t x code W h := by
    refine callsDIn_of_wpSIn Try.func100 rfl trivial fun c₀ cs hu => ?_
    refine wpSIn_recover_first rfl rfl rfl rfl (fun _ _ => trivial) rfl (v := .iface 133 (.agg #[.int .i64 code])) (cs' := { c₀ with mode := .panicking [{ v := .iface 133 (.agg #[.int .i64 code]), recovered := true }] } :: cs) (.inl (by simp [recoverD, hu])) ?_
    refine opsIn_call (f := 51) (args := #[.iface 133 (.agg #[.int .i64 code]), .pointer (some ⟨b, 0, none⟩)]) rfl rfl (fun _ h => by cases h) (by simp [go_sem, Try.ntmps100]) ((caught_some b t code x W h).mono ?_)
    rintro e w' ⟨rfl, h⟩
    exact ⟨_, rfl, rfl, _, rfl, _, results_none rfl _ _ _, ⟨_, rfl⟩, rfl, h⟩
end Go.Proofs.Ytbdmmikflkpmpaa
end

section
namespace Go.Proofs.Ytbdmmikflkpmpaa
open Go.RowKit Go.TL Go.Shelf Go.Pn
attribute [local go_sem] Oper.semAt_some
abbrev vi (x : Int) : Value := .int .i64 x
theorem in68 (x lo hi : Int) (w : World) : Calls Try.prog 68 #[vi x, vi lo, vi hi] w fun e w' => e = .returned (.bool (decide (lo ≤ x) && decide (x ≤ hi))) ∧ Below w.heap.size w w' := by
  refine calls_of_exec Try.func68 rfl ?_
  simp only [Try.ntmps68, List.size_toArray, List.length_cons, List.length_nil, Nat.reduceAdd, Nat.reduceSub, Array.replicate_succ, Array.replicate_zero, List.push_toArray, List.append_toArray, List.nil_append, List.cons_append]
  refine exec_seq (exec_region_o fun ds => ?_)
  gi_wp2
  refine eq_mk (Keep.refl _) ?_
  show Exec _ _ _ _ _ _
  by_cases h : lo ≤ x
  · refine exec_seq (exec_region_o fun ds => ?_)
    gi_wp2
    exact eq_mk (Keep.refl _) (exec_ret ⟨.inr rfl, fun W' hG => ⟨.bool (decide (lo ≤ x) && decide (x ≤ hi)), by simp [results, Try.f68, go_sem, h], rfl, hG.below (Nat.le_refl _) (Nat.le_refl _)⟩⟩)
  · refine exec_seq (exec_region_o fun ds => ?_)
    gi_wp2
    exact eq_mk (Keep.refl _) (exec_ret ⟨.inr rfl, fun W' hG => ⟨.bool (decide (lo ≤ x) && decide (x ≤ hi)), by (simp [results, Try.f68, go_sem, h]; intro; omega), rfl, hG.below (Nat.le_refl _) (Nat.le_refl _)⟩⟩)
def IxI (w : World) (A : Option Addr) (c : Nat) (l : List Int) (p : Int → Bool) (f : Value) (n : Nat) (t : Array Value) (W : World) : Prop :=
  ∃ k : Nat, k ≤ l.length ∧ n = l.length - k ∧ (l.take k).any p = false ∧ Below w.heap.size w W ∧ Slots (some (.slice A l.length c) :: some (f) :: none :: o4 (some (vi l.length) :: some (vi k) :: none :: none :: o4 (o4 []))) t
set_option maxRecDepth 100000 in
set_option maxHeartbeats 1000000 in
theorem index107 {g : Nat} {lb : Array Value} (eg : ∀ args w, (callFunc g args).run Try.prog w = .ok (.enter g args) w) (p : Int → Bool) (A : Option Addr) (c : Nat) (l : List Int) (hl : l.length ≤ 1000) (w : World) (hr : RowV w A (l.map vi))
    (hg : ∀ x ∈ l, ∀ W, Below w.heap.size w W → Calls Try.prog g (#[vi x] ++ lb) W fun e W' => e = .returned (.bool (p x)) ∧ Below W.heap.size W W') :
    Calls Try.prog 107 #[.slice A l.length c, .func (.func g) #[] lb] w fun e w' => ∃ i : Int, e = .returned (vi i) ∧ decide (0 ≤ i) = l.any p ∧ Below w.heap.size w w' := by
  have hu22 := Try.underlying22
  refine calls_of_exec Try.func107 rfl ?_
  simp only [Try.ntmps107, List.size_toArray, List.length_cons, List.length_nil, Nat.reduceAdd, Nat.reduceSub, Array.replicate_succ, Array.replicate_zero, List.push_toArray, List.append_toArray, List.nil_append, List.cons_append]
  refine exec_seq (exec_region_o fun ds => ?_)
  gi_wp2
  refine eq_mk (Keep.refl _) ?_
  show Exec _ _ _ _ _ _
  refine exec_cut (fun t' W => l.any p = false ∧ Below w.heap.size w W ∧ Slots (none :: none :: none :: o16 []) t') (exec_seq (exec_region_o fun ds => ?_)) ?_
  · gi_wp2
    refine eq_mk (Keep.refl _) ?_
    show Exec _ _ _ _ _ _
    refine exec_block ?_
    refine exec_loop (IxI w A c l p (.func (.func g) #[] lb)) l.length ⟨0, by omega, rfl, rfl, Below.refl _ _, by simp [Slots, Fits]⟩ ?_
    rintro n t W ⟨k, hk, hn, hno, hB, hSl⟩
    obtain ⟨x, hx⟩ := Slots.open_ hSl; simp only [fill, Nat.reduceAdd] at hx; subst hx; clear hSl
    refine exec_seq (exec_region_o fun ds => ?_)
    gi_wp2
    refine eq_mk (Keep.refl _) ?_
    show Exec _ _ _ _ _ _
    refine exec_seq (exec_cond (b := decide (k < l.length)) (by first | rfl | (show Value.bool _ = _; congr 1; exact decide_eq_decide.2 (by omega))) (fun hp => exec_skip ?_) (fun hp => exec_exit ?_))
    · have hkl : k < l.length := by have := of_decide_eq_true hp; omega
      show Exec _ _ _ _ _ _
      obtain ⟨x0, hx0⟩ : ∃ y, l[k]? = some y := ⟨_, List.getElem?_eq_getElem hkl⟩
      obtain ⟨a, hA, hc0⟩ := hr k (vi x0) (by rw [List.getElem?_map, hx0]; rfl)
      have hcall := hg x0 (List.mem_of_getElem? hx0)
      have hnext : (l.take (k + 1)).any p = p x0 := by
        rw [List.take_add_one, hx0, List.any_append, hno]
        simp
      have hyes : p x0 = true → l.any p = true := fun h => List.any_eq_true.2 ⟨x0, List.mem_of_getElem? hx0, h⟩
      clear hx0 hno hg
      have hcW := (Grow.of_below (B := 0) hB).cell hc0
      subst hA
      have hkI : (k : Int) < l.length := by omega
      refine exec_cut (fun t' W => p x0 = false ∧ Below w.heap.size w W ∧ Slots (some (.slice (some a) l.length c) :: some (.func (.func g) #[] lb) :: none :: o4 (some (vi l.length) :: some (vi k) :: none :: none :: o4 (o4 []))) t') (exec_block (exec_seq (exec_region_o fun ds => ?_))) ?_
      · gi_wp2
        refine eq_mk (Keep.refl _) ?_
        show Exec _ _ _ _ _ _
        refine exec_seq (exec_region_o fun ds => ?_)
        gi_wp2_with fail
        refine ⟨trivial, rfl, (callsIn_wide.2 (hcall W hB)).mono ?_⟩
        rintro e X ⟨rfl, hx⟩
        gi_wp2
        refine eq_mk (Keep.of_below hx) ?_
        show Exec _ _ _ _ _ _
        have hBX := hB.trans (hx.mono hB.size)
        refine exec_cond (b := p x0) rfl (fun hp => ?_) (fun hp => exec_skip ⟨hp, hBX, (by simp only [Slots, Fits, and_self])⟩)
        refine exec_seq (exec_region_o fun ds => ?_)
        gi_wp2
        exact eq_mk (Keep.refl _) (exec_ret ⟨.inr rfl, fun W' hG => ⟨vi k, by simp [results, Try.f107, go_sem], k, rfl, by rw [hyes hp]; exact decide_eq_true (by omega), hBX.trans (hG.below (Nat.le_refl _) hBX.size)⟩⟩)
      · clear hcW hB x
        clear W
        rintro t' W' ⟨hno, hB, hSl⟩
        obtain ⟨x, hx⟩ := Slots.open_ hSl; simp only [fill, Nat.reduceAdd] at hx; subst hx; clear hSl
        have hw : IntKind.i64.wrap ((k : Int) + 1) = ((k + 1 : Nat) : Int) := by rw [IntWalk.i64_in _ (by omega)]; norm_cast
        have hnx := hnext.trans hno
        clear hnext hno hyes
        have HN := Lib.hid hnx
        clear hnx
        refine exec_region_o fun ds => ?_
        gi_wp2
        exact eq_mk (Keep.refl _) ⟨n - 1, by omega, k + 1, by omega, by omega, HN.out, hB, by simp only [Slots, Fits, and_self]; simp⟩
    · have hkl : k = l.length := by have := of_decide_eq_false hp; omega
      subst hkl
      rw [List.take_length] at hno
      exact ⟨hno, hB, (by simp only [Slots, Fits, and_self])⟩
  rintro t' W ⟨hno, hB, hSl⟩
  obtain ⟨x, hx⟩ := Slots.open_ hSl; simp only [fill, Nat.reduceAdd] at hx; subst hx; clear hSl
  have HN := Lib.hid hno
  clear hno
  refine exec_seq (exec_region_o fun ds => ?_)
  gi_wp2
  exact eq_mk (Keep.refl _) (exec_ret ⟨.inr rfl, fun W' hG => ⟨vi (-1), by simp [results, Try.f107, go_sem], -1, rfl, by rw [HN.out]; rfl, hB.trans (hG.below (Nat.le_refl _) hB.size)⟩⟩)
set_option maxHeartbeats 1000000 in
theorem some58 {g : Nat} {lb : Array Value} (eg : ∀ args w, (callFunc g args).run Try.prog w = .ok (.enter g args) w) (p : Int → Bool) (A : Option Addr) (c : Nat) (l : List Int) (hl : l.length ≤ 1000) (w : World) (hr : RowV w A (l.map vi))
    (hg : ∀ x ∈ l, ∀ W, Below w.heap.size w W → Calls Try.prog g (#[vi x] ++ lb) W fun e W' => e = .returned (.bool (p x)) ∧ Below W.heap.size W W') :
    Calls Try.prog 58 #[.slice A l.length c, .func (.func g) #[] lb] w fun e w' => e = .returned (.bool (l.any p)) ∧ Below w.heap.size w w' := by
  refine calls_of_exec Try.func58 rfl ?_
  simp only [Try.ntmps58, List.size_toArray, List.length_cons, List.length_nil, Nat.reduceAdd, Nat.reduceSub, Array.replicate_succ, Array.replicate_zero, List.push_toArray, List.append_toArray, List.nil_append, List.cons_append]
  refine exec_seq (exec_region_o fun ds => ?_)
  gi_wp2
  refine eq_mk (Keep.refl _) ?_
  show Exec _ _ _ _ _ _
  refine exec_seq (exec_region_o fun ds => ?_)
  gi_wp2_with fail
  refine ⟨trivial, rfl, (callsIn_wide.2 (index107 eg p A c l hl w hr hg)).mono ?_⟩
  rintro e X ⟨i, rfl, hi, hx⟩
  have HN := Lib.hid hi
  clear hi
  gi_wp2
  exact eq_mk (Keep.of_below hx) (exec_ret ⟨.inr rfl, fun W' hG => ⟨.bool (l.any p), by simp [results, Try.f58, go_sem, ← HN.out], rfl, hx.trans (hG.below (Nat.le_refl _) hx.size)⟩⟩)
def RowKI (W : World) (A : Option Addr) (K : List (Int × Int)) : Prop := ∀ (i : Nat) (k : Int × Int), K[i]? = some k → ∃ a, A = some a ∧ W.cell? (a.add (i * 2)) = some (vi k.1) ∧ W.cell? ⟨(a.add (i * 2)).block, (a.add (i * 2)).off + 1, none⟩ = some (vi k.2)
theorem RowKI.grow {W W' : World} {n : Nat} {A : Option Addr} {K : List (Int × Int)} (h : RowKI W A K) (hG : Grow n W W') : RowKI W' A K := fun i k hk => by
  obtain ⟨a, e, h1, h2⟩ := h i k hk
  exact ⟨a, e, hG.cell h1, hG.cell h2⟩
def IxK (w : World) (A : Option Addr) (c : Nat) (l : List (Int × Int)) (p : Int × Int → Bool) (f : Value) (n : Nat) (t : Array Value) (W : World) : Prop :=
  ∃ k : Nat, k ≤ l.length ∧ n = l.length - k ∧ (l.take k).any p = false ∧ Below w.heap.size w W ∧ Slots (some (.slice A l.length c) :: some (f) :: none :: o4 (some (vi l.length) :: some (vi k) :: none :: none :: o4 (o4 []))) t
set_option maxRecDepth 100000 in
set_option maxHeartbeats 1000000 in
theorem index150 {g : Nat} {lb : Array Value} (eg : ∀ args w, (callFunc g args).run Try.prog w = .ok (.enter g args) w) (p : Int × Int → Bool) (A : Option Addr) (c : Nat) (l : List (Int × Int)) (hl : l.length ≤ 1000) (w : World) (hr : RowKI w A l)
    (hg : ∀ x ∈ l, ∀ W, Below w.heap.size w W → Calls Try.prog g (#[.agg #[vi x.1, vi x.2]] ++ lb) W fun e W' => e = .returned (.bool (p x)) ∧ Below W.heap.size W W') :
    Calls Try.prog 150 #[.slice A l.length c, .func (.func g) #[] lb] w fun e w' => ∃ i : Int, e = .returned (vi i) ∧ decide (0 ≤ i) = l.any p ∧ Below w.heap.size w w' := by
  have hu23 := Try.underlying23
  have hu50 := Try.underlying50
  refine calls_of_exec Try.func150 rfl ?_
  simp only [Try.ntmps150, List.size_toArray, List.length_cons, List.length_nil, Nat.reduceAdd, Nat.reduceSub, Array.replicate_succ, Array.replicate_zero, List.push_toArray, List.append_toArray, List.nil_append, List.cons_append]
  refine exec_seq (exec_region_o fun ds => ?_)
  gi_wp2
  refine eq_mk (Keep.refl _) ?_
  show Exec _ _ _ _ _ _
  refine exec_cut (fun t' W => l.any p = false ∧ Below w.heap.size w W ∧ Slots (none :: none :: none :: o16 []) t') (exec_seq (exec_region_o fun ds => ?_)) ?_
  · gi_wp2
    refine eq_mk (Keep.refl _) ?_
    show Exec _ _ _ _ _ _
    refine exec_block ?_
    refine exec_loop (IxK w A c l p (.func (.func g) #[] lb)) l.length ⟨0, by omega, rfl, rfl, Below.refl _ _, by simp [Slots, Fits]⟩ ?_
    rintro n t W ⟨k, hk, hn, hno, hB, hSl⟩
    obtain ⟨x, hx⟩ := Slots.open_ hSl; simp only [fill, Nat.reduceAdd] at hx; subst hx; clear hSl
    refine exec_seq (exec_region_o fun ds => ?_)
    gi_wp2
    refine eq_mk (Keep.refl _) ?_
    show Exec _ _ _ _ _ _
    refine exec_seq (exec_cond (b := decide (k < l.length)) (by first | rfl | (show Value.bool _ = _; congr 1; exact decide_eq_decide.2 (by omega))) (fun hp => exec_skip ?_) (fun hp => exec_exit ?_))
    · have hkl : k < l.length := by have := of_decide_eq_true hp; omega
      show Exec _ _ _ _ _ _
      obtain ⟨x0, hx0⟩ : ∃ y, l[k]? = some y := ⟨_, List.getElem?_eq_getElem hkl⟩
      obtain ⟨a, hA, hc0, hc1⟩ := hr k x0 hx0
      have hcall := hg x0 (List.mem_of_getElem? hx0)
      have hnext : (l.take (k + 1)).any p = p x0 := by
        rw [List.take_add_one, hx0, List.any_append, hno]
        simp
      have hyes : p x0 = true → l.any p = true := fun h => List.any_eq_true.2 ⟨x0, List.mem_of_getElem? hx0, h⟩
      clear hx0 hno hg
      have hcW := (Grow.of_below (B := 0) hB).cell hc0
      have hcW1 := (Grow.of_below (B := 0) hB).cell hc1
      obtain ⟨x1, x2⟩ := x0
      simp only at hcW hcW1 hcall
      subst hA
      have hkI : (k : Int) < l.length := by omega
      refine exec_cut (fun t' W => p (x1, x2) = false ∧ Below w.heap.size w W ∧ Slots (some (.slice (some a) l.length c) :: some (.func (.func g) #[] lb) :: none :: o4 (some (vi l.length) :: some (vi k) :: none :: none :: o4 (o4 []))) t') (exec_block (exec_seq (exec_region_o fun ds => ?_))) ?_
      · gi_wp2
        refine eq_mk (Keep.refl _) ?_
        show Exec _ _ _ _ _ _
        refine exec_seq (exec_region_o fun ds => ?_)
        gi_wp2_with fail
        refine ⟨trivial, rfl, (callsIn_wide.2 (hcall W hB)).mono ?_⟩
        rintro e X ⟨rfl, hx⟩
        gi_wp2
        refine eq_mk (Keep.of_below hx) ?_
        show Exec _ _ _ _ _ _
        have hBX := hB.trans (hx.mono hB.size)
        refine exec_cond (b := p (x1, x2)) rfl (fun hp => ?_) (fun hp => exec_skip ⟨hp, hBX, (by simp only [Slots, Fits, and_self])⟩)
        refine exec_seq (exec_region_o fun ds => ?_)
        gi_wp2
        exact eq_mk (Keep.refl _) (exec_ret ⟨.inr rfl, fun W' hG => ⟨vi k, by simp [results, Try.f150, go_sem], k, rfl, by rw [hyes hp]; exact decide_eq_true (by omega), hBX.trans (hG.below (Nat.le_refl _) hBX.size)⟩⟩)
      · clear hcW hcW1 hB x
        clear W
        rintro t' W' ⟨hno, hB, hSl⟩
        obtain ⟨x, hx⟩ := Slots.open_ hSl; simp only [fill, Nat.reduceAdd] at hx; subst hx; clear hSl
        have hw : IntKind.i64.wrap ((k : Int) + 1) = ((k + 1 : Nat) : Int) := by rw [IntWalk.i64_in _ (by omega)]; norm_cast
        have hnx := hnext.trans hno
        clear hnext hno hyes
        have HN := Lib.hid hnx
        clear hnx
        refine exec_region_o fun ds => ?_
        gi_wp2
        exact eq_mk (Keep.refl _) ⟨n - 1, by omega, k + 1, by omega, by omega, HN.out, hB, by simp only [Slots, Fits, and_self]; simp⟩
    · have hkl : k = l.length := by have := of_decide_eq_false hp; omega
      subst hkl
      rw [List.take_length] at hno
      exact ⟨hno, hB, (by simp only [Slots, Fits, and_self])⟩
  rintro t' W ⟨hno, hB, hSl⟩
  obtain ⟨x, hx⟩ := Slots.open_ hSl; simp only [fill, Nat.reduceAdd] at hx; subst hx; clear hSl
  have HN := Lib.hid hno
  clear hno
  refine exec_seq (exec_region_o fun ds => ?_)
  gi_wp2
  exact eq_mk (Keep.refl _) (exec_ret ⟨.inr rfl, fun W' hG => ⟨vi (-1), by simp [results, Try.f150, go_sem], -1, rfl, by rw [HN.out]; rfl, hB.trans (hG.below (Nat.le_refl _) hB.size)⟩⟩)
set_option maxHeartbeats 1000000 in
theorem some134 {g : Nat} {lb : Array Value} (eg : ∀ args w, (callFunc g args).run Try.prog w = .ok (.enter g args) w) (p : Int × Int → Bool) (A : Option Addr) (c : Nat) (l : List (Int × Int)) (hl : l.length ≤ 1000) (w : World) (hr : RowKI w A l)
    (hg : ∀ x ∈ l, ∀ W, Below w.heap.size w W → Calls Try.prog g (#[.agg #[vi x.1, vi x.2]] ++ lb) W fun e W' => e = .returned (.bool (p x)) ∧ Below W.heap.size W W') :
    Calls Try.prog 134 #[.slice A l.length c, .func (.func g) #[] lb] w fun e w' => e = .returned (.bool (l.any p)) ∧ Below w.heap.size w w' := by
  refine calls_of_exec Try.func134 rfl ?_
  simp only [Try.ntmps134, List.size_toArray, List.length_cons, List.length_nil, Nat.reduceAdd, Nat.reduceSub, Array.replicate_succ, Array.replicate_zero, List.push_toArray, List.append_toArray, List.nil_append, List.cons_append]
  refine exec_seq (exec_region_o fun ds => ?_)
  gi_wp2
  refine eq_mk (Keep.refl _) ?_
  show Exec _ _ _ _ _ _
  refine exec_seq (exec_region_o fun ds => ?_)
  gi_wp2_with fail
  refine ⟨trivial, rfl, (callsIn_wide.2 (index150 eg p A c l hl w hr hg)).mono ?_⟩
  rintro e X ⟨i, rfl, hi, hx⟩
  have HN := Lib.hid hi
  clear hi
  gi_wp2
  exact eq_mk (Keep.of_below hx) (exec_ret ⟨.inr rfl, fun W' hG => ⟨.bool (l.any p), by simp [results, Try.f134, go_sem, ← HN.out], rfl, hx.trans (hG.below (Nat.le_refl _) hx.size)⟩⟩)
end Go.Proofs.Ytbdmmikflkpmpaa
end

section
namespace Go.Proofs.Ytbdmmikflkpmpaa
open Go.RowKit Go.TL Go.Shelf Go.Pn
attribute [local go_sem] Oper.semAt_some
structure XP where
  AL : Option Addr
  cL : Nat
  L : List Int
  AN : Option Addr
  cN : Nat
  N : List Int
  AK : Option Addr
  cK : Nat
  K : List (Int × Int)
def XP.sL (x : XP) : Value := .slice x.AL x.L.length x.cL
def XP.sN (x : XP) : Value := .slice x.AN x.N.length x.cN
def XP.sK (x : XP) : Value := .slice x.AK x.K.length x.cK
def XP.val (x : XP) : Value := .agg #[x.sL, x.sN, x.sK]
structure XP.At (x : XP) (w : World) : Prop where
  l : RowV w x.AL (x.L.map vi)
  n : RowV w x.AN (x.N.map vi)
  k : RowKI w x.AK x.K
  l4 : x.L.length ≤ 40
  n4 : x.N.length ≤ 40
  k4 : x.K.length ≤ 40
theorem XP.At.grow {x : XP} {w w' : World} {b : Nat} (h : x.At w) (hG : Grow b w w') : x.At w' := ⟨h.l.grow hG, h.n.grow hG, h.k.grow hG, h.l4, h.n4, h.k4⟩
theorem XP.At.below {x : XP} {w w' : World} (h : x.At w) (hb : Below w.heap.size w w') : x.At w' := h.grow (Grow.of_below (B := 0) hb)
def inB (x lo hi : Int) : Bool := decide (lo ≤ x) && decide (x ≤ hi)
def kinOut (l n : Nat) (x : Int × Int) : Bool := !inB x.1 0 ((l : Int) - 1) || !inB x.2 0 ((n : Int) - 1)
def XP.lens (x : XP) : Bool := decide (x.L.length ≤ 6) && decide (x.N.length ≤ 6) && decide (x.K.length ≤ 10)
def XP.isP (x : XP) : Bool := x.lens && !x.L.any (fun y => !inB y 0 6) && !x.N.any (fun y => !inB y 0 3) && !x.K.any (kinOut x.L.length x.N.length)
theorem out131 (x : Int) (w : World) : Calls Try.prog 131 #[vi x] w fun e w' => e = .returned (.bool (!inB x 0 6)) ∧ Below w.heap.size w w' := by
  refine calls_of_exec Try.func131 rfl ?_
  simp only [Try.ntmps131, List.size_toArray, List.length_cons, List.length_nil, Nat.reduceAdd, Nat.reduceSub, Array.replicate_succ, Array.replicate_zero, List.push_toArray, List.append_toArray, List.nil_append, List.cons_append]
  refine exec_seq (exec_region_o fun ds => ?_)
  gi_wp2
  refine eq_mk (Keep.refl _) ?_
  show Exec _ _ _ _ _ _
  refine exec_seq (exec_region_o fun ds => ?_)
  gi_wp2_with fail
  refine ⟨trivial, rfl, (callsIn_wide.2 (in68 x 0 6 w)).mono ?_⟩
  rintro e X ⟨rfl, hx⟩
  gi_wp2
  exact eq_mk (Keep.of_below hx) (exec_ret ⟨.inr rfl, fun W' hG => ⟨.bool (!inB x 0 6), by simp [results, Try.f131, go_sem, inB], rfl, hx.trans (hG.below (Nat.le_refl _) hx.size)⟩⟩)
theorem out132 (x : Int) (w : World) : Calls Try.prog 132 #[vi x] w fun e w' => e = .returned (.bool (!inB x 0 3)) ∧ Below w.heap.size w w' := by
  refine calls_of_exec Try.func132 rfl ?_
  simp only [Try.ntmps132, List.size_toArray, List.length_cons, List.length_nil, Nat.reduceAdd, Nat.reduceSub, Array.replicate_succ, Array.replicate_zero, List.push_toArray, List.append_toArray, List.nil_append, List.cons_append]
  refine exec_seq (exec_region_o fun ds => ?_)
  gi_wp2
  refine eq_mk (Keep.refl _) ?_
  show Exec _ _ _ _ _ _
  refine exec_seq (exec_region_o fun ds => ?_)
  gi_wp2_with fail
  refine ⟨trivial, rfl, (callsIn_wide.2 (in68 x 0 3 w)).mono ?_⟩
  rintro e X ⟨rfl, hx⟩
  gi_wp2
  exact eq_mk (Keep.of_below hx) (exec_ret ⟨.inr rfl, fun W' hG => ⟨.bool (!inB x 0 3), by simp [results, Try.f132, go_sem, inB], rfl, hx.trans (hG.below (Nat.le_refl _) hx.size)⟩⟩)
theorem inB_ok (x lo hi : Int) (w : World) : Calls Try.prog 68 #[vi x, vi lo, vi hi] w fun e w' => e = .returned (.bool (inB x lo hi)) ∧ Below w.heap.size w w' := in68 x lo hi w
set_option maxRecDepth 100000 in
set_option maxHeartbeats 1000000 in
theorem out133 (a : XP) (x : Int × Int) (hl : a.L.length ≤ 40) (hn : a.N.length ≤ 40) (b : Nat) (w : World) (hb : w.heap[b]? = some (.cells #[a.sL, a.sN, a.sK] 25 (0, 0))) :
    Calls Try.prog 133 #[.agg #[vi x.1, vi x.2], .pointer (some ⟨b, 0, none⟩)] w fun e w' => e = .returned (.bool (kinOut a.L.length a.N.length x)) ∧ Below w.heap.size w w' := by
  have hu25 := Try.underlying25
  have hu22 := Try.underlying22
  have hu50 := Try.underlying50
  obtain ⟨x1, x2⟩ := x
  simp only [XP.sL, XP.sN] at hb
  have hw1 : IntKind.i64.wrap ((a.L.length : Int) - 1) = (a.L.length : Int) - 1 := IntWalk.i64_in _ (by omega)
  have hw2 : IntKind.i64.wrap ((a.N.length : Int) - 1) = (a.N.length : Int) - 1 := IntWalk.i64_in _ (by omega)
  refine calls_of_exec Try.func133 rfl ?_
  simp only [Try.ntmps133, List.size_toArray, List.length_cons, List.length_nil, Nat.reduceAdd, Nat.reduceSub, Array.replicate_succ, Array.replicate_zero, List.push_toArray, List.append_toArray, List.nil_append, List.cons_append]
  refine exec_seq (exec_region_o fun ds => ?_)
  gi_wp2
  refine eq_mk ((Keep.refl _).alloc _) ?_
  show Exec _ _ _ _ _ _
  have hB := (Below.refl w.heap.size w).alloc (Nat.le_refl _) (.cells #[vi x1, vi x2] 50)
  have b1 : (w.alloc (.cells #[vi x1, vi x2] 50)).heap[w.heap.size]? = some (.cells #[vi x1, vi x2] 50 (0, 0)) := World.alloc_heap_new _ _
  have hb1 := heap_next hb (.cells #[vi x1, vi x2] 50)
  generalize w.alloc (.cells #[vi x1, vi x2] 50) = X at *
  have c0 := cells_get (cs := [_, _]) (k := 0) b1 rfl
  have c2 := cells_get (cs := [_, _, _]) (k := 0) hb1 rfl
  refine exec_seq (exec_region_o fun ds => ?_)
  gi_wp2_with fail
  refine ⟨trivial, rfl, (callsIn_wide.2 (inB_ok x1 0 ((a.L.length : Int) - 1) X)).mono ?_⟩
  rintro e Y ⟨rfl, hy⟩
  have hBY := hB.trans (hy.mono hB.size)
  have c1 := (Grow.of_below (B := 0) hy).cell (cells_get (cs := [_, _]) (k := 1) b1 rfl)
  have c3 := (Grow.of_below (B := 0) hy).cell (cells_get (cs := [_, _, _]) (k := 1) hb1 rfl)
  cases h1 : inB x1 0 ((a.L.length : Int) - 1) with
  | false =>
    have HN := Lib.hid h1
    clear h1
    gi_wp2
    refine ⟨trivial, ?_⟩
    rename_i hK
    refine hK _ _ ?_
    gi_wp2
    refine eq_mk (Keep.of_below hy) ?_
    show Exec _ _ _ _ _ _
    refine exec_ret ⟨.inr rfl, fun W' hG => ⟨.bool true, by simp [results, Try.f133, go_sem], by simp [kinOut, HN.out], hBY.trans (hG.below (Nat.le_refl _) hBY.size)⟩⟩
  | true =>
    have HN := Lib.hid h1
    clear h1
    gi_wp2_with fail
    refine ⟨trivial, rfl, (callsIn_wide.2 (inB_ok x2 0 ((a.N.length : Int) - 1) Y)).mono ?_⟩
    rintro e Z ⟨rfl, hz⟩
    have hyz := hy.trans (hz.mono hy.size)
    have hBZ := hBY.trans (hz.mono hBY.size)
    gi_wp2
    refine eq_mk (Keep.of_below hyz) (exec_ret ⟨.inr rfl, fun W' hG => ⟨.bool (!inB x2 0 ((a.N.length : Int) - 1)), by simp [results, Try.f133, go_sem], by simp [kinOut, HN.out], hBZ.trans (hG.below (Nat.le_refl _) hBZ.size)⟩⟩)
end Go.Proofs.Ytbdmmikflkpmpaa
end

section
namespace Go.Proofs.Ytbdmmikflkpmpaa
open Go.RowKit Go.TL Go.Shelf Go.Pn
attribute [local go_sem] Oper.semAt_some
structure PBx (W : World) (b : Nat) (a : XP) : Prop where
  heap : W.heap[b]? = some (.cells #[a.sL, a.sN, a.sK] 25 (0, 0))
  at_ : a.At W
theorem PBx.keep {W W' : World} {b : Nat} {a : XP} (h : PBx W b a) (hb : Below W.heap.size W W') : PBx W' b a := ⟨(hb.block _ (heap_lt h.heap)).trans h.heap, h.at_.below hb⟩
set_option maxRecDepth 100000 in
set_option maxHeartbeats 2000000 in
theorem isPan105 (a : XP) (w : World) (ha : a.At w) : Calls Try.prog 105 #[a.val] w fun e w' => e = .returned (.bool a.isP) ∧ Below w.heap.size w w' := by
  have hmf : ∀ fn first cap w, (Instr.makeFunc fn first cap).run Try.prog w = .ok (.func fn first cap) w := fun _ _ _ _ => rfl
  have hu25 := Try.underlying25
  have hu22 := Try.underlying22
  have hu23 := Try.underlying23
  refine calls_of_exec Try.func105 rfl ?_
  simp only [Try.ntmps105, List.size_toArray, List.length_cons, List.length_nil, Nat.reduceAdd, Nat.reduceSub, Array.replicate_succ, Array.replicate_zero, List.push_toArray, List.append_toArray, List.nil_append, List.cons_append]
  simp only [XP.val]
  refine exec_seq (exec_region_o fun ds => ?_)
  gi_wp2
  refine eq_mk ((Keep.refl _).alloc _) ?_
  show Exec _ _ _ _ _ _
  have hB := (Below.refl w.heap.size w).alloc (Nat.le_refl _) (.cells #[a.sL, a.sN, a.sK] 25)
  have hX : PBx (w.alloc (.cells #[a.sL, a.sN, a.sK] 25)) w.heap.size a := ⟨World.alloc_heap_new _ _, ha.below hB⟩
  generalize w.alloc (.cells #[a.sL, a.sN, a.sK] 25) = X at *
  refine exec_seq (exec_region_o fun ds => ?_)
  gi_wp2
  refine eq_mk (Keep.refl _) ?_
  show Exec _ _ _ _ _ _
  refine exec_seq (exec_region_o fun ds => ?_)
  gi_wp2
  refine eq_mk (Keep.refl _) ?_
  show Exec _ _ _ _ _ _
  refine exec_seq (exec_region_o fun ds => ?_)
  gi_wp2
  refine eq_mk (Keep.refl _) ?_
  show Exec _ _ _ _ _ _
  refine exec_cut (fun t' W' => W' = X ∧ Slots (none :: some (.pointer (some ⟨w.heap.size, 0, none⟩)) :: none :: some (.func (.func 131) #[] #[]) :: some (.func (.func 132) #[] #[]) :: some (.func (.func 133) #[] #[.pointer (some ⟨w.heap.size, 0, none⟩)]) :: some (.bool a.lens) :: none :: none :: none :: o4 (o16 (o16 []))) t') (exec_region_o fun ds => ?_) ?_
  · have hh := hX.heap
    simp only [XP.sL, XP.sN, XP.sK] at hh
    have c0 := cells_get (cs := [_, _, _]) (k := 0) hh rfl
    have c1 := cells_get (cs := [_, _, _]) (k := 1) hh rfl
    have c2 := cells_get (cs := [_, _, _]) (k := 2) hh rfl
    clear hh
    by_cases h1 : a.L.length ≤ 6
    · by_cases h2 : a.N.length ≤ 6
      · have i1 : (a.L.length : Int) ≤ 6 := by omega
        have i2 : (a.N.length : Int) ≤ 6 := by omega
        have i3 : decide ((a.K.length : Int) ≤ 10) = decide (a.K.length ≤ 10) := decide_eq_decide.2 (by omega)
        have el : a.lens = decide (a.K.length ≤ 10) := by simp [XP.lens, h1, h2]
        rw [el]
        clear h1 h2 el
        gi_wp2
        exact eq_mk (Keep.refl _) ⟨rfl, by simp [Slots, Fits, i3]⟩
      · have i1 : (a.L.length : Int) ≤ 6 := by omega
        have i2 : ¬ (a.N.length : Int) ≤ 6 := by omega
        have el : a.lens = false := by simp [XP.lens, h2]
        rw [el]
        clear h1 h2 el
        gi_wp2
        exact eq_mk (Keep.refl _) ⟨rfl, by simp [Slots, Fits]⟩
    · have i1 : ¬ (a.L.length : Int) ≤ 6 := by omega
      have el : a.lens = false := by simp [XP.lens, h1]
      rw [el]
      clear h1 el
      gi_wp2
      exact eq_mk (Keep.refl _) ⟨rfl, by simp [Slots, Fits]⟩
  rintro t' W' ⟨rfl, hSl⟩
  obtain ⟨x, hx⟩ := Slots.open_ hSl; simp only [fill, Nat.reduceAdd] at hx; subst hx; clear hSl
  have hh := hX.heap
  simp only [XP.sL] at hh
  have c0 := cells_get (cs := [_, _, _]) (k := 0) hh rfl
  have eg1 : ∀ args w, (callFunc 131 args).run Try.prog w = .ok (.enter 131 args) w := enters_of Try.func131 (by kernel_rfl) rfl
  have eg2 : ∀ args w, (callFunc 132 args).run Try.prog w = .ok (.enter 132 args) w := enters_of Try.func132 (by kernel_rfl) rfl
  have eg3 : ∀ args w, (callFunc 133 args).run Try.prog w = .ok (.enter 133 args) w := enters_of Try.func133 (by kernel_rfl) rfl
  refine exec_seq (exec_region_o fun ds => ?_)
  cases hl : a.lens with
  | false =>
    have HN := Lib.hid hl
    clear hl
    gi_wp2
    first | refine ⟨trivial, ?_⟩ | skip
    rename_i hK
    refine hK _ _ ?_
    gi_wp2
    first | refine ⟨trivial, ?_⟩ | skip
    rename_i hK
    refine hK _ _ ?_
    gi_wp2
    first | refine ⟨trivial, ?_⟩ | skip
    rename_i hK
    refine hK _ _ ?_
    gi_wp2
    refine eq_mk (Keep.of_below (Below.refl _ W')) ?_
    show Exec _ _ _ _ _ _
    exact exec_ret ⟨.inr rfl, fun W' hG => ⟨.bool false, by simp [results, Try.f105, go_sem], by simp [XP.isP, HN.out], hB.trans (hG.below (Nat.le_refl _) hB.size)⟩⟩
  | true =>
    have HN := Lib.hid hl
    clear hl
    gi_wp2_with fail
    refine ⟨trivial, rfl, (callsIn_wide.2 (some58 (lb := #[]) eg1 (fun y => !inB y 0 6) a.AL a.cL a.L (by have := ha.l4; omega) W' hX.at_.l (fun x _ W _ => out131 x W))).mono ?_⟩
    rintro e Y ⟨rfl, hy⟩
    have hBY := hB.trans (hy.mono hB.size)
    have hYX := hX.keep hy
    cases hq : a.L.any (fun y => !inB y 0 6) with
    | true =>
      have HQ := Lib.hid hq
      clear hq
      gi_wp2
      first | refine ⟨trivial, ?_⟩ | skip
      rename_i hK
      refine hK _ _ ?_
      gi_wp2
      first | refine ⟨trivial, ?_⟩ | skip
      rename_i hK
      refine hK _ _ ?_
      gi_wp2
      refine eq_mk (Keep.of_below hy) ?_
      show Exec _ _ _ _ _ _
      exact exec_ret ⟨.inr rfl, fun W' hG => ⟨.bool false, by simp [results, Try.f105, go_sem], by simp [XP.isP, HQ.out], hBY.trans (hG.below (Nat.le_refl _) hBY.size)⟩⟩
    | false =>
      have HQ := Lib.hid hq
      clear hq
      have hh := hYX.heap
      simp only [XP.sN] at hh
      have c1 := cells_get (cs := [_, _, _]) (k := 1) hh rfl
      gi_wp2_with fail
      refine ⟨trivial, rfl, (callsIn_wide.2 (some58 (lb := #[]) eg2 (fun y => !inB y 0 3) a.AN a.cN a.N (by have := ha.n4; omega) Y hYX.at_.n (fun x _ W _ => out132 x W))).mono ?_⟩
      rintro e Z ⟨rfl, hz⟩
      have hyz := hy.trans (hz.mono hy.size)
      have hBZ := hBY.trans (hz.mono hBY.size)
      have hZX := hYX.keep hz
      cases hr : a.N.any (fun y => !inB y 0 3) with
      | true =>
        have HR := Lib.hid hr
        clear hr
        gi_wp2
        first | refine ⟨trivial, ?_⟩ | skip
        rename_i hK
        refine hK _ _ ?_
        gi_wp2
        refine eq_mk (Keep.of_below hyz) ?_
        show Exec _ _ _ _ _ _
        exact exec_ret ⟨.inr rfl, fun W' hG => ⟨.bool false, by simp [results, Try.f105, go_sem], by simp [XP.isP, HR.out], hBZ.trans (hG.below (Nat.le_refl _) hBZ.size)⟩⟩
      | false =>
        have HR := Lib.hid hr
        clear hr
        have hh := hZX.heap
        simp only [XP.sK] at hh
        have c2 := cells_get (cs := [_, _, _]) (k := 2) hh rfl
        gi_wp2_with fail
        refine ⟨trivial, rfl, (callsIn_wide.2 (some134 (lb := #[.pointer (some ⟨w.heap.size, 0, none⟩)]) eg3 (kinOut a.L.length a.N.length) a.AK a.cK a.K (by have := ha.k4; omega) Z hZX.at_.k (fun x _ W hW => out133 a x ha.l4 ha.n4 w.heap.size W (hZX.keep hW).heap))).mono ?_⟩
        rintro e U ⟨rfl, hu⟩
        have hyu := hyz.trans (hu.mono hyz.size)
        have hBU := hBZ.trans (hu.mono hBZ.size)
        gi_wp2
        refine eq_mk (Keep.of_below hyu) ?_
        show Exec _ _ _ _ _ _
        exact exec_ret ⟨.inr rfl, fun W' hG => ⟨.bool (!a.K.any (kinOut a.L.length a.N.length)), by simp [results, Try.f105, go_sem], by simp [XP.isP, HN.out, HQ.out, HR.out], hBU.trans (hG.below (Nat.le_refl _) hBU.size)⟩⟩
end Go.Proofs.Ytbdmmikflkpmpaa
end

section
namespace Go.Proofs.Ytbdmmikflkpmpaa
open Go.RowKit Go.TL Go.Shelf Go.Pn
attribute [local go_sem] Oper.semAt_some
def XP.s3 (x : XP) : S3 := (x.L.map Int.toNat, x.N.map Int.toNat, x.K.map fun k => (k.1.toNat, k.2.toNat))
def XP.np (x : XP) : NP := ⟨x.AL, x.cL, x.s3.1, x.AN, x.cN, x.s3.2.1, x.AK, x.cK, x.s3.2.2⟩
theorem XP.np_val (x : XP) : x.np.val = x.val := by
  simp [NP.val, XP.val, NP.sL, NP.sN, NP.sK, XP.sL, XP.sN, XP.sK, XP.np, XP.s3]
structure XP.Fine (x : XP) : Prop where
  j : x.L.length ≤ 6
  p : x.N.length ≤ 6
  k : x.K.length ≤ 10
  lb : ∀ y ∈ x.L, 0 ≤ y ∧ y ≤ 6
  nb : ∀ y ∈ x.N, 0 ≤ y ∧ y ≤ 3
  kb : ∀ y ∈ x.K, (0 ≤ y.1 ∧ y.1 < x.L.length) ∧ 0 ≤ y.2 ∧ y.2 < x.N.length
theorem XP.fine (x : XP) (h : x.isP = true) : x.Fine := by
  simp only [XP.isP, XP.lens, Bool.and_eq_true, decide_eq_true_eq, Bool.not_eq_true', List.any_eq_false, Bool.not_eq_eq_eq_not, Bool.not_true, Bool.not_not, kinOut, Bool.or_eq_true, inB, not_or] at h
  obtain ⟨⟨⟨⟨⟨h1, h2⟩, h3⟩, h4⟩, h5⟩, h6⟩ := h
  refine ⟨h1, h2, h3, fun y hy => ?_, fun y hy => ?_, fun y hy => ?_⟩
  · have := h4 y hy
    simpa using this
  · have := h5 y hy
    simpa using this
  · have := h6 y hy
    simp at this
    omega
theorem map_iv {l : List Int} (h : ∀ y ∈ l, 0 ≤ y) : (l.map Int.toNat).map iv = l.map vi := by
  rw [List.map_map]
  refine List.map_congr_left fun y hy => ?_
  have := h y hy
  show Value.int .i64 ((y.toNat : Nat) : Int) = Value.int .i64 y
  rw [Int.toNat_of_nonneg this]
theorem XP.np_at {x : XP} {w : World} (h : x.At w) (hf : x.Fine) : x.np.At w := by
  refine ⟨?_, ?_, ?_⟩
  · show RowV w x.AL ((x.L.map Int.toNat).map iv)
    rw [map_iv fun y hy => (hf.lb y hy).1]
    exact h.l
  · show RowV w x.AN ((x.N.map Int.toNat).map iv)
    rw [map_iv fun y hy => (hf.nb y hy).1]
    exact h.n
  · intro i k hk
    rw [show x.np.K = x.K.map fun k => (k.1.toNat, k.2.toNat) from rfl, List.getElem?_map] at hk
    obtain ⟨y, hy, rfl⟩ := Option.map_eq_some_iff.1 hk
    obtain ⟨a, e, h1, h2⟩ := h.k i y hy
    have := hf.kb y (List.mem_of_getElem? hy)
    refine ⟨a, e, ?_, ?_⟩
    · rw [h1]
      show some (Value.int .i64 _) = some (Value.int .i64 _)
      rw [Int.toNat_of_nonneg this.1.1]
    · rw [h2]
      show some (Value.int .i64 _) = some (Value.int .i64 _)
      rw [Int.toNat_of_nonneg this.2.1]
theorem XP.good {x : XP} (hf : x.Fine) : x.s3.Good := by
  refine ⟨by simpa [XP.s3] using hf.j, by simpa [XP.s3] using hf.p, by simpa [XP.s3] using hf.k, ?_, ?_, ?_, ?_⟩
  · intro n hn
    obtain ⟨y, hy, rfl⟩ := List.mem_map.1 hn
    have := hf.lb y hy
    omega
  · intro n hn
    obtain ⟨y, hy, rfl⟩ := List.mem_map.1 hn
    have := hf.nb y hy
    omega
  · intro n hn
    obtain ⟨y, hy, rfl⟩ := List.mem_map.1 hn
    have := hf.kb y hy
    simp only [XP.s3, List.length_map]
    omega
  · intro n hn
    obtain ⟨y, hy, rfl⟩ := List.mem_map.1 hn
    have := hf.kb y hy
    simp only [XP.s3, List.length_map]
    omega
def misfit (code : Int) : List PanicEntry := [{ v := .iface 133 (.agg #[.int .i64 code]), recovered := false }]
set_option maxHeartbeats 400000 in
theorem checked_yes (a : XP) (w : World) (ha : a.At w) (h : a.isP = true) : Calls Try.prog 52 #[a.val] w fun e w' => e = .returned (.tuple #[]) ∧ Below w.heap.size w w' := by
  have hu25 := Try.underlying25
  refine calls_of_exec Try.func52 rfl ?_
  simp only [Try.ntmps52, List.size_toArray, List.length_cons, List.length_nil, Nat.reduceAdd, Nat.reduceSub, Array.replicate_succ, Array.replicate_zero, List.push_toArray, List.append_toArray, List.nil_append, List.cons_append]
  simp only [XP.val]
  refine exec_seq (exec_region_o fun ds => ?_)
  gi_wp2
  refine eq_mk ((Keep.refl _).alloc _) ?_
  show Exec _ _ _ _ _ _
  have hB := (Below.refl w.heap.size w).alloc (Nat.le_refl _) (.cells #[a.sL, a.sN, a.sK] 25)
  have hX : PBx (w.alloc (.cells #[a.sL, a.sN, a.sK] 25)) w.heap.size a := ⟨World.alloc_heap_new _ _, ha.below hB⟩
  generalize w.alloc (.cells #[a.sL, a.sN, a.sK] 25) = X at *
  have c0 := cells_get (cs := [_, _, _]) (k := 0) hX.heap rfl
  have c1 := cells_get (cs := [_, _, _]) (k := 1) hX.heap rfl
  have c2 := cells_get (cs := [_, _, _]) (k := 2) hX.heap rfl
  have hcall := isPan105 a X hX.at_
  rw [h] at hcall
  clear h
  refine exec_region_o fun ds => ?_
  gi_wp2_with fail
  refine ⟨trivial, rfl, (callsIn_wide.2 hcall).mono ?_⟩
  rintro e Y ⟨rfl, hy⟩
  gi_wp2_with fail
  refine ⟨trivial, rfl, (callsIn_wide.2 (need_yes 1 Y)).mono ?_⟩
  rintro e Z ⟨rfl, rfl⟩
  have hBY := hB.trans (hy.mono hB.size)
  gi_wp2
  refine eq_mk (Keep.of_below hy) ⟨.inl rfl, fun W' hG => ⟨.tuple #[], by simp [results, Try.f52, go_sem], rfl, hBY.trans (hG.below (Nat.le_refl _) hBY.size)⟩⟩
set_option maxHeartbeats 400000 in
theorem checked_no (a : XP) (w : World) (ha : a.At w) (h : a.isP = false) : Calls Try.prog 52 #[a.val] w fun e w' => e = .panicked (misfit 1) ∧ Below w.heap.size w w' := by
  have hu25 := Try.underlying25
  simp only [XP.val]
  have hB := (Below.refl w.heap.size w).alloc (Nat.le_refl _) (.cells #[a.sL, a.sN, a.sK] 25)
  have hX : PBx (w.alloc (.cells #[a.sL, a.sN, a.sK] 25)) w.heap.size a := ⟨World.alloc_heap_new _ _, ha.below hB⟩
  have c0 := cells_get (cs := [_, _, _]) (k := 0) hX.heap rfl
  have c1 := cells_get (cs := [_, _, _]) (k := 1) hX.heap rfl
  have c2 := cells_get (cs := [_, _, _]) (k := 2) hX.heap rfl
  have hcall := isPan105 a _ hX.at_
  rw [h] at hcall
  clear h
  go_enter Try.func52, Try.ntmps52
  go_wp2_with fail
  refine hcall.mono ?_
  rintro e Y ⟨rfl, hy⟩
  go_wp2_with fail
  refine (need_no 1 Y).mono ?_
  rintro e Z ⟨rfl, rfl⟩
  exact ⟨rfl, rfl, hB.trans (hy.mono hB.size)⟩
theorem open_plain (a : XP) (hf : a.Fine) (w : World) (ha : a.At w) : Calls Try.prog 56 #[a.val, .slice none 0 0] w fun e w' => ∃ pp m, e = .returned (.pointer (some ⟨pp, 0, none⟩)) ∧ w.heap.size ≤ pp ∧ Below w.heap.size w w' ∧ PnlAt w' pp (toP a.s3) m := by
  have h1 : a.np.L.length = a.L.length := by simp [XP.np, XP.s3]
  have h2 : a.np.N.length = a.N.length := by simp [XP.np, XP.s3]
  have h3 : a.np.K.length = a.K.length := by simp [XP.np, XP.s3]
  have := ha.l4
  have := ha.n4
  have := ha.k4
  have h := open56 (cs := []) (Al := none) (cl := 0) (XP.np_at ha hf) (by omega) (by omega) (by omega) (by simp) (by simp) (by simp) (by simp) (XP.good hf)
  rw [XP.np_val] at h
  exact h
set_option maxHeartbeats 400000 in
theorem found_yes (a : XP) (hf : a.Fine) (w : World) (ha : a.At w) (h : canV (toP a.s3) = true) : Calls Try.prog 53 #[a.val] w fun e w' => e = .returned (.tuple #[]) ∧ Below w.heap.size w w' := by
  have hu25 := Try.underlying25
  have hmf : ∀ fn first cap w, (Instr.makeFunc fn first cap).run Try.prog w = .ok (.func fn first cap) w := fun _ _ _ _ => rfl
  simp only [XP.val]
  have hB := (Below.refl w.heap.size w).alloc (Nat.le_refl _) (.cells #[a.sL, a.sN, a.sK] 25)
  have hX : PBx (w.alloc (.cells #[a.sL, a.sN, a.sK] 25)) w.heap.size a := ⟨World.alloc_heap_new _ _, ha.below hB⟩
  have c0 := cells_get (cs := [_, _, _]) (k := 0) hX.heap rfl
  have c1 := cells_get (cs := [_, _, _]) (k := 1) hX.heap rfl
  have c2 := cells_get (cs := [_, _, _]) (k := 2) hX.heap rfl
  refine calls_of_exec Try.func53 rfl ?_
  simp only [Try.ntmps53, List.size_toArray, List.length_cons, List.length_nil, Nat.reduceAdd, Nat.reduceSub, Array.replicate_succ, Array.replicate_zero, List.push_toArray, List.append_toArray, List.nil_append, List.cons_append]
  refine exec_seq (exec_region_o fun ds => ?_)
  gi_wp2
  refine eq_mk ((Keep.refl _).alloc _) ?_
  show Exec _ _ _ _ _ _
  have hcall := open_plain a hf _ hX.at_
  generalize w.alloc (.cells #[a.sL, a.sN, a.sK] 25) = X at *
  refine exec_seq (exec_region_o fun ds => ?_)
  gi_wp2_with fail
  refine ⟨trivial, rfl, (callsIn_wide.2 hcall).mono ?_⟩
  rintro e Y ⟨pp, m, rfl, hpp, hy, hP⟩
  gi_wp2
  refine eq_mk (Keep.of_below hy) ?_
  show Exec _ _ _ _ _ _
  have hcan := can61 hP
  rw [h] at hcan
  clear h
  refine exec_region_o fun ds => ?_
  gi_wp2_with fail
  refine ⟨trivial, rfl, (callsIn_wide.2 hcan).mono ?_⟩
  rintro e Z ⟨rfl, hz⟩
  gi_wp2_with fail
  refine ⟨trivial, rfl, (callsIn_wide.2 (need_yes 4 Z)).mono ?_⟩
  rintro e Z ⟨rfl, rfl⟩
  have hBZ := (hB.trans (hy.mono hB.size)).trans (hz.mono (Nat.le_trans hB.size hy.size))
  gi_wp2
  refine eq_mk (Keep.of_below hz) ⟨.inl rfl, fun W' hG => ⟨.tuple #[], by simp [results, Try.f53, go_sem], rfl, hBZ.trans (hG.below (Nat.le_refl _) hBZ.size)⟩⟩
set_option maxHeartbeats 400000 in
theorem found_no (a : XP) (hf : a.Fine) (w : World) (ha : a.At w) (h : canV (toP a.s3) = false) : Calls Try.prog 53 #[a.val] w fun e w' => e = .panicked (misfit 4) ∧ Below w.heap.size w w' := by
  have hu25 := Try.underlying25
  have hmf : ∀ fn first cap w, (Instr.makeFunc fn first cap).run Try.prog w = .ok (.func fn first cap) w := fun _ _ _ _ => rfl
  simp only [XP.val]
  have hB := (Below.refl w.heap.size w).alloc (Nat.le_refl _) (.cells #[a.sL, a.sN, a.sK] 25)
  have hX : PBx (w.alloc (.cells #[a.sL, a.sN, a.sK] 25)) w.heap.size a := ⟨World.alloc_heap_new _ _, ha.below hB⟩
  have c0 := cells_get (cs := [_, _, _]) (k := 0) hX.heap rfl
  have c1 := cells_get (cs := [_, _, _]) (k := 1) hX.heap rfl
  have c2 := cells_get (cs := [_, _, _]) (k := 2) hX.heap rfl
  have hcall := open_plain a hf _ hX.at_
  go_enter Try.func53, Try.ntmps53
  go_wp2_with fail
  refine hcall.mono ?_
  rintro e Y ⟨pp, m, rfl, hpp, hy, hP⟩
  have hcan := can61 hP
  rw [h] at hcan
  clear h
  go_wp2_with fail
  refine hcan.mono ?_
  rintro e Z ⟨rfl, hz⟩
  go_wp2_with fail
  refine (need_no 4 Z).mono ?_
  rintro e Z ⟨rfl, rfl⟩
  exact ⟨rfl, rfl, (hB.trans (hy.mono hB.size)).trans (hz.mono (Nat.le_trans hB.size hy.size))⟩
end Go.Proofs.Ytbdmmikflkpmpaa
end

section
namespace Go.Proofs.Ytbdmmikflkpmpaa
open Go.RowKit Go.TL Go.Shelf Go.Pn
attribute [local go_sem] Oper.semAt_some
theorem boxed_set {W : World} {b : Nat} {t : TypeId} {x : Value} (h : Boxed W b t x) (v : Value) : Boxed (W.setCell ⟨b, 0, none⟩ v) b t v := by (simp only [Boxed, Box2, heap_alloc_at, heap_set_at, World.size_alloc, World.size_setCell]; repeat (first | rfl | exact h | rw [if_pos (by omega)] | rw [if_neg (by omega)] | rw [show _ = _ from h]))
theorem results_num {fn : Func} {p q : Tmp} (hr : fn.results = #[.tmp p, .cell q 28]) {t : Array Value} {y : Nat} {n : Int} (hp : t[p]? = some (.int .i64 n)) (hq : t[q]? = some (.pointer (some ⟨y, 0, none⟩))) {W : World} {e : Int} (hy : Boxed W y 28 (.int .i64 e)) :
    (results fn t).run Try.prog W = .ok (.tuple #[.int .i64 n, .int .i64 e]) W := by
  have h2 := hy.cell
  simp [results, hr, hp, hq, go_sem, h2]
def seatsA (a : XP) : Int × Int := if a.isP then (seatsV (toP a.s3), 0) else (0, 1)
set_option maxRecDepth 100000 in
set_option maxHeartbeats 600000 in
theorem Seats_any (a : XP) (w : World) (h : a.At w) : Calls Try.prog 26 #[a.val] w fun e w' => e = .returned (.tuple #[vi (seatsA a).1, vi (seatsA a).2]) ∧ Below w.heap.size w w' := by
  have hmf : ∀ fn first cap w, (Instr.makeFunc fn first cap).run Try.prog w = .ok (.func fn first cap) w := fun _ _ _ _ => rfl
  have hu25 := Try.underlying25
  obtain ⟨A, hA⟩ : ∃ A, seatsA a = A := ⟨_, rfl⟩
  rw [hA]
  have HA := Lib.hid hA
  clear hA
  refine (callsIn_wide (n := 0)).1 (callsIn_of_wp_marks Try.func26 rfl trivial ?_)
  simp only [Try.ntmps26, List.size_toArray, List.length_cons, List.length_nil, Nat.reduceAdd, Nat.reduceSub, Array.replicate_succ, Array.replicate_zero, List.push_toArray, List.append_toArray, List.nil_append, List.cons_append]
  simp only [XP.val]
  refine split_rest fun rest hR => ?_
  gi_wp2
  have hB := ((Below.refl w.heap.size w).alloc (Nat.le_refl _) (.cells #[a.sL, a.sN, a.sK] 25)).alloc (by simp) (.cells #[.int .i64 0] 28)
  have b1 : PBx ((w.alloc (.cells #[a.sL, a.sN, a.sK] 25)).alloc (.cells #[.int .i64 0] 28)) w.heap.size a := ⟨heap_next (World.alloc_heap_new _ _) _, h.below hB⟩
  have b3 : Boxed ((w.alloc (.cells #[a.sL, a.sN, a.sK] 25)).alloc (.cells #[.int .i64 0] 28)) (w.heap.size + 1) 28 (.int .i64 0) := by (simp only [Boxed, Box2, heap_alloc_at, heap_set_at, World.size_alloc, World.size_setCell]; repeat (first | rfl | rw [if_pos (by omega)] | rw [if_neg (by omega)]))
  refine guard_rest (lo := w.heap.size) (T := 133) (b := w.heap.size + 1) catches75 ⟨_, _, rfl⟩ (fun W => by simp [go_sem]) hB.size ?_
  subst hR
  generalize (w.alloc (.cells #[a.sL, a.sN, a.sK] 25)).alloc (.cells #[.int .i64 0] 28) = V at *
  clear hmf
  have c0 := cells_get (cs := [_, _, _]) (k := 0) b1.heap rfl
  have c1 := cells_get (cs := [_, _, _]) (k := 1) b1.heap rfl
  have c2 := cells_get (cs := [_, _, _]) (k := 2) b1.heap rfl
  refine exec_seq (exec_region_o fun ds => ?_)
  gi_wp2_with fail
  cases hp : a.isP with
  | false =>
    refine ⟨trivial, rfl, (callsIn_wide.2 (checked_no a V b1.at_ hp)).mono ?_⟩
    rintro e W2 ⟨rfl, hw2⟩
    refine eq_mk (Keep.of_below hw2) (.inr ⟨1, 28, 0, rfl, (hw2.block _ b3.lt).trans b3, ?_⟩)
    rintro W' W'' hG rfl
    have hB2 := hB.trans (hw2.mono hB.size)
    have d3 := hG.boxed (show Boxed W2 (w.heap.size + 1) 28 (.int .i64 0) from (hw2.block _ b3.lt).trans b3)
    exact ⟨_, results_num rfl rfl rfl (boxed_set d3 _), by rw [← HA.out]; simp [seatsA, hp], (hB2.trans (hG.below (Nat.le_refl _) hB2.size)).setCell (by show w.heap.size ≤ w.heap.size + 1; omega) _⟩
  | true =>
    refine ⟨trivial, rfl, (callsIn_wide.2 (checked_yes a V b1.at_ hp)).mono ?_⟩
    rintro e W2 ⟨rfl, hw2⟩
    have hA : A = ((seatsV (toP a.s3) : Int), 0) := by rw [← HA.out]; simp [seatsA, hp]
    have hf := a.fine hp
    have HA := Lib.hid hA
    clear hp hA
    gi_wp2
    refine eq_mk (Keep.of_below hw2) ?_
    show Exec _ _ _ _ _ _
    have hB2 := hB.trans (hw2.mono hB.size)
    have b2 := b1.keep hw2
    have d3 : Boxed W2 (w.heap.size + 1) 28 (.int .i64 0) := (hw2.block _ b3.lt).trans b3
    clear b1 b3 c0 c1 c2 hB hw2
    clear V
    have c0 := cells_get (cs := [_, _, _]) (k := 0) b2.heap rfl
    have c1 := cells_get (cs := [_, _, _]) (k := 1) b2.heap rfl
    have c2 := cells_get (cs := [_, _, _]) (k := 2) b2.heap rfl
    refine exec_seq (exec_region_o fun ds => ?_)
    gi_wp2_with fail
    refine ⟨trivial, rfl, (callsIn_wide.2 (open_plain a hf W2 b2.at_)).mono ?_⟩
    rintro e Y ⟨pp, m, rfl, hpp, hy, hP⟩
    gi_wp2_with fail
    refine ⟨trivial, rfl, (callsIn_wide.2 (seats76 hP)).mono ?_⟩
    rintro e Z ⟨rfl, hz⟩
    have hyz := hy.trans (hz.mono hy.size)
    have f3 : Boxed Z (w.heap.size + 1) 28 (.int .i64 0) := (hyz.block _ d3.lt).trans d3
    have hBZ := (hB2.trans (hyz.mono hB2.size))
    have e1 := f3.cell
    have e2 := f3.frozen
    gi_wp2
    refine eq_mk ((Keep.of_below hyz).setCell _ _) ?_
    show Exec _ _ _ _ _ _
    have g7 := boxed_set f3 (.int .i64 0)
    have hB5 : Below w.heap.size w (Z.setCell ⟨w.heap.size + 1, 0, none⟩ (.int .i64 0)) := hBZ.setCell (by show w.heap.size ≤ w.heap.size + 1; omega) _
    exact exec_ret (.inl ⟨.inr rfl, g7.lt, fun W' hG => ⟨_, results_num rfl rfl rfl (hG.boxed g7), by rw [HA.out], hB5.trans (hG.below (Nat.le_refl _) hB5.size)⟩⟩)
end Go.Proofs.Ytbdmmikflkpmpaa
end

section
namespace Go.Proofs.Ytbdmmikflkpmpaa
open Go.RowKit Go.TL Go.Shelf Go.Pn
attribute [local go_sem] Oper.semAt_some
attribute [local go_sem] run_store_func
theorem boxed_far {W : World} {b k : Nat} {t : TypeId} {x : Value} (h : Boxed W k t x) (v : Value) (hne : k ≠ b) : Boxed (W.setCell ⟨b, 0, none⟩ v) k t x := (Below.heap_setCell W _ v k hne).trans h
theorem OB.alloc {W : World} {bp bL bN : Nat} {L N : List Nat} {AK : Option Addr} {cK : Nat} {K : List (Nat × Nat)} (h : OB W bp bL bN L N AK cK K) (o : Obj) : OB (W.alloc o) bp bL bN L N AK cK K :=
  ⟨h.bx.keep ((Below.refl W.heap.size W).alloc (Nat.le_refl _) o), h.k.grow (Grow.of_below (B := 0) ((Below.refl W.heap.size W).alloc (Nat.le_refl _) o)), h.f⟩
theorem OB.keep {W W' : World} {bp bL bN : Nat} {L N : List Nat} {AK : Option Addr} {cK : Nat} {K : List (Nat × Nat)} (h : OB W bp bL bN L N AK cK K) (hb : Below W.heap.size W W') : OB W' bp bL bN L N AK cK K :=
  ⟨h.bx.keep hb, h.k.grow (Grow.of_below (B := 0) hb), h.f⟩
theorem RowK.far {W : World} {A : Option Addr} {K : List (Nat × Nat)} (h : RowK W A K) {b o : Nat} (hne : K ≠ [] → ∀ a, A = some a → a.block ≠ b) (v : Value) : RowK (W.setCell ⟨b, o, none⟩ v) A K := by
  intro i k hk
  obtain ⟨a, e, h1, h2⟩ := h i k hk
  have hK : K ≠ [] := fun c => by rw [c] at hk; simp at hk
  have hb := hne hK a e
  have hbl : ∀ p : Addr, p.block = a.block → (W.setCell ⟨b, o, none⟩ v).cell? p = W.cell? p := fun p hp => by
    unfold World.cell?
    rw [Below.heap_setCell W ⟨b, o, none⟩ v p.block (by rw [hp]; exact hb)]
  refine ⟨a, e, ?_, ?_⟩
  · rw [hbl _ (by unfold Addr.add; split <;> rfl), h1]
  · rw [hbl _ (by unfold Addr.add; split <;> rfl), h2]
theorem map_set (l : List Nat) (i v : Nat) : (l.map iv).set i (iv v) = (l.set i v).map iv := (List.map_set).symm
theorem OB.setN {W : World} {bp bL bN : Nat} {L N : List Nat} {AK : Option Addr} {cK : Nat} {K : List (Nat × Nat)} (h : OB W bp bL bN L N AK cK K) (i v : Nat) : OB (W.setCell ⟨bN, i, none⟩ (iv v)) bp bL bN L (N.set i v) AK cK K := by
  have hb := h.bx
  refine ⟨?_, h.k.far (fun hK a e => (h.f hK a e).2.1) _, h.f⟩
  have h1 := box_set W bN i (N.map iv) 3 (iv v) hb.hn
  rw [map_set] at h1
  rw [List.length_set]
  exact ⟨box_far W bN i bp (iv v) _ hb.box hb.ne2, box_far W bN i bL (iv v) _ hb.hl hb.ne3, h1, hb.ne1, hb.ne2, hb.ne3⟩
theorem OB.setL {W : World} {bp bL bN : Nat} {L N : List Nat} {AK : Option Addr} {cK : Nat} {K : List (Nat × Nat)} (h : OB W bp bL bN L N AK cK K) (i v : Nat) : OB (W.setCell ⟨bL, i, none⟩ (iv v)) bp bL bN (L.set i v) N AK cK K := by
  have hb := h.bx
  refine ⟨?_, h.k.far (fun hK a e => (h.f hK a e).1) _, h.f⟩
  have h1 := box_set W bL i (L.map iv) 3 (iv v) hb.hl
  rw [map_set] at h1
  rw [List.length_set]
  exact ⟨box_far W bL i bp (iv v) _ hb.box hb.ne1, h1, box_far W bL i bN (iv v) _ hb.hn (fun e => hb.ne3 e.symm), hb.ne1, hb.ne2, hb.ne3⟩
theorem keep_grow {W X W' : World} (h : Keep W X) (hG : Grow W.heap.size X W') : Keep W W' := ⟨Nat.le_trans h.size hG.size, fun k o hk hb => hG.same k o (h.same k o hk hb) (.inl (heap_lt hk))⟩
theorem OB.grow {W W' : World} {n bp bL bN : Nat} {L N : List Nat} {AK : Option Addr} {cK : Nat} {K : List (Nat × Nat)} (h : OB W bp bL bN L N AK cK K) (hG : Grow n W W') : OB W' bp bL bN L N AK cK K :=
  ⟨⟨hG.same bp _ h.bx.box (.inr rfl), hG.same bL _ h.bx.hl (.inr rfl), hG.same bN _ h.bx.hn (.inr rfl), h.bx.ne1, h.bx.ne2, h.bx.ne3⟩, h.k.grow hG, h.f⟩
def onlyTo (s : Nat) (N : List Nat) (k : Nat) : List Nat := (List.range k).foldl (fun N p => if s.testBit p then N else N.set p 0) N
theorem onlyTo_succ (s : Nat) (N : List Nat) (k : Nat) : onlyTo s N (k + 1) = if s.testBit k then onlyTo s N k else (onlyTo s N k).set k 0 := by
  unfold onlyTo
  rw [List.range_succ, List.foldl_append]
  rfl
theorem onlyTo_len (s : Nat) (N : List Nat) : ∀ k, (onlyTo s N k).length = N.length
  | 0 => rfl
  | k + 1 => by
    rw [onlyTo_succ]
    split
    · exact onlyTo_len s N k
    · rw [List.length_set, onlyTo_len s N k]
def onlyN (s : Nat) (N : List Nat) : List Nat := onlyTo s N N.length
theorem onlyTo_get (s : Nat) (N : List Nat) (q : Nat) : ∀ k, (onlyTo s N k).getD q 0 = if q < k ∧ s.testBit q = false then 0 else N.getD q 0
  | 0 => by simp [onlyTo]
  | k + 1 => by
    rw [onlyTo_succ]
    have ih := onlyTo_get s N q k
    by_cases hk : q = k
    · subst hk
      by_cases hs : s.testBit q = true
      · rw [if_pos hs, ih]
        simp [hs]
      · rw [if_neg hs, getD_set, onlyTo_len]
        have hs' : s.testBit q = false := by simpa using hs
        by_cases hq : q < N.length
        · simp [hq, hs']
        · simp [hq, hs', List.getD_eq_getElem?_getD, List.getElem?_eq_none (show (onlyTo s N q).length ≤ q by rw [onlyTo_len]; omega)]
    · have e1 : (q < k + 1 ∧ s.testBit q = false) = (q < k ∧ s.testBit q = false) := by
        apply propext
        constructor <;> rintro ⟨h1, h2⟩ <;> exact ⟨by omega, h2⟩
      simp only [e1]
      split
      · exact ih
      · rw [getD_set, if_neg (fun c => hk c.1.symm)]
        exact ih
theorem onlyN_get (s : Nat) (N : List Nat) (q : Nat) : (onlyN s N).getD q 0 = if s.testBit q then N.getD q 0 else 0 := by
  unfold onlyN
  rw [onlyTo_get]
  by_cases hs : s.testBit q = true
  · simp [hs]
  · have hs' : s.testBit q = false := by simpa using hs
    by_cases hq : q < N.length
    · simp [hq, hs']
    · simp [hq, hs', List.getD_eq_getElem?_getD]
set_option maxRecDepth 100000 in
set_option maxHeartbeats 400000 in
theorem only60 (s : Nat) (w : World) : Calls Try.prog 60 #[u64 s] w fun e w' => ∃ b, e = .returned (.agg #[.func (.func 108) #[] #[.pointer (some ⟨b, 0, none⟩)]]) ∧ w.heap.size ≤ b ∧ Boxed w' b 79 (u64 s) ∧ Below w.heap.size w w' := by
  have hmf : ∀ fn first cap w, (Instr.makeFunc fn first cap).run Try.prog w = .ok (.func fn first cap) w := fun _ _ _ _ => rfl
  have hu83 := Try.underlying83
  refine calls_of_exec Try.func60 rfl ?_
  simp only [Try.ntmps60, List.size_toArray, List.length_cons, List.length_nil, Nat.reduceAdd, Nat.reduceSub, Array.replicate_succ, Array.replicate_zero, List.push_toArray, List.append_toArray, List.nil_append, List.cons_append]
  refine exec_seq (exec_region_o fun ds => ?_)
  gi_wp2
  refine eq_mk (((Keep.refl _).alloc _).alloc _) ?_
  show Exec _ _ _ _ _ _
  have hB := ((Below.refl w.heap.size w).alloc (Nat.le_refl _) (.cells #[u64 s] 79)).alloc (by simp) (.cells #[.nilFunc] 83)
  have b1 : Boxed ((w.alloc (.cells #[u64 s] 79)).alloc (.cells #[.nilFunc] 83)) w.heap.size 79 (u64 s) := by (simp only [Boxed, Box2, heap_alloc_at, heap_set_at, World.size_alloc, World.size_setCell]; repeat (first | rfl | rw [if_pos (by omega)] | rw [if_neg (by omega)]))
  have b2 : Boxed ((w.alloc (.cells #[u64 s] 79)).alloc (.cells #[.nilFunc] 83)) (w.heap.size + 1) 83 .nilFunc := by (simp only [Boxed, Box2, heap_alloc_at, heap_set_at, World.size_alloc, World.size_setCell]; repeat (first | rfl | rw [if_pos (by omega)] | rw [if_neg (by omega)]))
  generalize (w.alloc (.cells #[u64 s] 79)).alloc (.cells #[.nilFunc] 83) = X at *
  have e1 := b2.cell
  have e2 := b2.frozen
  refine exec_seq (exec_region_o fun ds => ?_)
  gi_wp2
  refine eq_mk ((Keep.refl _).setCell _ _) ?_
  show Exec _ _ _ _ _ _
  have g1 := boxed_far b1 (.func (.func 108) #[] #[.pointer (some ⟨w.heap.size, 0, none⟩)]) (b := w.heap.size + 1) (by omega)
  have g2 := boxed_set b2 (.func (.func 108) #[] #[.pointer (some ⟨w.heap.size, 0, none⟩)])
  have hB2 : Below w.heap.size w (X.setCell ⟨w.heap.size + 1, 0, none⟩ (.func (.func 108) #[] #[.pointer (some ⟨w.heap.size, 0, none⟩)])) := hB.setCell (by show w.heap.size ≤ w.heap.size + 1; omega) _
  generalize X.setCell ⟨w.heap.size + 1, 0, none⟩ (.func (.func 108) #[] #[.pointer (some ⟨w.heap.size, 0, none⟩)]) = Y at *
  exact exec_ret ⟨.inr rfl, fun W' hG => ⟨.agg #[.func (.func 108) #[] #[.pointer (some ⟨w.heap.size, 0, none⟩)]], by have := (hG.boxed g2).cell; simp [results, Try.f60, go_sem, this], w.heap.size, rfl, Nat.le_refl _, hG.boxed g1, hB2.trans (hG.below (Nat.le_refl _) hB2.size)⟩⟩
def OnI (V : World) (bp bL bN : Nat) (L N : List Nat) (AK : Option Addr) (cK : Nat) (K : List (Nat × Nat)) (s b : Nat) (W0 : World) (n : Nat) (t : Array Value) (W : World) : Prop :=
  ∃ k : Nat, k ≤ N.length ∧ n = N.length - k ∧ Keep W0 W ∧ Below V.heap.size V W ∧ OB W bp bL bN L (onlyTo s N k) AK cK K ∧ Slots (some (.pointer (some ⟨bp, 0, none⟩)) :: some (.pointer (some ⟨b, 0, none⟩)) :: none :: none :: o4 (some (iv N.length) :: some (iv k) :: none :: o4 (o4 (o4 [])))) t
def OnM (V : World) (bp bL bN : Nat) (L N : List Nat) (AK : Option Addr) (cK : Nat) (K : List (Nat × Nat)) (n b k : Nat) (t : Array Value) (W : World) : Prop :=
  Below V.heap.size V W ∧ OB W bp bL bN L N AK cK K ∧ Slots (some (.pointer (some ⟨bp, 0, none⟩)) :: some (.pointer (some ⟨b, 0, none⟩)) :: none :: none :: o4 (some (iv n) :: some (iv k) :: none :: o4 (o4 (o4 [])))) t
set_option maxRecDepth 100000 in
set_option maxHeartbeats 2000000 in
theorem only_chg {V : World} {s b : Nat} (hs : s < 2 ^ 64) (hb : Boxed V b 79 (u64 s)) : Chg V 108 #[.pointer (some ⟨b, 0, none⟩)] (fun x => (x.1, onlyN s x.2.1, x.2.2)) (fun _ => True) where
  eg := enters_of Try.func108 (by kernel_rfl) rfl
  len x h := ⟨h.1, by show (onlyN s x.2.1).length ≤ 40; unfold onlyN; rw [onlyTo_len]; exact h.2.1, h.2.2⟩
  run W bp bL bN x AK cK hV hbp hbL hbN hok _ hO := by
    obtain ⟨L, N, K⟩ := x
    obtain ⟨h1, h2, h3⟩ := hok
    simp only at h1 h2 h3 hO
    have hu25 := Try.underlying25
    have hu22 := Try.underlying22
    refine calls_of_exec Try.func108 rfl ?_
    simp only [Try.ntmps108, List.size_toArray, List.length_cons, List.length_nil, Nat.reduceAdd, Nat.reduceSub, Array.replicate_succ, Array.replicate_zero, List.push_toArray, List.append_toArray, List.nil_append, List.cons_append]
    have c1 := cells_get (cs := [_, _, _]) (k := 1) hO.bx.box rfl
    refine exec_seq (exec_region_o fun ds => ?_)
    gi_wp2
    refine eq_mk (Keep.refl _) ?_
    show Exec _ _ _ _ _ _
    refine exec_block ?_
    refine exec_loop (OnI V bp bL bN L N AK cK K s b W) N.length ⟨0, by omega, rfl, Keep.refl _, hV, hO, by simp [Slots, Fits]⟩ ?_
    clear c1 hO
    have hV0 := hV.size
    clear hV
    rintro n t X ⟨k, hk, hn, hKp, hV, hO, hSl⟩
    have hNl : (onlyTo s N k).length = N.length := onlyTo_len s N k
    have hsu := onlyTo_succ s N k
    have hend : k = N.length → onlyTo s N k = onlyN s N := fun e => by rw [e]; rfl
    generalize onlyTo s N k = M at *
    obtain ⟨x, hx⟩ := Slots.open_ hSl; simp only [fill, Nat.reduceAdd] at hx; subst hx; clear hSl
    refine exec_seq (exec_region_o fun ds => ?_)
    gi_wp2
    refine eq_mk (Keep.refl _) ?_
    show Exec _ _ _ _ _ _
    refine exec_seq (exec_cond (b := decide (k < N.length)) (by first | rfl | (show Value.bool _ = _; congr 1; exact decide_eq_decide.2 (by omega))) (fun hp => exec_skip ?_) (fun hp => exec_exit ?_))
    · have hkl : k < N.length := by have := of_decide_eq_true hp; omega
      show Exec _ _ _ _ _ _
      obtain ⟨M2, hM2⟩ : ∃ M2, (if s.testBit k then M else M.set k 0) = M2 := ⟨_, rfl⟩
      rw [hM2] at hsu
      have HS := Lib.hid hsu
      have HM := Lib.hid hM2
      clear hsu hend hM2
      refine exec_cut (fun t' Y => Keep X Y ∧ OnM V bp bL bN L M2 AK cK K N.length b k t' Y) (exec_block (exec_seq (exec_region_o fun ds => ?_))) ?_
      · gi_wp2
        refine eq_mk (Keep.refl _) ?_
        show Exec _ _ _ _ _ _
        have cb := (Grow.of_below (B := 0) hV).cell hb.cell
        refine exec_seq (exec_region_o fun ds => ?_)
        gi_wp2_with fail
        refine ⟨trivial, rfl, (callsIn_wide.2 (has109 s k hs (by omega) X)).mono ?_⟩
        rintro e Y ⟨rfl, hy⟩
        have hVY := hV.trans (hy.mono hV.size)
        have hOY := hO.keep hy
        clear cb hO hV
        cases hq : s.testBit k with
        | false =>
          have HE : RowKit.Hid (M2 = M.set k 0) := Lib.hid (by rw [← HM.out, hq]; rfl)
          clear hq
          gi_wp2
          refine eq_mk (Keep.of_below hy) ?_
          show Exec _ _ _ _ _ _
          refine exec_cond (b := true) rfl (fun hp => ?_) (fun hp => by cases hp)
          have c1 := cells_get (cs := [_, _, _]) (k := 1) hOY.bx.box rfl
          have hkI : (k : Int) < M.length := by omega
          have hkM : k < M.length := by omega
          have cx : Y.cell? ⟨bN, k, none⟩ = some (iv (M.getD k 0)) := cells_get (cs := M.map iv) hOY.bx.hn (by rw [List.getElem?_map, List.getElem?_eq_getElem hkM, List.getD_eq_getElem?_getD, List.getElem?_eq_getElem hkM]; rfl)
          have cf : Y.frozen? ⟨bN, k, none⟩ = false := by simp [World.frozen?, hOY.bx.hn]
          refine exec_region_o fun ds => ?_
          gi_wp2
          refine eq_mk ((Keep.refl _).setCell _ _) ⟨(Keep.of_below hy).setCell _ _, ?_⟩
          exact ⟨hVY.setCell hbN _, by rw [HE.out]; exact hOY.setN k 0, (by simp only [Slots, Fits, and_self])⟩
        | true =>
          have HE : RowKit.Hid (M2 = M) := Lib.hid (by rw [← HM.out, hq]; rfl)
          clear hq
          gi_wp2
          refine eq_mk (Keep.of_below hy) ?_
          show Exec _ _ _ _ _ _
          refine exec_cond (b := false) rfl (fun hp => by cases hp) (fun hp => exec_skip ?_)
          exact ⟨Keep.of_below hy, hVY, by rw [HE.out]; exact hOY, (by simp only [Slots, Fits, and_self])⟩
      · clear hV hO x
        rintro t' Y ⟨hXY, hV, hO, hSl⟩
        obtain ⟨x, hx⟩ := Slots.open_ hSl; simp only [fill, Nat.reduceAdd] at hx; subst hx; clear hSl
        have hw : IntKind.i64.wrap ((k : Int) + 1) = ((k + 1 : Nat) : Int) := by rw [IntWalk.i64_in _ (by omega)]; norm_cast
        refine exec_region_o fun ds => ?_
        gi_wp2
        exact eq_mk (Keep.refl _) ⟨n - 1, by omega, k + 1, by omega, by omega, hKp.trans hXY, hV, by rw [HS.out]; exact hO, by simp only [Slots, Fits, and_self]; simp⟩
    · have hkl : k = N.length := by have := of_decide_eq_false hp; omega
      rw [hend hkl] at hO
      refine ⟨.inl rfl, fun W' hG => ⟨.tuple #[], by simp [results, Try.f108, go_sem], ⟨_, rfl⟩, keep_grow hKp hG, hV.trans (hG.below (Nat.le_trans hV0 (Nat.le_refl _)) hV.size), AK, cK, hO.grow hG⟩⟩
end Go.Proofs.Ytbdmmikflkpmpaa
end

section
namespace Go.TL
open Go.RowKit Go.Shelf
def FQ (ds : List Deferred) (Q : Exit → Array Value → World → Prop) : Exit → Act → World → Prop := fun e a W => a.defers = ds ∧ Q e a.tmps W
def Fx (P : Program) (c : Code) (t : Array Value) (w : World) (Q : Exit → Array Value → World → Prop) : Prop :=
  ∀ ds, c.wpIn Fence.wide 0 P (FQ ds Q) { tmps := t, defers := ds } w
section
variable {P : Program} {Q : Exit → Array Value → World → Prop} {t : Array Value} {w : World}
theorem Fx.mono {c : Code} {Q' : Exit → Array Value → World → Prop} (h : Fx P c t w Q) (hq : ∀ e t W, Q e t W → Q' e t W) : Fx P c t w Q' :=
  fun ds => wpIn_mono (h ds) fun e _ W ⟨k, q⟩ => ⟨k, hq e _ W q⟩
theorem fq_mk {ds : List Deferred} {e : Exit} {W : World} (h : Q e t W) : FQ ds Q e { tmps := t, defers := ds } W := ⟨rfl, h⟩
theorem fx_region {c : Code} (h : ∀ ds, c.wpIn Fence.wide 0 P (FQ ds Q) { tmps := t, defers := ds } w) : Fx P c t w Q := h
theorem fx_seq {x y : Code} (h : Fx P x t w (andThen (fun t' W => Fx P y t' W Q) Q)) : Fx P (.seq x y) t w Q := by
  intro ds
  refine wpIn_seq (wpIn_mono (h ds) ?_)
  rintro e a W ⟨hd, q⟩
  cases e with
  | normal =>
    show y.wpIn Fence.wide 0 P _ a W
    have h2 := (show Fx P y a.tmps W Q from q) ds
    rw [show a = { tmps := a.tmps, defers := ds } from by rw [← hd]]
    exact h2
  | exit id => exact ⟨hd, q⟩
  | goto l => exact ⟨hd, q⟩
  | ret => exact ⟨hd, q⟩
  | panic ch => exact ⟨hd, q⟩
  | outgrown => exact ⟨hd, q⟩
theorem fx_skip (h : Q .normal t w) : Fx P .skip t w Q := fun _ => wpIn_skip ⟨rfl, h⟩
theorem fx_label {l : Nat} (h : Q .normal t w) : Fx P (.label l) t w Q := fun _ => wpIn_label ⟨rfl, h⟩
theorem fx_exit {id : Nat} (h : Q (.exit id) t w) : Fx P (.exit id) t w Q := fun _ => wpIn_exit ⟨rfl, h⟩
theorem fx_ret (h : Q .ret t w) : Fx P .ret t w Q := fun _ => wpIn_ret ⟨rfl, h⟩
theorem fx_cond {c : Operand} {x y : Code} {b : Bool} (hb : ev t c = .bool b) (h1 : b = true → Fx P x t w Q) (h2 : b = false → Fx P y t w Q) : Fx P (.cond c x y) t w Q := fun ds =>
  wpIn_cond_split (t := b) (by rw [ev_eq]; exact hb) (fun e => h1 e ds) (fun e => h2 e ds)
theorem fx_block {id : Nat} {c : Code} (h : Fx P c t w (inBlk id Q)) : Fx P (.block id c) t w Q := by
  intro ds
  refine wpIn_block (wpIn_mono (h ds) ?_)
  rintro e _ W ⟨k, q⟩
  cases e with
  | exit id' =>
    simp only [inBlk] at q
    simp only [Exit.inBlock]
    split
    · rename_i h; rw [if_pos h] at q; exact ⟨k, q⟩
    · rename_i h; rw [if_neg h] at q; exact ⟨k, q⟩
  | normal => exact ⟨k, q⟩
  | goto l => exact ⟨k, q⟩
  | ret => exact ⟨k, q⟩
  | panic ch => exact ⟨k, q⟩
  | outgrown => exact ⟨k, q⟩
theorem fx_loop {c : Code} (I : Nat → Array Value → World → Prop) (n : Nat) (h0 : I n t w)
    (round : ∀ n t W, I n t W → Fx P c t W (andThen (fun t' W' => ∃ m, m < n ∧ I m t' W') Q)) : Fx P (.loop c) t w Q := by
  intro ds
  let J : Act → World → Prop := fun a W => a.defers = ds ∧ ∃ n, I n a.tmps W
  classical
  let μ : Act → World → Nat := fun a W => if h : ∃ n, I n a.tmps W then Classical.choose (least h) else 0
  refine wpIn_loop J μ ⟨rfl, n, h0⟩ ?_
  rintro a W ⟨hd, hn⟩
  have hI := (Classical.choose_spec (least hn)).1
  have h2 := round _ _ _ hI ds
  rw [show a = { tmps := a.tmps, defers := ds } from by rw [← hd]]
  refine wpIn_mono h2 ?_
  rintro e b V ⟨hd2, q2⟩
  cases e with
  | normal =>
    obtain ⟨m, hlt, hm'⟩ := q2
    refine ⟨⟨hd2, m, hm'⟩, ?_⟩
    have e1 : μ b V ≤ m := by
      show (if h : ∃ n, I n b.tmps V then Classical.choose (least h) else 0) ≤ m
      rw [dif_pos ⟨m, hm'⟩]
      exact (Classical.choose_spec (least ⟨m, hm'⟩)).2 m hm'
    have e2 : μ { tmps := a.tmps, defers := ds } W = Classical.choose (least hn) := by
      show (if h : ∃ n, I n a.tmps W then Classical.choose (least h) else 0) = _
      rw [dif_pos hn]
    omega
  | exit id => exact ⟨hd2, q2⟩
  | goto l => exact ⟨hd2, q2⟩
  | ret => exact ⟨hd2, q2⟩
  | panic ch => exact ⟨hd2, q2⟩
  | outgrown => exact ⟨hd2, q2⟩
theorem fx_cut {x y : Code} (M : Array Value → World → Prop) (h1 : Fx P x t w (andThen M Q)) (h2 : ∀ t' W, M t' W → Fx P y t' W Q) : Fx P (.seq x y) t w Q :=
  fx_seq (h1.mono fun e t' W h => by cases e <;> first | exact h2 t' W h | exact h)
theorem fx_scope {c : Code} (h : Fx P c t w (noJump Q)) : Fx P (.scope c) t w Q := by
  intro ds b k cs hro hb hr
  have s1 : step P (lone (b.atR { tmps := t, defers := ds } (.code (.scope c) :: k)) cs w) = .next (lone (b.atR { tmps := t, defers := ds } (.code c :: .inScope c :: k)) cs w) := step_lone_go (by simp [stepG, stepG.exec, Frame.atR])
  have h0 : (lone (b.atR { tmps := t, defers := ds } (.code (.scope c) :: k)) cs w).fenced P Fence.wide := fenced_calm hb hr rfl
  obtain ⟨e, a₁, w₁, ⟨hd, hq⟩, harr⟩ := h ds b (.inScope c :: k) cs hro hb hr
  have s2 : ∀ a w, step P (lone (b.atR a (.inScope c :: k)) cs w) = .next (lone (b.atR a k) cs w) := fun a w => step_lone_go (by simp [stepG, stepG.exec, Frame.atR])
  have hx : ∀ id, exitTo id (.inScope c :: k) = exitTo id k := fun id => by simp [exitTo]
  cases e with
  | normal => exact ⟨.normal, a₁, w₁, ⟨hd, hq⟩, .head h0 s1 (StepsIn.trans harr (.one (fenced_calm hb hr rfl) (s2 _ _)))⟩
  | exit id => exact ⟨.exit id, a₁, w₁, ⟨hd, hq⟩, fun k' hk' => .head h0 s1 (harr.1 k' (by rw [hx]; exact hk')), fun hr' hk' => let ⟨k₁, h1, h2⟩ := harr.2 hr' (by rw [hx]; exact hk'); ⟨k₁, h1, .head h0 s1 h2⟩⟩
  | goto l => exact hq.elim
  | ret => exact ⟨_, a₁, w₁, ⟨hd, hq⟩, .of_steps (.one h0 s1) harr⟩
  | panic ch => exact ⟨_, a₁, w₁, ⟨hd, hq⟩, .of_steps (.one h0 s1) harr⟩
  | outgrown => exact ⟨_, a₁, w₁, ⟨hd, hq⟩, .of_steps (.one h0 s1) harr⟩
theorem callsIn_of_fx {f : FuncId} {fn : Func} {c : Code} {args : Array Value} {R : Ending → World → Prop} (hf : P.funcs[f]? = some fn) (hb : fn.body = some c)
    (h : Fx P c (args ++ Array.replicate (fn.ntmps - args.size) undef) w fun e t W => (e = .normal ∨ e = .ret) ∧ ∃ v, (results fn t).run P W = .ok v W ∧ R (.returned v) W) : CallsIn Fence.wide 0 P f args w R := by
  refine callsIn_of_wp hf hb trivial ?_ rfl
  refine wpIn_mono (h []) ?_
  rintro e a W ⟨hd, he, v, hr, hR⟩
  rcases he with rfl | rfl
  · exact bodyPost_end hr hd hR
  · exact bodyPost_ret hr hd hR
end
end Go.TL
end

section
namespace Go.Proofs.Ytbdmmikflkpmpaa
open Go.RowKit Go.TL Go.Shelf Go.Pn
attribute [local go_sem] Oper.semAt_some
def ofSize (n z : Nat) : List Nat := (List.range (2 ^ n)).filter fun s => pop s == z
def bySize (n : Nat) : List Nat := ((List.range (n + 1)).map (ofSize n)).flatten
def preS (n z s : Nat) : List Nat := ((List.range z).map (ofSize n)).flatten ++ (List.range s).filter fun s => pop s == z
theorem preS_next (n z s : Nat) : preS n z (s + 1) = if pop s = z then preS n z s ++ [s] else preS n z s := by
  unfold preS
  rw [List.range_succ, List.filter_append, ← List.append_assoc]
  by_cases h : pop s = z
  · simp [h]
  · simp [h]
theorem preS_turn (n z : Nat) : preS n z (2 ^ n) = preS n (z + 1) 0 := by
  unfold preS
  rw [List.range_succ, List.map_append, List.flatten_append]
  simp [ofSize]
theorem preS_end (n : Nat) : preS n (n + 1) 0 = bySize n := by
  unfold preS bySize
  simp
theorem preS_at (n z s : Nat) (hz : z ≤ n) (hs : s < 2 ^ n) (hp : pop s = z) : ∃ r, bySize n = preS n z s ++ s :: r := by
  have h1 : List.range (n + 1) = List.range z ++ (z :: (List.range (n + 1)).drop (z + 1)) := by
    rw [← range_drop (by omega), show List.range z = (List.range (n + 1)).take z by rw [List.take_range, Nat.min_eq_left (by omega)], List.take_append_drop]
  have h2 : List.range (2 ^ n) = List.range s ++ (s :: (List.range (2 ^ n)).drop (s + 1)) := by
    rw [← range_drop hs, show List.range s = (List.range (2 ^ n)).take s by rw [List.take_range, Nat.min_eq_left (by omega)], List.take_append_drop]
  have h3 : ofSize n z = (List.range s).filter (fun s => pop s == z) ++ s :: ((List.range (2 ^ n)).drop (s + 1)).filter (fun s => pop s == z) := by
    have h := congrArg (List.filter fun s => pop s == z) h2
    rw [List.filter_append, List.filter_cons, if_pos (by simpa using hp)] at h
    exact h
  have h4 : bySize n = ((List.range z ++ (z :: (List.range (n + 1)).drop (z + 1))).map (ofSize n)).flatten := congrArg (fun l => (l.map (ofSize n)).flatten) h1
  rw [List.map_append, List.flatten_append, List.map_cons, List.flatten_cons, h3] at h4
  rw [h4]
  unfold preS
  exact ⟨((List.range (2 ^ n)).drop (s + 1)).filter (fun s => pop s == z) ++ (((List.range (n + 1)).drop (z + 1)).map (ofSize n)).flatten, by simp only [List.append_assoc, List.cons_append]⟩
theorem preS_get (n z s : Nat) (hz : z ≤ n) (hs : s < 2 ^ n) (hp : pop s = z) : ∃ h : (preS n z s).length < (bySize n).length, (bySize n)[(preS n z s).length]'h = s := by
  obtain ⟨r, hr⟩ := preS_at n z s hz hs hp
  refine ⟨by rw [hr]; simp, ?_⟩
  simp [hr]
def SmI112 (B n l : Nat) (J : Nat → World → Prop) (m : Nat) (t : Array Value) (W : World) : Prop :=
  ∃ z : Nat, z ≤ n + 1 ∧ m = n + 1 - z ∧ Boxed W B 3 (iv n) ∧ J (preS n z 0).length W ∧ Slots (some (.func (.yield l) #[] #[]) :: some (.pointer (some ⟨B, 0, none⟩)) :: o4 (some (iv (n + 1)) :: some (iv z) :: none :: o16 [])) t
def SmM112 (B n l z : Nat) (J : Nat → World → Prop) (t : Array Value) (W : World) : Prop :=
  Boxed W B 3 (iv n) ∧ J (preS n (z + 1) 0).length W ∧ Slots (some (.func (.yield l) #[] #[]) :: some (.pointer (some ⟨B, 0, none⟩)) :: o4 (some (iv (n + 1)) :: some (iv z) :: none :: o16 [])) t
def SnI112 (B n l z N : Nat) (J : Nat → World → Prop) (m : Nat) (t : Array Value) (W : World) : Prop :=
  ∃ s : Nat, s ≤ N ∧ m = N - s ∧ Boxed W B 3 (iv n) ∧ J (preS n z s).length W ∧ Slots (some (.func (.yield l) #[] #[]) :: some (.pointer (some ⟨B, 0, none⟩)) :: none :: some (iv z) :: none :: none :: some (iv (n + 1)) :: some (iv z) :: none :: none :: none :: some (u64 N) :: some (u64 s) :: o4 (o4 (o4 []))) t
def SnM112 (B n l z s N : Nat) (J : Nat → World → Prop) (t : Array Value) (W : World) : Prop :=
  Boxed W B 3 (iv n) ∧ J (preS n z (s + 1)).length W ∧ Slots (some (.func (.yield l) #[] #[]) :: some (.pointer (some ⟨B, 0, none⟩)) :: none :: some (iv z) :: none :: none :: some (iv (n + 1)) :: some (iv z) :: none :: none :: none :: some (u64 N) :: some (u64 s) :: o4 (o4 (o4 []))) t
set_option maxRecDepth 100000 in
set_option maxHeartbeats 1000000 in
theorem smaller112 (B n : Nat) (hn : n ≤ 10) (w : World) (hb : Boxed w B 3 (iv n)) : Iter Try.prog 112 #[.pointer (some ⟨B, 0, none⟩)] (fun s : Nat => #[u64 s]) (bySize n) (fun k => k = B) w := by
  intro l J Jx W hW hJ hJx hY h0
  have hbW : Boxed W B 3 (iv n) := (hW B rfl).trans hb
  clear hb hW
  clear w
  have hp2 : 2 ^ n ≤ 1024 := Nat.pow_le_pow_right (by omega) hn
  have hsh := shl_u n (by omega)
  obtain ⟨N, hN⟩ : ∃ N, 2 ^ n = N := ⟨_, rfl⟩
  rw [hN] at hp2 hsh
  have HN := Lib.hid hN
  clear hN
  refine callsIn_of_fx Try.func112 rfl ?_
  simp only [Try.ntmps112, List.size_toArray, List.length_cons, List.length_nil, Nat.reduceAdd, Nat.reduceSub, Array.replicate_succ, Array.replicate_zero, List.push_toArray, List.append_toArray, List.nil_append, List.cons_append]
  have c0 := hbW.cell
  have hw1 : IntKind.i64.wrap ((n : Int) + 1) = ((n + 1 : Nat) : Int) := by rw [IntWalk.i64_in _ (by omega)]; norm_cast
  refine fx_seq (fx_region fun ds => ?_)
  gi_wp2
  refine fq_mk ?_
  show Fx _ _ _ _ _
  refine fx_block ?_
  refine fx_loop (SmI112 B n l J) (n + 1) ⟨0, by omega, by omega, hbW, h0, by simp [Slots, Fits]⟩ ?_
  clear c0 hbW h0
  clear W
  rintro m t W ⟨z, hz, hm, hbx, hj, hSl⟩
  obtain ⟨x, hx⟩ := Slots.open_ hSl; simp only [fill, Nat.reduceAdd] at hx; subst hx; clear hSl
  refine fx_seq (fx_region fun ds => ?_)
  gi_wp2
  refine fq_mk ?_
  show Fx _ _ _ _ _
  refine fx_seq (fx_cond (b := decide (z < n + 1)) (by first | rfl | (show Value.bool _ = _; congr 1; exact decide_eq_decide.2 (by omega))) (fun hp => fx_skip ?_) (fun hp => fx_exit ?_))
  · have hzn : z < n + 1 := by have := of_decide_eq_true hp; omega
    show Fx _ _ _ _ _
    refine fx_cut (SmM112 B n l z J) ?_ ?_
    · refine fx_block (fx_seq (fx_region fun ds => ?_))
      gi_wp2
      refine fq_mk ?_
      show Fx _ _ _ _ _
      refine fx_scope (fx_seq (fx_label ?_))
      show Fx _ _ _ _ _
      have c0 := hbx.cell
      refine fx_seq (fx_region fun ds => ?_)
      gi_wp2
      refine fq_mk ?_
      show Fx _ _ _ _ _
      refine fx_block ?_
      refine fx_loop (SnI112 B n l z N J) N ⟨0, by omega, by omega, hbx, hj, by simp [Slots, Fits]⟩ ?_
      clear c0 hbx hj x
      clear W
      rintro m t W ⟨s, hs, hm, hbx, hj, hSl⟩
      obtain ⟨x, hx⟩ := Slots.open_ hSl; simp only [fill, Nat.reduceAdd] at hx; subst hx; clear hSl
      refine fx_seq (fx_region fun ds => ?_)
      gi_wp2
      refine fq_mk ?_
      show Fx _ _ _ _ _
      refine fx_seq (fx_cond (b := decide (s < N)) (by first | rfl | (show Value.bool _ = _; congr 1; exact decide_eq_decide.2 (by omega))) (fun hp => fx_skip ?_) (fun hp => fx_exit ?_))
      · have hsn : s < N := by have := of_decide_eq_true hp; omega
        show Fx _ _ _ _ _
        have hnx := preS_next n z s
        refine fx_cut (SnM112 B n l z s N J) ?_ ?_
        · refine fx_block (fx_seq (fx_region fun ds => ?_))
          gi_wp2
          refine fq_mk ?_
          show Fx _ _ _ _ _
          have hs1024 : s < 1024 := by omega
          by_cases hpz : pop s = z
          · rw [if_pos hpz] at hnx
            refine fx_seq (fx_seq (fx_region fun ds => ?_))
            obtain ⟨hlt, hget⟩ := preS_get n z s (by omega) (by rw [HN.out]; exact hsn) hpz
            have HX := Lib.hid hnx
            clear hnx
            gi_wp2_with fail
            refine ⟨trivial, rfl, (callsIn_wide.2 (size113 s hs1024 W)).mono ?_⟩
            rintro e W1 ⟨rfl, hw1⟩
            rw [hpz]
            gi_wp2
            refine fq_mk ?_
            show Fx _ _ _ _ _
            refine fx_cond (b := false) rfl (fun h => by cases h) (fun _ => fx_skip ?_)
            show Fx _ _ _ _ _
            have hb1 : Boxed W1 B 3 (iv n) := (hw1.block _ hbx.lt).trans hbx
            obtain ⟨fn, tmps, assign, body, hy, hR⟩ := hY _ hlt W1 (hJ _ _ _ hj hw1)
            rw [hget] at hy
            refine fx_seq (fx_region fun ds => ?_)
            gi_wp2
            refine ⟨rfl, ?_⟩
            refine hR.mono ?_
            rintro e W3 (⟨rfl, hJ3, hk3⟩ | ⟨rfl, hJx3⟩)
            · gi_wp2
              refine fq_mk ?_
              show Fx _ _ _ _ _
              refine fx_cond (b := false) rfl (fun h => by cases h) (fun _ => fx_skip ?_)
              refine ⟨(hk3 B rfl).trans hb1, by rw [HX.out, List.length_append]; exact hJ3, (by simp only [Slots, Fits, and_self])⟩
            · gi_wp2
              refine fq_mk ?_
              show Fx _ _ _ _ _
              refine fx_cond (b := true) rfl (fun _ => fx_ret ?_) (fun h => by cases h)
              exact ⟨.inr rfl, ⟨_, results_none rfl _ _ _⟩, .inr hJx3⟩
          · rw [if_neg hpz] at hnx
            refine fx_seq (fx_seq (fx_region fun ds => ?_))
            have HX := Lib.hid hnx
            clear hnx
            have hpz' : ¬ ((pop s : Int) = (z : Int)) := by omega
            gi_wp2_with fail
            refine ⟨trivial, rfl, (callsIn_wide.2 (size113 s hs1024 W)).mono ?_⟩
            rintro e W1 ⟨rfl, hw1⟩
            gi_wp2
            refine fq_mk ?_
            show Fx _ _ _ _ _
            refine fx_cond (b := true) (congrArg Value.bool (bne_iff_ne.2 hpz')) (fun _ => fx_exit ?_) (fun h => by cases h)
            refine ⟨(hw1.block _ hbx.lt).trans hbx, by rw [HX.out]; exact hJ _ _ _ hj hw1, (by simp only [Slots, Fits, and_self])⟩
        · clear hbx hj hnx x
          rintro t' W' ⟨hbx, hj, hSl⟩
          obtain ⟨x, hx⟩ := Slots.open_ hSl; simp only [fill, Nat.reduceAdd] at hx; subst hx; clear hSl
          have hw : IntKind.u64.wrap ((s : Int) + 1) = ((s + 1 : Nat) : Int) := by rw [wrapu _ (by omega) (by omega)]; norm_cast
          refine fx_region fun ds => ?_
          gi_wp2
          exact fq_mk ⟨m - 1, by omega, s + 1, by omega, by omega, hbx, hj, by simp only [Slots, Fits, and_self]; simp⟩
      · have hsn : s = N := by have := of_decide_eq_false hp; omega
        rw [hsn, ← HN.out, preS_turn] at hj
        exact ⟨hbx, hj, (by simp only [Slots, Fits, and_self])⟩
    · clear hbx hj x
      rintro t' W' ⟨hbx, hj, hSl⟩
      obtain ⟨x, hx⟩ := Slots.open_ hSl; simp only [fill, Nat.reduceAdd] at hx; subst hx; clear hSl
      have hw : IntKind.i64.wrap ((z : Int) + 1) = ((z + 1 : Nat) : Int) := by rw [IntWalk.i64_in _ (by omega)]; norm_cast
      refine fx_region fun ds => ?_
      gi_wp2
      exact fq_mk ⟨m - 1, by omega, z + 1, by omega, by omega, hbx, hj, by simp only [Slots, Fits, and_self]; simp⟩
  · have hzn : z = n + 1 := by have := of_decide_eq_false hp; omega
    subst hzn
    rw [preS_end] at hj
    exact ⟨.inl rfl, ⟨_, results_none rfl _ _ _⟩, .inl hj⟩
def SmI127 (B n l : Nat) (J : Nat → World → Prop) (m : Nat) (t : Array Value) (W : World) : Prop :=
  ∃ z : Nat, z ≤ n + 1 ∧ m = n + 1 - z ∧ Boxed W B 3 (iv n) ∧ J (preS n z 0).length W ∧ Slots (some (.func (.yield l) #[] #[]) :: some (.pointer (some ⟨B, 0, none⟩)) :: o4 (some (iv (n + 1)) :: some (iv z) :: none :: o16 [])) t
def SmM127 (B n l z : Nat) (J : Nat → World → Prop) (t : Array Value) (W : World) : Prop :=
  Boxed W B 3 (iv n) ∧ J (preS n (z + 1) 0).length W ∧ Slots (some (.func (.yield l) #[] #[]) :: some (.pointer (some ⟨B, 0, none⟩)) :: o4 (some (iv (n + 1)) :: some (iv z) :: none :: o16 [])) t
def SnI127 (B n l z N : Nat) (J : Nat → World → Prop) (m : Nat) (t : Array Value) (W : World) : Prop :=
  ∃ s : Nat, s ≤ N ∧ m = N - s ∧ Boxed W B 3 (iv n) ∧ J (preS n z s).length W ∧ Slots (some (.func (.yield l) #[] #[]) :: some (.pointer (some ⟨B, 0, none⟩)) :: none :: some (iv z) :: none :: none :: some (iv (n + 1)) :: some (iv z) :: none :: none :: none :: some (u64 N) :: some (u64 s) :: o4 (o4 (o4 []))) t
def SnM127 (B n l z s N : Nat) (J : Nat → World → Prop) (t : Array Value) (W : World) : Prop :=
  Boxed W B 3 (iv n) ∧ J (preS n z (s + 1)).length W ∧ Slots (some (.func (.yield l) #[] #[]) :: some (.pointer (some ⟨B, 0, none⟩)) :: none :: some (iv z) :: none :: none :: some (iv (n + 1)) :: some (iv z) :: none :: none :: none :: some (u64 N) :: some (u64 s) :: o4 (o4 (o4 []))) t
set_option maxRecDepth 100000 in
set_option maxHeartbeats 1000000 in
theorem smaller127 (B n : Nat) (hn : n ≤ 10) (w : World) (hb : Boxed w B 3 (iv n)) : Iter Try.prog 127 #[.pointer (some ⟨B, 0, none⟩)] (fun s : Nat => #[u64 s]) (bySize n) (fun k => k = B) w := by
  intro l J Jx W hW hJ hJx hY h0
  have hbW : Boxed W B 3 (iv n) := (hW B rfl).trans hb
  clear hb hW
  clear w
  have hp2 : 2 ^ n ≤ 1024 := Nat.pow_le_pow_right (by omega) hn
  have hsh := shl_u n (by omega)
  obtain ⟨N, hN⟩ : ∃ N, 2 ^ n = N := ⟨_, rfl⟩
  rw [hN] at hp2 hsh
  have HN := Lib.hid hN
  clear hN
  refine callsIn_of_fx Try.func127 rfl ?_
  simp only [Try.ntmps127, List.size_toArray, List.length_cons, List.length_nil, Nat.reduceAdd, Nat.reduceSub, Array.replicate_succ, Array.replicate_zero, List.push_toArray, List.append_toArray, List.nil_append, List.cons_append]
  have c0 := hbW.cell
  have hw1 : IntKind.i64.wrap ((n : Int) + 1) = ((n + 1 : Nat) : Int) := by rw [IntWalk.i64_in _ (by omega)]; norm_cast
  refine fx_seq (fx_region fun ds => ?_)
  gi_wp2
  refine fq_mk ?_
  show Fx _ _ _ _ _
  refine fx_block ?_
  refine fx_loop (SmI127 B n l J) (n + 1) ⟨0, by omega, by omega, hbW, h0, by simp [Slots, Fits]⟩ ?_
  clear c0 hbW h0
  clear W
  rintro m t W ⟨z, hz, hm, hbx, hj, hSl⟩
  obtain ⟨x, hx⟩ := Slots.open_ hSl; simp only [fill, Nat.reduceAdd] at hx; subst hx; clear hSl
  refine fx_seq (fx_region fun ds => ?_)
  gi_wp2
  refine fq_mk ?_
  show Fx _ _ _ _ _
  refine fx_seq (fx_cond (b := decide (z < n + 1)) (by first | rfl | (show Value.bool _ = _; congr 1; exact decide_eq_decide.2 (by omega))) (fun hp => fx_skip ?_) (fun hp => fx_exit ?_))
  · have hzn : z < n + 1 := by have := of_decide_eq_true hp; omega
    show Fx _ _ _ _ _
    refine fx_cut (SmM127 B n l z J) ?_ ?_
    · refine fx_block (fx_seq (fx_region fun ds => ?_))
      gi_wp2
      refine fq_mk ?_
      show Fx _ _ _ _ _
      refine fx_scope (fx_seq (fx_label ?_))
      show Fx _ _ _ _ _
      have c0 := hbx.cell
      refine fx_seq (fx_region fun ds => ?_)
      gi_wp2
      refine fq_mk ?_
      show Fx _ _ _ _ _
      refine fx_block ?_
      refine fx_loop (SnI127 B n l z N J) N ⟨0, by omega, by omega, hbx, hj, by simp [Slots, Fits]⟩ ?_
      clear c0 hbx hj x
      clear W
      rintro m t W ⟨s, hs, hm, hbx, hj, hSl⟩
      obtain ⟨x, hx⟩ := Slots.open_ hSl; simp only [fill, Nat.reduceAdd] at hx; subst hx; clear hSl
      refine fx_seq (fx_region fun ds => ?_)
      gi_wp2
      refine fq_mk ?_
      show Fx _ _ _ _ _
      refine fx_seq (fx_cond (b := decide (s < N)) (by first | rfl | (show Value.bool _ = _; congr 1; exact decide_eq_decide.2 (by omega))) (fun hp => fx_skip ?_) (fun hp => fx_exit ?_))
      · have hsn : s < N := by have := of_decide_eq_true hp; omega
        show Fx _ _ _ _ _
        have hnx := preS_next n z s
        refine fx_cut (SnM127 B n l z s N J) ?_ ?_
        · refine fx_block (fx_seq (fx_region fun ds => ?_))
          gi_wp2
          refine fq_mk ?_
          show Fx _ _ _ _ _
          have hs1024 : s < 1024 := by omega
          by_cases hpz : pop s = z
          · rw [if_pos hpz] at hnx
            refine fx_seq (fx_seq (fx_region fun ds => ?_))
            obtain ⟨hlt, hget⟩ := preS_get n z s (by omega) (by rw [HN.out]; exact hsn) hpz
            have HX := Lib.hid hnx
            clear hnx
            gi_wp2_with fail
            refine ⟨trivial, rfl, (callsIn_wide.2 (size128 s hs1024 W)).mono ?_⟩
            rintro e W1 ⟨rfl, hw1⟩
            rw [hpz]
            gi_wp2
            refine fq_mk ?_
            show Fx _ _ _ _ _
            refine fx_cond (b := false) rfl (fun h => by cases h) (fun _ => fx_skip ?_)
            show Fx _ _ _ _ _
            have hb1 : Boxed W1 B 3 (iv n) := (hw1.block _ hbx.lt).trans hbx
            obtain ⟨fn, tmps, assign, body, hy, hR⟩ := hY _ hlt W1 (hJ _ _ _ hj hw1)
            rw [hget] at hy
            refine fx_seq (fx_region fun ds => ?_)
            gi_wp2
            refine ⟨rfl, ?_⟩
            refine hR.mono ?_
            rintro e W3 (⟨rfl, hJ3, hk3⟩ | ⟨rfl, hJx3⟩)
            · gi_wp2
              refine fq_mk ?_
              show Fx _ _ _ _ _
              refine fx_cond (b := false) rfl (fun h => by cases h) (fun _ => fx_skip ?_)
              refine ⟨(hk3 B rfl).trans hb1, by rw [HX.out, List.length_append]; exact hJ3, (by simp only [Slots, Fits, and_self])⟩
            · gi_wp2
              refine fq_mk ?_
              show Fx _ _ _ _ _
              refine fx_cond (b := true) rfl (fun _ => fx_ret ?_) (fun h => by cases h)
              exact ⟨.inr rfl, ⟨_, results_none rfl _ _ _⟩, .inr hJx3⟩
          · rw [if_neg hpz] at hnx
            refine fx_seq (fx_seq (fx_region fun ds => ?_))
            have HX := Lib.hid hnx
            clear hnx
            have hpz' : ¬ ((pop s : Int) = (z : Int)) := by omega
            gi_wp2_with fail
            refine ⟨trivial, rfl, (callsIn_wide.2 (size128 s hs1024 W)).mono ?_⟩
            rintro e W1 ⟨rfl, hw1⟩
            gi_wp2
            refine fq_mk ?_
            show Fx _ _ _ _ _
            refine fx_cond (b := true) (congrArg Value.bool (bne_iff_ne.2 hpz')) (fun _ => fx_exit ?_) (fun h => by cases h)
            refine ⟨(hw1.block _ hbx.lt).trans hbx, by rw [HX.out]; exact hJ _ _ _ hj hw1, (by simp only [Slots, Fits, and_self])⟩
        · clear hbx hj hnx x
          rintro t' W' ⟨hbx, hj, hSl⟩
          obtain ⟨x, hx⟩ := Slots.open_ hSl; simp only [fill, Nat.reduceAdd] at hx; subst hx; clear hSl
          have hw : IntKind.u64.wrap ((s : Int) + 1) = ((s + 1 : Nat) : Int) := by rw [wrapu _ (by omega) (by omega)]; norm_cast
          refine fx_region fun ds => ?_
          gi_wp2
          exact fq_mk ⟨m - 1, by omega, s + 1, by omega, by omega, hbx, hj, by simp only [Slots, Fits, and_self]; simp⟩
      · have hsn : s = N := by have := of_decide_eq_false hp; omega
        rw [hsn, ← HN.out, preS_turn] at hj
        exact ⟨hbx, hj, (by simp only [Slots, Fits, and_self])⟩
    · clear hbx hj x
      rintro t' W' ⟨hbx, hj, hSl⟩
      obtain ⟨x, hx⟩ := Slots.open_ hSl; simp only [fill, Nat.reduceAdd] at hx; subst hx; clear hSl
      have hw : IntKind.i64.wrap ((z : Int) + 1) = ((z + 1 : Nat) : Int) := by rw [IntWalk.i64_in _ (by omega)]; norm_cast
      refine fx_region fun ds => ?_
      gi_wp2
      exact fq_mk ⟨m - 1, by omega, z + 1, by omega, by omega, hbx, hj, by simp only [Slots, Fits, and_self]; simp⟩
  · have hzn : z = n + 1 := by have := of_decide_eq_false hp; omega
    subst hzn
    rw [preS_end] at hj
    exact ⟨.inl rfl, ⟨_, results_none rfl _ _ _⟩, .inl hj⟩
end Go.Proofs.Ytbdmmikflkpmpaa
end

section
namespace Go.Proofs.Ytbdmmikflkpmpaa
open Go.RowKit Go.TL Go.Shelf Go.Pn
attribute [local go_sem] Oper.semAt_some
attribute [local go_sem] run_store_func
theorem onlyN_mem {s : Nat} {N : List Nat} {n : Nat} (h : n ∈ onlyN s N) : n = 0 ∨ n ∈ N := by
  obtain ⟨q, hq⟩ := List.mem_iff_getElem?.1 h
  have e := onlyN_get s N q
  rw [List.getD_eq_getElem?_getD, hq] at e
  simp only [Option.getD_some] at e
  have hl : q < N.length := by
    have := (List.getElem?_eq_some_iff.1 hq).1
    unfold onlyN at this
    rwa [onlyTo_len] at this
  split at e
  · right
    rw [e]
    exact mem_getD hl
  · exact .inl e
theorem onlyN_len (s : Nat) (N : List Nat) : (onlyN s N).length = N.length := onlyTo_len s N _
def S3.only (s : Nat) (x : S3) : S3 := (x.1, onlyN s x.2.1, x.2.2)
theorem S3.Good.only {x : S3} (h : x.Good) (s : Nat) : (x.only s).Good := by
  refine ⟨h.j, ?_, h.k, h.lb, ?_, h.k1, ?_⟩
  · show (onlyN s x.2.1).length ≤ 6
    rw [onlyN_len]
    exact h.p
  · intro n hn
    rcases onlyN_mem hn with rfl | h1
    · omega
    · exact h.nb n h1
  · intro k hk
    show k.2 < (onlyN s x.2.1).length
    rw [onlyN_len]
    exact h.k2 k hk
theorem open_one (a : XP) (hf : a.Fine) (w : World) (ha : a.At w) {g : Nat} {lb : Array Value} {T : S3 → S3} {R : S3 → Prop} (hc : Chg w g lb T R) (hR : R a.s3) (hG : (T a.s3).Good) (A : Addr) (hA : w.cell? A = some (.func (.func g) #[] lb)) :
    Calls Try.prog 56 #[a.val, .slice (some A) 1 1] w fun e w' => ∃ pp m, e = .returned (.pointer (some ⟨pp, 0, none⟩)) ∧ w.heap.size ≤ pp ∧ Below w.heap.size w w' ∧ PnlAt w' pp (toP (T a.s3)) m := by
  have h1 : a.np.L.length = a.L.length := by simp [XP.np, XP.s3]
  have h2 : a.np.N.length = a.N.length := by simp [XP.np, XP.s3]
  have h3 : a.np.K.length = a.K.length := by simp [XP.np, XP.s3]
  have := ha.l4
  have := ha.n4
  have := ha.k4
  have h := open56 (cs := [(g, lb, T, R)]) (Al := some A) (cl := 1) (XP.np_at ha hf) (by omega) (by omega) (by omega) (by intro c hc'; rw [List.mem_singleton.1 hc']; exact hc) (by simp) (by
    intro i c hi
    match i, hi with
    | 0, hi =>
      cases hi
      exact hR) (by
    intro i c hi
    match i, hi with
    | 0, hi =>
      cases hi
      exact ⟨A, rfl, hA⟩) hG
  rw [XP.np_val] at h
  exact h
theorem smaller74 (n : Nat) (w : World) : Calls Try.prog 74 #[iv n] w fun e w' => e = .returned (.func (.func 112) #[] #[.pointer (some ⟨w.heap.size, 0, none⟩)]) ∧ w' = w.alloc (.cells #[iv n] 3) := by
  have hmf : ∀ fn first cap w, (Instr.makeFunc fn first cap).run Try.prog w = .ok (.func fn first cap) w := fun _ _ _ _ => rfl
  go_enter Try.func74, Try.ntmps74
  go_wp2
  go_ret
  exact ⟨rfl, rfl⟩
theorem smaller93 (n : Nat) (w : World) : Calls Try.prog 93 #[iv n] w fun e w' => e = .returned (.func (.func 127) #[] #[.pointer (some ⟨w.heap.size, 0, none⟩)]) ∧ w' = w.alloc (.cells #[iv n] 3) := by
  have hmf : ∀ fn first cap w, (Instr.makeFunc fn first cap).run Try.prog w = .ok (.func fn first cap) w := fun _ _ _ _ => rfl
  go_enter Try.func93, Try.ntmps93
  go_wp2
  go_ret
  exact ⟨rfl, rfl⟩
end Go.Proofs.Ytbdmmikflkpmpaa
end

section
namespace Go.Proofs.Ytbdmmikflkpmpaa
open Go.RowKit Go.TL Go.Shelf Go.Pn
attribute [local go_sem] Oper.semAt_some
attribute [local go_sem] run_store_func
set_option maxRecDepth 100000 in
set_option maxHeartbeats 400000 in
theorem loaded96 (j n : Nat) (w : World) : Calls Try.prog 96 #[iv j, iv n] w fun e w' => ∃ b, e = .returned (.agg #[.func (.func 129) #[] #[.pointer (some ⟨b + 1, 0, none⟩), .pointer (some ⟨b, 0, none⟩)]]) ∧ w.heap.size ≤ b ∧ Boxed w' b 72 (iv j) ∧ Boxed w' (b + 1) 3 (iv n) ∧ Below w.heap.size w w' := by
  have hmf : ∀ fn first cap w, (Instr.makeFunc fn first cap).run Try.prog w = .ok (.func fn first cap) w := fun _ _ _ _ => rfl
  have hu83 := Try.underlying83
  refine calls_of_exec Try.func96 rfl ?_
  simp only [Try.ntmps96, List.size_toArray, List.length_cons, List.length_nil, Nat.reduceAdd, Nat.reduceSub, Array.replicate_succ, Array.replicate_zero, List.push_toArray, List.append_toArray, List.nil_append, List.cons_append]
  refine exec_seq (exec_region_o fun ds => ?_)
  gi_wp2
  refine eq_mk ((((Keep.refl _).alloc _).alloc _).alloc _) ?_
  show Exec _ _ _ _ _ _
  have hB := (((Below.refl w.heap.size w).alloc (Nat.le_refl _) (.cells #[iv j] 72)).alloc (by simp) (.cells #[iv n] 3)).alloc (by simp; omega) (.cells #[.nilFunc] 83)
  have b1 : Boxed (((w.alloc (.cells #[iv j] 72)).alloc (.cells #[iv n] 3)).alloc (.cells #[.nilFunc] 83)) w.heap.size 72 (iv j) := by (simp only [Boxed, Box2, heap_alloc_at, heap_set_at, World.size_alloc, World.size_setCell]; repeat (first | rfl | rw [if_pos (by omega)] | rw [if_neg (by omega)]))
  have b2 : Boxed (((w.alloc (.cells #[iv j] 72)).alloc (.cells #[iv n] 3)).alloc (.cells #[.nilFunc] 83)) (w.heap.size + 1) 3 (iv n) := by (simp only [Boxed, Box2, heap_alloc_at, heap_set_at, World.size_alloc, World.size_setCell]; repeat (first | rfl | rw [if_pos (by omega)] | rw [if_neg (by omega)]))
  have b3 : Boxed (((w.alloc (.cells #[iv j] 72)).alloc (.cells #[iv n] 3)).alloc (.cells #[.nilFunc] 83)) (w.heap.size + 1 + 1) 83 .nilFunc := by (simp only [Boxed, Box2, heap_alloc_at, heap_set_at, World.size_alloc, World.size_setCell]; repeat (first | rfl | rw [if_pos (by omega)] | rw [if_neg (by omega)]))
  generalize ((w.alloc (.cells #[iv j] 72)).alloc (.cells #[iv n] 3)).alloc (.cells #[.nilFunc] 83) = X at *
  have e1 := b3.cell
  have e2 := b3.frozen
  refine exec_seq (exec_region_o fun ds => ?_)
  gi_wp2
  refine eq_mk ((Keep.refl _).setCell _ _) ?_
  show Exec _ _ _ _ _ _
  obtain ⟨v, hv⟩ : ∃ v, Value.func (.func 129) #[] #[.pointer (some ⟨w.heap.size + 1, 0, none⟩), .pointer (some ⟨w.heap.size, 0, none⟩)] = v := ⟨_, rfl⟩
  have g1 := boxed_far b1 (b := w.heap.size + 1 + 1) v (by omega)
  have g2 := boxed_far b2 (b := w.heap.size + 1 + 1) v (by omega)
  have g3 := boxed_set b3 v
  have hB2 : Below w.heap.size w (X.setCell ⟨w.heap.size + 1 + 1, 0, none⟩ v) := hB.setCell (by show w.heap.size ≤ w.heap.size + 1 + 1; omega) _
  subst hv
  exact exec_ret ⟨.inr rfl, fun W' hG => ⟨.agg #[.func (.func 129) #[] #[.pointer (some ⟨w.heap.size + 1, 0, none⟩), .pointer (some ⟨w.heap.size, 0, none⟩)]], by have := (hG.boxed g3).cell; simp [results, Try.f96, go_sem, this], w.heap.size, rfl, Nat.le_refl _, hG.boxed g1, hG.boxed g2, hB2.trans (hG.below (Nat.le_refl _) hB2.size)⟩⟩
end Go.Proofs.Ytbdmmikflkpmpaa
end

section
namespace Go.Proofs.Ytbdmmikflkpmpaa
open Go.RowKit Go.TL Go.Shelf Go.Pn
attribute [local go_sem] Oper.semAt_some
attribute [local go_sem] run_store_func
def S3.loaded (j n : Nat) (x : S3) : S3 := (x.1.set j n, x.2.1, x.2.2)
set_option maxRecDepth 100000 in
set_option maxHeartbeats 1000000 in
theorem loaded_chg {V : World} {j n b1 b2 : Nat} (h1 : Boxed V b1 72 (iv j)) (h2 : Boxed V b2 3 (iv n)) : Chg V 129 #[.pointer (some ⟨b2, 0, none⟩), .pointer (some ⟨b1, 0, none⟩)] (S3.loaded j n) (fun x => j < x.1.length) where
  eg := enters_of Try.func129 (by kernel_rfl) rfl
  len x h := ⟨by show (x.1.set j n).length ≤ 40; rw [List.length_set]; exact h.1, h.2.1, h.2.2⟩
  run W bp bL bN x AK cK hV hbp hbL hbN hok hj hO := by
    obtain ⟨L, N, K⟩ := x
    simp only at hj hO
    have hu25 := Try.underlying25
    have hu22 := Try.underlying22
    have hjI : (j : Int) < L.length := by omega
    have cx : ∀ {X : World}, OB X bp bL bN L N AK cK K → X.cell? ⟨bL, j, none⟩ = some (iv (L.getD j 0)) := fun h => cells_get (cs := L.map iv) h.bx.hl (by rw [List.getElem?_map, List.getElem?_eq_getElem hj, List.getD_eq_getElem?_getD, List.getElem?_eq_getElem hj]; rfl)
    refine calls_of_exec Try.func129 rfl ?_
    simp only [Try.ntmps129, List.size_toArray, List.length_cons, List.length_nil, Nat.reduceAdd, Nat.reduceSub, Array.replicate_succ, Array.replicate_zero, List.push_toArray, List.append_toArray, List.nil_append, List.cons_append]
    have hS0 : ∀ {X : World}, Below W.heap.size W X → X.cell? ⟨bp, 0, none⟩ = some (.slice (some ⟨bL, 0, none⟩) L.length L.length) ∧ X.cell? ⟨b1, 0, none⟩ = some (iv j) ∧ X.cell? ⟨b2, 0, none⟩ = some (iv n) := fun hX => ⟨cells_get (cs := [_, _, _]) (hO.keep hX).bx.box rfl, (Grow.of_below (B := 0) (hV.trans (hX.mono hV.size))).cell h1.cell, (Grow.of_below (B := 0) (hV.trans (hX.mono hV.size))).cell h2.cell⟩
    have hd : Below W.heap.size W W.drew := (Below.refl _ W).drew
    refine region_of_tail 6 (by kernel_rfl) (by kernel_rfl) (by kernel_rfl) (fun X => X.cell? ⟨bp, 0, none⟩ = some (.slice (some ⟨bL, 0, none⟩) L.length L.length) ∧ X.cell? ⟨b1, 0, none⟩ = some (iv j) ∧ X.cell? ⟨b2, 0, none⟩ = some (iv n)) (fun _ _ _ => False) (fun _ _ _ h => h.elim) fun ds => ?_
    have hS := hS0 hd
    refine held_take 0 (.pointer (some ⟨bp, 0, none⟩)) rfl (by kernel_rfl) (by kernel_rfl) (by kernel_rfl) (by intro _ _ _ h; first | exact h | (simpa [behind, Act.put] using h)) rfl (by first | exact hS | assumption) (fun wq hq => ?_) ?_; (focus (first | rfl | (simp [go_sem]; done))); simp only [Act.put, Array.getInternal_eq_getElem, List.take_succ_cons, List.take_zero, List.take_nil, List.getElem_toArray, List.getElem_cons_succ, List.getElem_cons_zero, List.setIfInBounds_toArray, List.set_cons_succ, List.set_cons_zero]
    refine held_take 1 (.pointer (some ⟨bp, 0, none⟩)) rfl (by kernel_rfl) (by kernel_rfl) (by kernel_rfl) (by intro _ _ _ h; first | exact h | (simpa [behind, Act.put] using h)) rfl (by first | exact hS | assumption) (fun wq hq => ?_) ?_; (focus (simp [go_sem]; done)); simp only [Act.put, Array.getInternal_eq_getElem, List.take_succ_cons, List.take_zero, List.take_nil, List.getElem_toArray, List.getElem_cons_succ, List.getElem_cons_zero, List.setIfInBounds_toArray, List.set_cons_succ, List.set_cons_zero]
    refine held_take 2 (.pointer (some ⟨bp, 0, none⟩)) rfl (by kernel_rfl) (by kernel_rfl) (by kernel_rfl) (by intro _ _ _ h; first | exact h | (simpa [behind, Act.put] using h)) rfl (by first | exact hS | assumption) (fun wq hq => ?_) ?_; (focus (simp [go_sem, hu25]; done)); simp only [Act.put, Array.getInternal_eq_getElem, List.take_succ_cons, List.take_zero, List.take_nil, List.getElem_toArray, List.getElem_cons_succ, List.getElem_cons_zero, List.setIfInBounds_toArray, List.set_cons_succ, List.set_cons_zero]
    refine held_take 3 (.slice (some ⟨bL, 0, none⟩) L.length L.length) rfl (by kernel_rfl) (by kernel_rfl) (by kernel_rfl) (by intro _ _ _ h; first | exact h | (simpa [behind, Act.put] using h)) rfl (by first | exact hS | assumption) (fun wq hq => ?_) ?_; (focus (simp [go_sem, hq.1]; done)); simp only [Act.put, Array.getInternal_eq_getElem, List.take_succ_cons, List.take_zero, List.take_nil, List.getElem_toArray, List.getElem_cons_succ, List.getElem_cons_zero, List.setIfInBounds_toArray, List.set_cons_succ, List.set_cons_zero]
    refine held_take 4 (iv j) rfl (by kernel_rfl) (by kernel_rfl) (by kernel_rfl) (by intro _ _ _ h; first | exact h | (simpa [behind, Act.put] using h)) rfl (by first | exact hS | assumption) (fun wq hq => ?_) ?_; (focus (simp [go_sem, hq.2.1]; done)); simp only [Act.put, Array.getInternal_eq_getElem, List.take_succ_cons, List.take_zero, List.take_nil, List.getElem_toArray, List.getElem_cons_succ, List.getElem_cons_zero, List.setIfInBounds_toArray, List.set_cons_succ, List.set_cons_zero]
    refine held_take 5 (iv n) rfl (by kernel_rfl) (by kernel_rfl) (by kernel_rfl) (by intro _ _ _ h; first | exact h | (simpa [behind, Act.put] using h)) rfl (by first | exact hS | assumption) (fun wq hq => ?_) ?_; (focus (simp [go_sem, hq.2.2]; done)); simp only [Act.put, Array.getInternal_eq_getElem, List.take_succ_cons, List.take_zero, List.take_nil, List.getElem_toArray, List.getElem_cons_succ, List.getElem_cons_zero, List.setIfInBounds_toArray, List.set_cons_succ, List.set_cons_zero]
    refine held_done (by kernel_rfl) ?_
    refine behind_normal 2 (by kernel_rfl) ?_
    have hOd := hO.keep hd
    have d3 := cx hOd
    have df : W.drew.frozen? ⟨bL, j, none⟩ = false := by simp [World.frozen?, hOd.bx.hl]
    refine any_val 6 (.pointer (some ⟨bL, j, none⟩)) rfl (by kernel_rfl) rfl (by first | (simp [go_sem, hu22, hjI]; done) | rfl) ?_; simp only [Act.put, Array.getInternal_eq_getElem, List.take_succ_cons, List.take_zero, List.take_nil, List.getElem_toArray, List.getElem_cons_succ, List.getElem_cons_zero, List.setIfInBounds_toArray, List.set_cons_succ, List.set_cons_zero]
    refine any_skip 7 (W.drew.setCell ⟨bL, j, none⟩ (iv n)) rfl (by kernel_rfl) rfl (by simp [go_sem, d3, df]) ?_; simp only [Act.put, Array.getInternal_eq_getElem, List.take_succ_cons, List.take_zero, List.take_nil, List.getElem_toArray, List.getElem_cons_succ, List.getElem_cons_zero, List.setIfInBounds_toArray, List.set_cons_succ, List.set_cons_zero]
    refine any_done (by kernel_rfl) ⟨rfl, (Keep.of_below hd).setCell _ _, ?_⟩
    have hB := (hV.trans (hd.mono hV.size)).setCell (p := ⟨bL, j, none⟩) hbL (iv n)
    refine ⟨by simp, fun W' hG => ⟨.tuple #[], by simp [results, Try.f129, go_sem], ⟨_, rfl⟩, keep_grow ((Keep.of_below hd).setCell _ _) hG, hB.trans (hG.below hV.size hB.size), AK, cK, (hOd.setL j n).grow hG⟩⟩
end Go.Proofs.Ytbdmmikflkpmpaa
end

section
namespace Go.Proofs.Ytbdmmikflkpmpaa
open Go.RowKit Go.TL Go.Shelf Go.Pn
attribute [local go_sem] Oper.semAt_some
attribute [local go_sem] run_store_func
set_option maxRecDepth 100000 in
set_option maxHeartbeats 400000 in
theorem atMost101 (n : Nat) (w : World) : Calls Try.prog 101 #[iv n] w fun e w' => ∃ b, e = .returned (.agg #[.func (.func 130) #[] #[.pointer (some ⟨b, 0, none⟩)]]) ∧ w.heap.size ≤ b ∧ Boxed w' b 3 (iv n) ∧ Below w.heap.size w w' := by
  have hmf : ∀ fn first cap w, (Instr.makeFunc fn first cap).run Try.prog w = .ok (.func fn first cap) w := fun _ _ _ _ => rfl
  have hu83 := Try.underlying83
  refine calls_of_exec Try.func101 rfl ?_
  simp only [Try.ntmps101, List.size_toArray, List.length_cons, List.length_nil, Nat.reduceAdd, Nat.reduceSub, Array.replicate_succ, Array.replicate_zero, List.push_toArray, List.append_toArray, List.nil_append, List.cons_append]
  refine exec_seq (exec_region_o fun ds => ?_)
  gi_wp2
  refine eq_mk (((Keep.refl _).alloc _).alloc _) ?_
  show Exec _ _ _ _ _ _
  have hB := ((Below.refl w.heap.size w).alloc (Nat.le_refl _) (.cells #[iv n] 3)).alloc (by simp) (.cells #[.nilFunc] 83)
  have b1 : Boxed ((w.alloc (.cells #[iv n] 3)).alloc (.cells #[.nilFunc] 83)) w.heap.size 3 (iv n) := by (simp only [Boxed, Box2, heap_alloc_at, heap_set_at, World.size_alloc, World.size_setCell]; repeat (first | rfl | rw [if_pos (by omega)] | rw [if_neg (by omega)]))
  have b2 : Boxed ((w.alloc (.cells #[iv n] 3)).alloc (.cells #[.nilFunc] 83)) (w.heap.size + 1) 83 .nilFunc := by (simp only [Boxed, Box2, heap_alloc_at, heap_set_at, World.size_alloc, World.size_setCell]; repeat (first | rfl | rw [if_pos (by omega)] | rw [if_neg (by omega)]))
  generalize (w.alloc (.cells #[iv n] 3)).alloc (.cells #[.nilFunc] 83) = X at *
  have e1 := b2.cell
  have e2 := b2.frozen
  refine exec_seq (exec_region_o fun ds => ?_)
  gi_wp2
  refine eq_mk ((Keep.refl _).setCell _ _) ?_
  show Exec _ _ _ _ _ _
  have g1 := boxed_far b1 (.func (.func 130) #[] #[.pointer (some ⟨w.heap.size, 0, none⟩)]) (b := w.heap.size + 1) (by omega)
  have g2 := boxed_set b2 (.func (.func 130) #[] #[.pointer (some ⟨w.heap.size, 0, none⟩)])
  have hB2 : Below w.heap.size w (X.setCell ⟨w.heap.size + 1, 0, none⟩ (.func (.func 130) #[] #[.pointer (some ⟨w.heap.size, 0, none⟩)])) := hB.setCell (by show w.heap.size ≤ w.heap.size + 1; omega) _
  generalize X.setCell ⟨w.heap.size + 1, 0, none⟩ (.func (.func 130) #[] #[.pointer (some ⟨w.heap.size, 0, none⟩)]) = Y at *
  exact exec_ret ⟨.inr rfl, fun W' hG => ⟨.agg #[.func (.func 130) #[] #[.pointer (some ⟨w.heap.size, 0, none⟩)]], by have := (hG.boxed g2).cell; simp [results, Try.f101, go_sem, this], w.heap.size, rfl, Nat.le_refl _, hG.boxed g1, hB2.trans (hG.below (Nat.le_refl _) hB2.size)⟩⟩
def minTo (n : Nat) (L : List Nat) (k : Nat) : List Nat := L.mapIdx fun i y => if i < k then min n y else y
theorem minTo_len (n : Nat) (L : List Nat) (k : Nat) : (minTo n L k).length = L.length := by simp [minTo]
theorem minTo_zero (n : Nat) (L : List Nat) : minTo n L 0 = L := by
  apply List.ext_getElem?
  intro i
  simp [minTo, List.getElem?_mapIdx]
theorem minTo_end (n : Nat) (L : List Nat) : minTo n L L.length = L.map (min n) := by
  apply List.ext_getElem (by simp [minTo])
  intro i h1 h2
  have : i < L.length := by simpa using h2
  simp [minTo, this]
theorem minTo_succ (n : Nat) (L : List Nat) (k : Nat) (hk : k < L.length) : minTo n L (k + 1) = (minTo n L k).set k (min n ((minTo n L k).getD k 0)) := by
  apply List.ext_getElem (by simp [minTo])
  intro i h1 h2
  have hi : i < L.length := by simpa [minTo] using h1
  rw [List.getElem_set]
  by_cases e : k = i
  · subst e
    simp [minTo, List.getD_eq_getElem?_getD, hk]
  · rw [if_neg e]
    simp only [minTo, List.getElem_mapIdx]
    by_cases h : i < k
    · rw [if_pos (by omega), if_pos h]
    · rw [if_neg (by omega), if_neg h]
end Go.Proofs.Ytbdmmikflkpmpaa
end

section
namespace Go.Proofs.Ytbdmmikflkpmpaa
open Go.RowKit Go.TL Go.Shelf Go.Pn
attribute [local go_sem] Oper.semAt_some
attribute [local go_sem] run_store_func
def S3.atMost (n : Nat) (x : S3) : S3 := (x.1.map (min n), x.2.1, x.2.2)
def AmI (V : World) (bp bL bN : Nat) (L N : List Nat) (AK : Option Addr) (cK : Nat) (K : List (Nat × Nat)) (q b : Nat) (W0 : World) (n : Nat) (t : Array Value) (W : World) : Prop :=
  ∃ k : Nat, k ≤ L.length ∧ n = L.length - k ∧ Keep W0 W ∧ Below V.heap.size V W ∧ OB W bp bL bN (minTo q L k) N AK cK K ∧ Slots (some (.pointer (some ⟨bp, 0, none⟩)) :: some (.pointer (some ⟨b, 0, none⟩)) :: none :: none :: o4 (some (iv L.length) :: some (iv k) :: none :: none :: o16 [])) t
def AmM (V : World) (bp bL bN : Nat) (L N : List Nat) (AK : Option Addr) (cK : Nat) (K : List (Nat × Nat)) (n b k : Nat) (t : Array Value) (W : World) : Prop :=
  Below V.heap.size V W ∧ OB W bp bL bN L N AK cK K ∧ Slots (some (.pointer (some ⟨bp, 0, none⟩)) :: some (.pointer (some ⟨b, 0, none⟩)) :: none :: none :: o4 (some (iv n) :: some (iv k) :: none :: none :: o16 [])) t
set_option maxRecDepth 100000 in
set_option maxHeartbeats 2000000 in
theorem atMost_chg {V : World} {q b : Nat} (hb : Boxed V b 3 (iv q)) : Chg V 130 #[.pointer (some ⟨b, 0, none⟩)] (S3.atMost q) (fun _ => True) where
  eg := enters_of Try.func130 (by kernel_rfl) rfl
  len x h := ⟨by show (x.1.map (min q)).length ≤ 40; rw [List.length_map]; exact h.1, h.2.1, h.2.2⟩
  run W bp bL bN x AK cK hV hbp hbL hbN hok _ hO := by
    obtain ⟨L, N, K⟩ := x
    obtain ⟨h1, h2, h3⟩ := hok
    simp only at h1 h2 h3 hO
    show Calls Try.prog 130 _ W fun e W' => (∃ v, e = .returned v) ∧ Keep W W' ∧ Below V.heap.size V W' ∧ ∃ AK' cK', OB W' bp bL bN (L.map (min q)) N AK' cK' K
    have hu25 := Try.underlying25
    have hu22 := Try.underlying22
    refine calls_of_exec Try.func130 rfl ?_
    simp only [Try.ntmps130, List.size_toArray, List.length_cons, List.length_nil, Nat.reduceAdd, Nat.reduceSub, Array.replicate_succ, Array.replicate_zero, List.push_toArray, List.append_toArray, List.nil_append, List.cons_append]
    have c1 := cells_get (cs := [_, _, _]) (k := 0) hO.bx.box rfl
    refine exec_seq (exec_region_o fun ds => ?_)
    gi_wp2
    refine eq_mk (Keep.refl _) ?_
    show Exec _ _ _ _ _ _
    refine exec_block ?_
    refine exec_loop (AmI V bp bL bN L N AK cK K q b W) L.length ⟨0, by omega, rfl, Keep.refl _, hV, by rw [minTo_zero]; exact hO, by simp [Slots, Fits]⟩ ?_
    clear c1 hO
    have hV0 := hV.size
    clear hV
    rintro n t X ⟨k, hk, hn, hKp, hV, hO, hSl⟩
    have hNl : (minTo q L k).length = L.length := minTo_len q L k
    have hsu := minTo_succ q L k
    have hend : k = L.length → minTo q L k = L.map (min q) := fun e => by rw [e, minTo_end]
    generalize minTo q L k = M at *
    obtain ⟨x, hx⟩ := Slots.open_ hSl; simp only [fill, Nat.reduceAdd] at hx; subst hx; clear hSl
    refine exec_seq (exec_region_o fun ds => ?_)
    gi_wp2
    refine eq_mk (Keep.refl _) ?_
    show Exec _ _ _ _ _ _
    refine exec_seq (exec_cond (b := decide (k < L.length)) (by first | rfl | (show Value.bool _ = _; congr 1; exact decide_eq_decide.2 (by omega))) (fun hp => exec_skip ?_) (fun hp => exec_exit ?_))
    · have hkl : k < L.length := by have := of_decide_eq_true hp; omega
      show Exec _ _ _ _ _ _
      have HS := Lib.hid (hsu hkl)
      clear hsu hend
      have hkI : (k : Int) < M.length := by omega
      have hkM : k < M.length := by omega
      obtain ⟨y, hy⟩ : ∃ y, M.getD k 0 = y := ⟨_, rfl⟩
      have hyc : (M.map iv)[k]? = some (iv y) := by
        rw [List.getElem?_map, List.getElem?_eq_getElem hkM, ← hy, List.getD_eq_getElem?_getD, List.getElem?_eq_getElem hkM]
        rfl
      rw [hy] at HS
      clear hy
      have hmn : (if y < q then (y : Int) else (q : Int)) = ((min q y : Nat) : Int) := by split <;> omega
      refine exec_cut (fun t' Y => Keep X Y ∧ AmM V bp bL bN (M.set k (min q y)) N AK cK K L.length b k t' Y) (exec_block (exec_seq (exec_region_o fun ds => ?_))) ?_
      · gi_wp2
        refine eq_mk (Keep.refl _) ?_
        show Exec _ _ _ _ _ _
        have hS0 : ∀ {Z : World}, Below X.heap.size X Z → Z.cell? ⟨bp, 0, none⟩ = some (.slice (some ⟨bL, 0, none⟩) M.length M.length) ∧ Z.cell? ⟨b, 0, none⟩ = some (iv q) ∧ Z.cell? ⟨bL, k, none⟩ = some (iv y) := fun hZ => ⟨cells_get (cs := [_, _, _]) (hO.keep hZ).bx.box rfl, (Grow.of_below (B := 0) (hV.trans (hZ.mono hV.size))).cell hb.cell, cells_get (cs := M.map iv) (hO.keep hZ).bx.hl hyc⟩
        have hd : Below X.heap.size X X.drew := (Below.refl _ X).drew
        refine region_of_tail 14 (by kernel_rfl) (by kernel_rfl) (by kernel_rfl) (fun Z => Z.cell? ⟨bp, 0, none⟩ = some (.slice (some ⟨bL, 0, none⟩) M.length M.length) ∧ Z.cell? ⟨b, 0, none⟩ = some (iv q) ∧ Z.cell? ⟨bL, k, none⟩ = some (iv y)) (fun _ _ _ => False) (fun _ _ _ h => h.elim) fun ds => ?_
        have hS := hS0 hd
        refine held_take 0 (.pointer (some ⟨bp, 0, none⟩)) rfl (by kernel_rfl) (by kernel_rfl) (by kernel_rfl) (by intro _ _ _ h; first | exact h | (simpa [behind, Act.put] using h)) rfl (by first | exact hS | assumption) (fun wq hq => ?_) ?_; (focus (first | rfl | (simp [go_sem]; done))); simp only [Act.put, Array.getInternal_eq_getElem, List.take_succ_cons, List.take_zero, List.take_nil, List.getElem_toArray, List.getElem_cons_succ, List.getElem_cons_zero, List.setIfInBounds_toArray, List.set_cons_succ, List.set_cons_zero]
        refine held_take 1 (.pointer (some ⟨bp, 0, none⟩)) rfl (by kernel_rfl) (by kernel_rfl) (by kernel_rfl) (by intro _ _ _ h; first | exact h | (simpa [behind, Act.put] using h)) rfl (by first | exact hS | assumption) (fun wq hq => ?_) ?_; (focus (simp [go_sem]; done)); simp only [Act.put, Array.getInternal_eq_getElem, List.take_succ_cons, List.take_zero, List.take_nil, List.getElem_toArray, List.getElem_cons_succ, List.getElem_cons_zero, List.setIfInBounds_toArray, List.set_cons_succ, List.set_cons_zero]
        refine held_take 2 (.pointer (some ⟨bp, 0, none⟩)) rfl (by kernel_rfl) (by kernel_rfl) (by kernel_rfl) (by intro _ _ _ h; first | exact h | (simpa [behind, Act.put] using h)) rfl (by first | exact hS | assumption) (fun wq hq => ?_) ?_; (focus (simp [go_sem, hu25]; done)); simp only [Act.put, Array.getInternal_eq_getElem, List.take_succ_cons, List.take_zero, List.take_nil, List.getElem_toArray, List.getElem_cons_succ, List.getElem_cons_zero, List.setIfInBounds_toArray, List.set_cons_succ, List.set_cons_zero]
        refine held_take 3 (.slice (some ⟨bL, 0, none⟩) M.length M.length) rfl (by kernel_rfl) (by kernel_rfl) (by kernel_rfl) (by intro _ _ _ h; first | exact h | (simpa [behind, Act.put] using h)) rfl (by first | exact hS | assumption) (fun wq hq => ?_) ?_; (focus (simp [go_sem, hq.1]; done)); simp only [Act.put, Array.getInternal_eq_getElem, List.take_succ_cons, List.take_zero, List.take_nil, List.getElem_toArray, List.getElem_cons_succ, List.getElem_cons_zero, List.setIfInBounds_toArray, List.set_cons_succ, List.set_cons_zero]
        refine held_take 4 (iv k) rfl (by kernel_rfl) (by kernel_rfl) (by kernel_rfl) (by intro _ _ _ h; first | exact h | (simpa [behind, Act.put] using h)) rfl (by first | exact hS | assumption) (fun wq hq => ?_) ?_; (focus (first | rfl | (simp [go_sem]; done))); simp only [Act.put, Array.getInternal_eq_getElem, List.take_succ_cons, List.take_zero, List.take_nil, List.getElem_toArray, List.getElem_cons_succ, List.getElem_cons_zero, List.setIfInBounds_toArray, List.set_cons_succ, List.set_cons_zero]
        refine held_take 5 (iv q) rfl (by kernel_rfl) (by kernel_rfl) (by kernel_rfl) (by intro _ _ _ h; first | exact h | (simpa [behind, Act.put] using h)) rfl (by first | exact hS | assumption) (fun wq hq => ?_) ?_; (focus (simp [go_sem, hq.2.1]; done)); simp only [Act.put, Array.getInternal_eq_getElem, List.take_succ_cons, List.take_zero, List.take_nil, List.getElem_toArray, List.getElem_cons_succ, List.getElem_cons_zero, List.setIfInBounds_toArray, List.set_cons_succ, List.set_cons_zero]
        refine held_take 6 (.pointer (some ⟨bp, 0, none⟩)) rfl (by kernel_rfl) (by kernel_rfl) (by kernel_rfl) (by intro _ _ _ h; first | exact h | (simpa [behind, Act.put] using h)) rfl (by first | exact hS | assumption) (fun wq hq => ?_) ?_; (focus (first | rfl | (simp [go_sem]; done))); simp only [Act.put, Array.getInternal_eq_getElem, List.take_succ_cons, List.take_zero, List.take_nil, List.getElem_toArray, List.getElem_cons_succ, List.getElem_cons_zero, List.setIfInBounds_toArray, List.set_cons_succ, List.set_cons_zero]
        refine held_take 7 (.pointer (some ⟨bp, 0, none⟩)) rfl (by kernel_rfl) (by kernel_rfl) (by kernel_rfl) (by intro _ _ _ h; first | exact h | (simpa [behind, Act.put] using h)) rfl (by first | exact hS | assumption) (fun wq hq => ?_) ?_; (focus (simp [go_sem]; done)); simp only [Act.put, Array.getInternal_eq_getElem, List.take_succ_cons, List.take_zero, List.take_nil, List.getElem_toArray, List.getElem_cons_succ, List.getElem_cons_zero, List.setIfInBounds_toArray, List.set_cons_succ, List.set_cons_zero]
        refine held_take 8 (.pointer (some ⟨bp, 0, none⟩)) rfl (by kernel_rfl) (by kernel_rfl) (by kernel_rfl) (by intro _ _ _ h; first | exact h | (simpa [behind, Act.put] using h)) rfl (by first | exact hS | assumption) (fun wq hq => ?_) ?_; (focus (simp [go_sem, hu25]; done)); simp only [Act.put, Array.getInternal_eq_getElem, List.take_succ_cons, List.take_zero, List.take_nil, List.getElem_toArray, List.getElem_cons_succ, List.getElem_cons_zero, List.setIfInBounds_toArray, List.set_cons_succ, List.set_cons_zero]
        refine held_take 9 (.slice (some ⟨bL, 0, none⟩) M.length M.length) rfl (by kernel_rfl) (by kernel_rfl) (by kernel_rfl) (by intro _ _ _ h; first | exact h | (simpa [behind, Act.put] using h)) rfl (by first | exact hS | assumption) (fun wq hq => ?_) ?_; (focus (simp [go_sem, hq.1]; done)); simp only [Act.put, Array.getInternal_eq_getElem, List.take_succ_cons, List.take_zero, List.take_nil, List.getElem_toArray, List.getElem_cons_succ, List.getElem_cons_zero, List.setIfInBounds_toArray, List.set_cons_succ, List.set_cons_zero]
        refine held_take 10 (iv k) rfl (by kernel_rfl) (by kernel_rfl) (by kernel_rfl) (by intro _ _ _ h; first | exact h | (simpa [behind, Act.put] using h)) rfl (by first | exact hS | assumption) (fun wq hq => ?_) ?_; (focus (first | rfl | (simp [go_sem]; done))); simp only [Act.put, Array.getInternal_eq_getElem, List.take_succ_cons, List.take_zero, List.take_nil, List.getElem_toArray, List.getElem_cons_succ, List.getElem_cons_zero, List.setIfInBounds_toArray, List.set_cons_succ, List.set_cons_zero]
        refine held_take 11 (.pointer (some ⟨bL, k, none⟩)) rfl (by kernel_rfl) (by kernel_rfl) (by kernel_rfl) (by intro _ _ _ h; first | exact h | (simpa [behind, Act.put] using h)) rfl (by first | exact hS | assumption) (fun wq hq => ?_) ?_; (focus (simp [go_sem, hu22, hkI]; done)); simp only [Act.put, Array.getInternal_eq_getElem, List.take_succ_cons, List.take_zero, List.take_nil, List.getElem_toArray, List.getElem_cons_succ, List.getElem_cons_zero, List.setIfInBounds_toArray, List.set_cons_succ, List.set_cons_zero]
        refine held_take 12 (iv y) rfl (by kernel_rfl) (by kernel_rfl) (by kernel_rfl) (by intro _ _ _ h; first | exact h | (simpa [behind, Act.put] using h)) rfl (by first | exact hS | assumption) (fun wq hq => ?_) ?_; (focus (simp [go_sem, hq.2.2]; done)); simp only [Act.put, Array.getInternal_eq_getElem, List.take_succ_cons, List.take_zero, List.take_nil, List.getElem_toArray, List.getElem_cons_succ, List.getElem_cons_zero, List.setIfInBounds_toArray, List.set_cons_succ, List.set_cons_zero]
        refine held_take 13 (iv (min q y)) rfl (by kernel_rfl) (by kernel_rfl) (by kernel_rfl) (by intro _ _ _ h; first | exact h | (simpa [behind, Act.put] using h)) rfl (by first | exact hS | assumption) (fun wq hq => ?_) ?_; (focus (simp [go_sem, hmn]; done)); simp only [Act.put, Array.getInternal_eq_getElem, List.take_succ_cons, List.take_zero, List.take_nil, List.getElem_toArray, List.getElem_cons_succ, List.getElem_cons_zero, List.setIfInBounds_toArray, List.set_cons_succ, List.set_cons_zero]
        refine held_done (by kernel_rfl) ?_
        refine behind_normal 2 (by kernel_rfl) ?_
        have hOd := hO.keep hd
        have d3 := (hS0 hd).2.2
        have df : X.drew.frozen? ⟨bL, k, none⟩ = false := by simp [World.frozen?, hOd.bx.hl]
        refine any_val 14 (.pointer (some ⟨bL, k, none⟩)) rfl (by kernel_rfl) rfl (by first | (simp [go_sem, hu22, hkI]; done) | rfl) ?_; simp only [Act.put, Array.getInternal_eq_getElem, List.take_succ_cons, List.take_zero, List.take_nil, List.getElem_toArray, List.getElem_cons_succ, List.getElem_cons_zero, List.setIfInBounds_toArray, List.set_cons_succ, List.set_cons_zero]
        refine any_skip 15 (X.drew.setCell ⟨bL, k, none⟩ (iv (min q y))) rfl (by kernel_rfl) rfl (by simp [go_sem, d3, df]) ?_; simp only [Act.put, Array.getInternal_eq_getElem, List.take_succ_cons, List.take_zero, List.take_nil, List.getElem_toArray, List.getElem_cons_succ, List.getElem_cons_zero, List.setIfInBounds_toArray, List.set_cons_succ, List.set_cons_zero]
        refine any_done (by kernel_rfl) ⟨rfl, (Keep.of_below hd).setCell _ _, ?_⟩
        exact ⟨(Keep.of_below hd).setCell _ _, (hV.trans (hd.mono hV.size)).setCell (p := ⟨bL, k, none⟩) hbL _, hOd.setL k (min q y), by simp [Slots, Fits]⟩
      · clear hV hO x
        rintro t' Y ⟨hXY, hV, hO, hSl⟩
        obtain ⟨x, hx⟩ := Slots.open_ hSl; simp only [fill, Nat.reduceAdd] at hx; subst hx; clear hSl
        have hw : IntKind.i64.wrap ((k : Int) + 1) = ((k + 1 : Nat) : Int) := by rw [IntWalk.i64_in _ (by omega)]; norm_cast
        refine exec_region_o fun ds => ?_
        gi_wp2
        exact eq_mk (Keep.refl _) ⟨n - 1, by omega, k + 1, by omega, by omega, hKp.trans hXY, hV, by rw [HS.out]; exact hO, by simp only [Slots, Fits, and_self]; simp⟩
    · have hkl : k = L.length := by have := of_decide_eq_false hp; omega
      rw [hend hkl] at hO
      refine ⟨.inl rfl, fun W' hG => ⟨.tuple #[], by simp [results, Try.f130, go_sem], ⟨_, rfl⟩, keep_grow hKp hG, hV.trans (hG.below hV0 hV.size), AK, cK, hO.grow hG⟩⟩
end Go.Proofs.Ytbdmmikflkpmpaa
end

section
namespace Go.Proofs.Ytbdmmikflkpmpaa
open Go.RowKit Go.TL Go.Shelf Go.Pn
attribute [local go_sem] Oper.semAt_some
attribute [local go_sem] run_store_func
set_option maxRecDepth 100000 in
set_option maxHeartbeats 400000 in
theorem waived92 (n : Nat) (w : World) : Calls Try.prog 92 #[u64 n] w fun e w' => ∃ b, e = .returned (.agg #[.func (.func 125) #[] #[.pointer (some ⟨b, 0, none⟩)]]) ∧ w.heap.size ≤ b ∧ Boxed w' b 121 (u64 n) ∧ Below w.heap.size w w' := by
  have hmf : ∀ fn first cap w, (Instr.makeFunc fn first cap).run Try.prog w = .ok (.func fn first cap) w := fun _ _ _ _ => rfl
  have hu83 := Try.underlying83
  refine calls_of_exec Try.func92 rfl ?_
  simp only [Try.ntmps92, List.size_toArray, List.length_cons, List.length_nil, Nat.reduceAdd, Nat.reduceSub, Array.replicate_succ, Array.replicate_zero, List.push_toArray, List.append_toArray, List.nil_append, List.cons_append]
  refine exec_seq (exec_region_o fun ds => ?_)
  gi_wp2
  refine eq_mk (((Keep.refl _).alloc _).alloc _) ?_
  show Exec _ _ _ _ _ _
  have hB := ((Below.refl w.heap.size w).alloc (Nat.le_refl _) (.cells #[u64 n] 121)).alloc (by simp) (.cells #[.nilFunc] 83)
  have b1 : Boxed ((w.alloc (.cells #[u64 n] 121)).alloc (.cells #[.nilFunc] 83)) w.heap.size 121 (u64 n) := by (simp only [Boxed, Box2, heap_alloc_at, heap_set_at, World.size_alloc, World.size_setCell]; repeat (first | rfl | rw [if_pos (by omega)] | rw [if_neg (by omega)]))
  have b2 : Boxed ((w.alloc (.cells #[u64 n] 121)).alloc (.cells #[.nilFunc] 83)) (w.heap.size + 1) 83 .nilFunc := by (simp only [Boxed, Box2, heap_alloc_at, heap_set_at, World.size_alloc, World.size_setCell]; repeat (first | rfl | rw [if_pos (by omega)] | rw [if_neg (by omega)]))
  generalize (w.alloc (.cells #[u64 n] 121)).alloc (.cells #[.nilFunc] 83) = X at *
  have e1 := b2.cell
  have e2 := b2.frozen
  refine exec_seq (exec_region_o fun ds => ?_)
  gi_wp2
  refine eq_mk ((Keep.refl _).setCell _ _) ?_
  show Exec _ _ _ _ _ _
  have g1 := boxed_far b1 (.func (.func 125) #[] #[.pointer (some ⟨w.heap.size, 0, none⟩)]) (b := w.heap.size + 1) (by omega)
  have g2 := boxed_set b2 (.func (.func 125) #[] #[.pointer (some ⟨w.heap.size, 0, none⟩)])
  have hB2 : Below w.heap.size w (X.setCell ⟨w.heap.size + 1, 0, none⟩ (.func (.func 125) #[] #[.pointer (some ⟨w.heap.size, 0, none⟩)])) := hB.setCell (by show w.heap.size ≤ w.heap.size + 1; omega) _
  generalize X.setCell ⟨w.heap.size + 1, 0, none⟩ (.func (.func 125) #[] #[.pointer (some ⟨w.heap.size, 0, none⟩)]) = Y at *
  exact exec_ret ⟨.inr rfl, fun W' hG => ⟨.agg #[.func (.func 125) #[] #[.pointer (some ⟨w.heap.size, 0, none⟩)]], by have := (hG.boxed g2).cell; simp [results, Try.f92, go_sem, this], w.heap.size, rfl, Nat.le_refl _, hG.boxed g1, hB2.trans (hG.below (Nat.le_refl _) hB2.size)⟩⟩
def flatV (K : List (Nat × Nat)) : List Value := K.flatMap fun k => [iv k.1, iv k.2]
theorem flatV_app (A B : List (Nat × Nat)) : flatV (A ++ B) = flatV A ++ flatV B := by simp [flatV]
theorem flatV_len : ∀ K : List (Nat × Nat), (flatV K).length = K.length * 2
  | [] => rfl
  | k :: r => by
    show (iv k.1 :: iv k.2 :: flatV r).length = _
    simp only [List.length_cons, flatV_len r]
    omega
theorem flatV_get : ∀ (K : List (Nat × Nat)) (i : Nat) (k : Nat × Nat), K[i]? = some k → (flatV K)[i * 2]? = some (iv k.1) ∧ (flatV K)[i * 2 + 1]? = some (iv k.2)
  | [], i, k, h => by simp at h
  | a :: r, 0, k, h => by
    cases h
    exact ⟨rfl, rfl⟩
  | a :: r, i + 1, k, h => by
    have := flatV_get r i k h
    rw [show (i + 1) * 2 = i * 2 + 1 + 1 by omega]
    exact this
def waiveTo (s : Nat) (K : List (Nat × Nat)) (k : Nat) : List (Nat × Nat) := (List.range k).filterMap fun i => if s.testBit i then none else K[i]?
theorem waiveTo_succ (s : Nat) (K : List (Nat × Nat)) (k : Nat) (x : Nat × Nat) (hx : K[k]? = some x) : waiveTo s K (k + 1) = if s.testBit k then waiveTo s K k else waiveTo s K k ++ [x] := by
  unfold waiveTo
  rw [List.range_succ, List.filterMap_append]
  by_cases h : s.testBit k = true
  · simp [h]
  · simp [h, hx]
def waiveK (s : Nat) (K : List (Nat × Nat)) : List (Nat × Nat) := waiveTo s K K.length
theorem waiveTo_len (s : Nat) (K : List (Nat × Nat)) (k : Nat) : (waiveTo s K k).length ≤ k := by
  unfold waiveTo
  refine Nat.le_trans (List.length_filterMap_le _ _) ?_
  rw [List.length_range]
  exact Nat.le_refl _
theorem waiveK_mem {s : Nat} {K : List (Nat × Nat)} {x : Nat × Nat} : x ∈ waiveK s K ↔ ∃ i, s.testBit i = false ∧ K[i]? = some x := by
  unfold waiveK waiveTo
  rw [List.mem_filterMap]
  constructor
  · rintro ⟨i, _, h⟩
    by_cases hs : s.testBit i = true
    · simp [hs] at h
    · exact ⟨i, by simpa using hs, by simpa [hs] using h⟩
  · rintro ⟨i, hs, h⟩
    exact ⟨i, List.mem_range.2 (List.getElem?_eq_some_iff.1 h).1, by simp [hs, h]⟩
theorem row_own_pairs {W : World} {base e n : Nat} {v : Value} {K : List (Nat × Nat)} (h : W.ownsRow base e 2 v n (flatV K)) (hn : n = K.length) : ∃ A c, v = .slice A K.length c ∧ RowK W A K ∧ ∀ a, A = some a → base ≤ a.block := by
  subst hn
  rcases h.2 with ⟨e, hz⟩ | ⟨g, cap, cur, e, hb, hg, _, _, _, ht⟩
  · subst e
    have : K = [] := List.eq_nil_of_length_eq_zero hz
    subst this
    exact ⟨none, 0, rfl, fun i k hk => by simp at hk, fun a h => by cases h⟩
  · subst e
    refine ⟨_, _, rfl, fun i k hk => ⟨_, rfl, ?_⟩, fun a h => by cases h; exact hb⟩
    obtain ⟨h1, h2⟩ := flatV_get K i k hk
    have hi : i < K.length := (List.getElem?_eq_some_iff.1 hk).1
    have e1 := h.cellAt (i * 2) (by omega)
    have e2 := h.cellAt (i * 2 + 1) (by omega)
    have ea : (⟨g, 0, none⟩ : Addr).add (i * 2) = ⟨g, i * 2, none⟩ := by simp [Addr.add]; exact fun h => h.symm
    rw [ea]
    exact ⟨e1.trans h1, e2.trans h2⟩
end Go.Proofs.Ytbdmmikflkpmpaa
end

section
namespace Go.Proofs.Ytbdmmikflkpmpaa
open Go.RowKit Go.TL Go.Shelf Go.Pn
attribute [local go_sem] Oper.semAt_some
attribute [local go_sem] run_store_func
theorem info50 : ∃ i0 z, Try.prog.info? 50 = some i0 ∧ i0.zero = some z ∧ z.cells.size = 2 ∧ i0.size = 2 ∧ i0.bytes = 16 := by
  have h : (Try.prog.info? 50).map (fun i => (i.zero, i.size, i.bytes)) = some (some (.agg #[.int .i64 0, .int .i64 0]), 2, 16) := by kernel_rfl
  cases e : Try.prog.info? 50 with
  | none => rw [e] at h; cases h
  | some i0 =>
    rw [e] at h
    have := Option.some.inj h
    simp only [Prod.mk.injEq] at this
    exact ⟨i0, _, rfl, this.1, rfl, this.2.1, this.2.2⟩
end Go.Proofs.Ytbdmmikflkpmpaa
end

section
namespace Go.Proofs.Ytbdmmikflkpmpaa
open Go.RowKit Go.TL Go.Shelf Go.Pn
attribute [local go_sem] Oper.semAt_some
def S3.waive (s : Nat) (x : S3) : S3 := (x.1, x.2.1, waiveK s x.2.2)
theorem own_grow {w w' : World} {B base size n : Nat} {e : TypeId} {v : Value} {xs : List Value} (h : w.ownsRow base e size v n xs) (hg : Grow B w w') : w'.ownsRow base e size v n xs := by
  refine ⟨h.1, ?_⟩
  rcases h.2 with hn | ⟨g, cap, cur, rfl, hb, hh, r⟩
  · exact .inl hn
  · exact .inr ⟨g, cap, cur, rfl, hb, hg.same _ _ hh (.inr rfl), r⟩
theorem cell_pair (W : World) (t : TypeId) (a b : Value) : ∀ j u, [a, b][j]? = some u → (W.alloc (.cells #[a, b] t)).cell? ((⟨W.heap.size, 0, none⟩ : Addr).add j) = some u := by
  intro j u hj
  have hn : (W.alloc (.cells #[a, b] t)).heap[W.heap.size]? = some (.cells #[a, b] t) := World.alloc_heap_new W _
  match j, hj with
  | 0, hj => simp at hj; subst hj; show (W.alloc _).cell? ⟨W.heap.size, 0, none⟩ = _; unfold World.cell?; simp only [hn]; rfl
  | 1, hj => simp at hj; subst hj; show (W.alloc _).cell? ⟨W.heap.size, 0 + 1, none⟩ = _; unfold World.cell?; simp only [hn]; rfl
  | j + 2, hj => simp at hj
def WaI (W0 : World) (bp : Nat) (AK : Option Addr) (cK : Nat) (K : List (Nat × Nat)) (s b : Nat) (n : Nat) (t : Array Value) (W : World) : Prop :=
  ∃ (k : Nat) (v : Value), k ≤ K.length ∧ n = K.length - k ∧ Keep W0 W ∧ Below W0.heap.size W0 W ∧ W.ownsRow W0.heap.size 50 2 v (waiveTo s K k).length (flatV (waiveTo s K k)) ∧ Slots (some (.pointer (some ⟨bp, 0, none⟩)) :: some (.pointer (some ⟨b, 0, none⟩)) :: none :: some (v) :: none :: o4 (some (.slice AK K.length cK) :: some (iv K.length) :: some (iv k) :: none :: o16 [])) t
def WaM (W0 : World) (bp : Nat) (AK : Option Addr) (cK : Nat) (K M : List (Nat × Nat)) (b k : Nat) (t : Array Value) (W : World) : Prop :=
  ∃ (v : Value), Below W0.heap.size W0 W ∧ W.ownsRow W0.heap.size 50 2 v M.length (flatV M) ∧ Slots (some (.pointer (some ⟨bp, 0, none⟩)) :: some (.pointer (some ⟨b, 0, none⟩)) :: none :: some (v) :: none :: o4 (some (.slice AK K.length cK) :: some (iv K.length) :: some (iv k) :: none :: o16 [])) t
set_option maxRecDepth 100000 in
set_option maxHeartbeats 2000000 in
theorem waived_chg {V : World} {s b : Nat} (hs : s < 2 ^ 64) (hb : Boxed V b 121 (u64 s)) : Chg V 125 #[.pointer (some ⟨b, 0, none⟩)] (S3.waive s) (fun _ => True) where
  eg := enters_of Try.func125 (by kernel_rfl) rfl
  len x h := ⟨h.1, h.2.1, Nat.le_trans (waiveTo_len s x.2.2 _) h.2.2⟩
  run W bp bL bN x AK cK hV hbp hbL hbN hok _ hO := by
    obtain ⟨L, N, K⟩ := x
    obtain ⟨h1, h2, h3⟩ := hok
    simp only at h1 h2 h3 hO
    show Calls Try.prog 125 _ W fun e W' => (∃ v, e = .returned v) ∧ Keep W W' ∧ Below V.heap.size V W' ∧ ∃ AK' cK', OB W' bp bL bN L N AK' cK' (waiveK s K)
    have hu25 := Try.underlying25
    have hu23 := Try.underlying23
    have hu50 := Try.underlying50
    refine calls_of_exec Try.func125 rfl ?_
    simp only [Try.ntmps125, List.size_toArray, List.length_cons, List.length_nil, Nat.reduceAdd, Nat.reduceSub, Array.replicate_succ, Array.replicate_zero, List.push_toArray, List.append_toArray, List.nil_append, List.cons_append]
    have c1 := cells_get (cs := [_, _, _]) (k := 2) hO.bx.box rfl
    refine exec_seq (exec_region_o fun ds => ?_)
    gi_wp2
    refine eq_mk (Keep.refl _) ?_
    show Exec _ _ _ _ _ _
    refine exec_seq (exec_seq (exec_region_o fun ds => ?_))
    gi_wp2
    refine eq_mk (Keep.refl _) ?_
    show Exec _ _ _ _ _ _
    refine exec_block ?_
    refine exec_loop (WaI W bp AK cK K s b) K.length ⟨0, .slice none 0 0, by omega, rfl, Keep.refl _, Below.refl _ _, World.ownsRow_nil _ _ _ _, by simp [Slots, Fits]⟩ ?_
    clear c1
    rintro n t X ⟨k, v, hk, hn, hKp, hB, hown, hSl⟩
    have hsu := waiveTo_succ s K k
    have hMl := waiveTo_len s K k
    have hend : k = K.length → waiveTo s K k = waiveK s K := fun e => by rw [e]; rfl
    generalize waiveTo s K k = M at *
    obtain ⟨x, hx⟩ := Slots.open_ hSl; simp only [fill, Nat.reduceAdd] at hx; subst hx; clear hSl
    refine exec_seq (exec_region_o fun ds => ?_)
    gi_wp2
    refine eq_mk (Keep.refl _) ?_
    show Exec _ _ _ _ _ _
    refine exec_seq (exec_cond (b := decide (k < K.length)) (by first | rfl | (show Value.bool _ = _; congr 1; exact decide_eq_decide.2 (by omega))) (fun hp => exec_skip ?_) (fun hp => exec_exit ?_))
    · have hkl : k < K.length := by have := of_decide_eq_true hp; omega
      show Exec _ _ _ _ _ _
      obtain ⟨y, hy⟩ : ∃ y, K[k]? = some y := ⟨_, List.getElem?_eq_getElem hkl⟩
      obtain ⟨al, hA, hc1, hc2⟩ := (hO.keep hB).k k y hy
      have hsu := hsu y hy
      obtain ⟨y1, y2⟩ := y
      simp only at hc1 hc2
      subst hA
      obtain ⟨M2, hM2⟩ : ∃ M2, (if s.testBit k then M else M ++ [(y1, y2)]) = M2 := ⟨_, rfl⟩
      rw [hM2] at hsu
      have HS := Lib.hid hsu
      have HM := Lib.hid hM2
      clear hsu hend hM2 hy
      have hkI : (k : Int) < K.length := by omega
      refine exec_cut (fun t' Y => Keep X Y ∧ WaM W bp (some al) cK K M2 b k t' Y) (exec_block (exec_seq (exec_region_o fun ds => ?_))) ?_
      · gi_wp2
        refine eq_mk ((Keep.refl _).alloc _) ?_
        show Exec _ _ _ _ _ _
        have p1 : (X.alloc (.cells #[iv y1, iv y2] 50)).heap[X.heap.size]? = some (.cells #[iv y1, iv y2] 50 (0, 0)) := World.alloc_heap_new _ _
        have hXB := (Below.refl X.heap.size X).alloc (Nat.le_refl _) (.cells #[iv y1, iv y2] 50)
        have hB1 := hB.trans (hXB.mono hB.size)
        have o1 := hown.alloc (.cells #[iv y1, iv y2] 50)
        have hne : v.ownBlock ≠ some X.heap.size := fun e => by have := (hown.lt _ e).2; omega
        have hKX : Keep X (X.alloc (.cells #[iv y1, iv y2] 50)) := (Keep.refl _).alloc _
        have hb5 := hB.size
        clear hXB hc1 hc2 hown hB
        generalize X.alloc (.cells #[iv y1, iv y2] 50) = Y at *
        generalize X.heap.size = b5 at *
        have cb := (Grow.of_below (B := 0) (hV.trans (hB1.mono hV.size))).cell hb.cell
        refine exec_seq (exec_region_o fun ds => ?_)
        gi_wp2_with fail
        refine ⟨trivial, rfl, (callsIn_wide.2 (has126 s k hs (by omega) Y)).mono ?_⟩
        rintro e Z ⟨rfl, hz⟩
        have hBZ := hB1.trans (hz.mono hB1.size)
        have o2 := own_grow o1 (Grow.of_below (B := 0) hz)
        have p2 : Z.heap[b5]? = some (.cells #[iv y1, iv y2] 50 (0, 0)) := (hz.block _ (heap_lt p1)).trans p1
        have hKZ := Keep.of_below hz
        clear cb o1 p1 hB1 hz
        cases hq : s.testBit k with
        | false =>
          have HE : RowKit.Hid (M2 = M ++ [(y1, y2)]) := Lib.hid (by rw [← HM.out, hq]; rfl)
          clear hq
          gi_wp2
          refine eq_mk hKZ ?_
          show Exec _ _ _ _ _ _
          refine exec_cond (b := true) rfl (fun hp => ?_) (fun hp => by cases hp)
          have e1 := cells_get (cs := [_, _]) (k := 0) p2 rfl
          have e2 := cells_get (cs := [_, _]) (k := 1) p2 rfl
          obtain ⟨i0, z, hi0, hz0, hz3, hz1, hz2⟩ := info50
          have hsz := hBZ.size
          have hfl := flatV_len M
          refine exec_region_o fun ds => ?_
          gi_wp2_with (gi_at_builtin; refine wpListIn_append_own _ rfl _ _ 23 rfl W.heap.size 50 i0 z 2 16 Try.underlying23 hi0 hz0 hz1 hz2 hz3 (by decide) v M.length (flatV M) rfl (o2.alloc _) ⟨Z.heap.size, 0, none⟩ 1 1 [iv y1, iv y2] rfl rfl (cell_pair _ _ _ _) (by simp [Value.oneCell']) (by unfold maxLen; omega) (by omega) (by simp; omega) ?_; intro v' w' hown2 hgr _)
          have hbk : ∀ j o, v.ownBlock = some j → (Z.alloc (.cells #[iv y1, iv y2] 50)).heap[j]? = some o → book o = false := by
            intro j o hv ho
            rcases (o2.alloc (.cells #[iv y1, iv y2] 50)).2 with ⟨rfl, _⟩ | ⟨g', cap', cur, rfl, _, hg', _⟩
            · simp [Value.ownBlock] at hv
            · simp only [Value.ownBlock, Option.some.injEq] at hv
              subst hv
              rw [hg'] at ho
              cases ho
              rfl
          have hB3 : Below W.heap.size W w' := (hBZ.alloc hsz (.cells #[iv y1, iv y2] 50)).grown hgr (by simp; omega) (fun q e => by have := (o2.lt q e).1; omega)
          have hown3 : w'.ownsRow W.heap.size 50 2 v' M2.length (flatV M2) := by
            rw [HE.out, List.length_append, flatV_app]
            exact hown2
          have hK3 := ((Keep.refl Z).alloc (.cells #[iv y1, iv y2] 50)).grown hgr hbk
          refine eq_mk hK3 ⟨(hKX.trans hKZ).trans hK3, ?_⟩
          exact ⟨v', hB3, hown3, (by simp only [Slots, Fits, and_self])⟩
        | true =>
          have HE : RowKit.Hid (M2 = M) := Lib.hid (by rw [← HM.out, hq]; rfl)
          clear hq
          gi_wp2
          refine eq_mk hKZ ?_
          show Exec _ _ _ _ _ _
          refine exec_cond (b := false) rfl (fun hp => by cases hp) (fun hp => exec_skip ?_)
          exact ⟨hKX.trans hKZ, v, hBZ, by rw [HE.out]; exact o2, (by simp only [Slots, Fits, and_self])⟩
      · clear hown hc1 hc2 x
        clear hB
        rintro t' Y ⟨hXY, v', hB, hown, hSl⟩
        obtain ⟨x, hx⟩ := Slots.open_ hSl; simp only [fill, Nat.reduceAdd] at hx; subst hx; clear hSl
        have hw : IntKind.i64.wrap ((k : Int) + 1) = ((k + 1 : Nat) : Int) := by rw [IntWalk.i64_in _ (by omega)]; norm_cast
        refine exec_region_o fun ds => ?_
        gi_wp2
        exact eq_mk (Keep.refl _) ⟨n - 1, by omega, k + 1, v', by omega, by omega, hKp.trans hXY, hB, by rw [HS.out]; exact hown, by simp only [Slots, Fits, and_self]; simp⟩
    · have hkl : k = K.length := by have := of_decide_eq_false hp; omega
      rw [hend hkl] at hown
      clear hsu hend hMl
      generalize waiveK s K = M2 at *
      obtain ⟨A, c, rfl, hRK, hAl⟩ := row_own_pairs hown rfl
      have hOX := hO.keep hB
      have c1 := cells_get (cs := [_, _, _]) (k := 2) hOX.bx.box rfl
      have cf : X.frozen? ⟨bp, 2, none⟩ = false := by simp [World.frozen?, hOX.bx.box]
      have hbpl := heap_lt hO.bx.box
      have hbLl := heap_lt hO.bx.hl
      have hbNl := heap_lt hO.bx.hn
      show Exec _ _ _ _ _ _
      refine exec_region_o fun ds => ?_
      gi_wp2
      refine eq_mk ((Keep.refl _).setCell _ _) ?_
      have hBV := (hV.trans (hB.mono hV.size)).setCell (p := ⟨bp, 2, none⟩) hbp (.slice A M2.length c)
      have hOB : OB (X.setCell ⟨bp, 2, none⟩ (.slice A M2.length c)) bp bL bN L N A c M2 := by
        refine ⟨⟨box_set X bp 2 _ 25 _ hOX.bx.box, box_far X bp 2 bL _ _ hOX.bx.hl (fun e => hOX.bx.ne1 e.symm), box_far X bp 2 bN _ _ hOX.bx.hn (fun e => hOX.bx.ne2 e.symm), hOX.bx.ne1, hOX.bx.ne2, hOX.bx.ne3⟩, hRK.far (fun _ a e => by have := hAl a e; omega) _, fun _ a e => by have := hAl a e; omega⟩
      refine ⟨.inl rfl, fun W' hG => ⟨.tuple #[], by simp [results, Try.f125, go_sem], ⟨_, rfl⟩, keep_grow (hKp.setCell _ _) hG, hBV.trans (hG.below hV.size hBV.size), A, c, hOB.grow hG⟩⟩
end Go.Proofs.Ytbdmmikflkpmpaa
end

section
namespace Go.Proofs.Ytbdmmikflkpmpaa
open Go.RowKit Go.TL Go.Shelf Go.Pn
attribute [local go_sem] Oper.semAt_some
attribute [local go_sem] run_store_func
theorem results_cc {fn : Func} {p q : Tmp} (hr : fn.results = #[.cell p 3, .cell q 28]) {t : Array Value} {x y : Nat} (hp : t[p]? = some (.pointer (some ⟨x, 0, none⟩))) (hq : t[q]? = some (.pointer (some ⟨y, 0, none⟩))) {W : World} {a e : Int} (hx : Boxed W x 3 (vi a)) (hy : Boxed W y 28 (vi e)) :
    (results fn t).run Try.prog W = .ok (.tuple #[vi a, vi e]) W := by
  have h1 := hx.cell
  have h2 := hy.cell
  simp [results, hr, hp, hq, go_sem, h1, h2]
theorem mem_bySize {n s : Nat} (h : s ∈ bySize n) : s < 2 ^ n := by
  unfold bySize at h
  obtain ⟨l, hl, hs⟩ := List.mem_flatten.1 h
  obtain ⟨z, _, rfl⟩ := List.mem_map.1 hl
  exact List.mem_range.1 (List.mem_filter.1 hs).1
def shortF (x : S3) : Option Nat := (bySize x.2.1.length).find? fun s => !canV (toP (x.only s))
def shortA (a : XP) : Int × Int := if a.isP then (match shortF a.s3 with | some s => ((s : Int), 0) | none => (0, 4)) else (0, 1)
structure ShB (w : World) (a : XP) (b bs n : Nat) (W : World) : Prop where
  p : PBx W b a
  r : Boxed W (b + 1) 3 (vi 0)
  e : Boxed W (b + 1 + 1) 28 (vi 0)
  s : Boxed W bs 3 (iv n)
  below : Below w.heap.size w W
theorem PBx.grow {W W' : World} {n b : Nat} {a : XP} (h : PBx W b a) (hG : Grow n W W') : PBx W' b a := ⟨hG.same b _ h.heap (.inr rfl), h.at_.grow hG⟩
theorem ShB.grow {w : World} {a : XP} {b bs n B : Nat} {W W' : World} (h : ShB w a b bs n W) (hG : Grow B W W') (hB : w.heap.size ≤ B) (hw : w.heap.size ≤ W.heap.size) : ShB w a b bs n W' := ⟨h.p.grow hG, hG.boxed h.r, hG.boxed h.e, hG.boxed h.s, h.below.trans (hG.below hB hw)⟩
theorem ShB.keep {w : World} {a : XP} {b bs n : Nat} {W W' : World} (h : ShB w a b bs n W) (hb : Below W.heap.size W W') : ShB w a b bs n W' := ⟨h.p.keep hb, (hb.block _ h.r.lt).trans h.r, (hb.block _ h.e.lt).trans h.e, (hb.block _ h.s.lt).trans h.s, h.below.trans (hb.mono h.below.size)⟩
def ShI (w : World) (a : XP) (b bs n : Nat) (L : List Nat) (k : Nat) (V : World) : Prop := ShB w a b bs n V ∧ ∀ s ∈ L.take k, canV (toP (a.s3.only s)) = true
def ShX (w : World) (a : XP) (b : Nat) (L : List Nat) (c : Code) (V : World) : Prop := c = .ret ∧ ∃ s, L.find? (fun s => !canV (toP (a.s3.only s))) = some s ∧ Boxed V (b + 1) 3 (vi s) ∧ Boxed V (b + 1 + 1) 28 (vi 0) ∧ Below w.heap.size w V
set_option maxRecDepth 100000 in
set_option maxHeartbeats 600000 in
theorem Short_any (a : XP) (w : World) (h : a.At w) : Calls Try.prog 25 #[a.val] w fun e w' => e = .returned (.tuple #[vi (shortA a).1, vi (shortA a).2]) ∧ Below w.heap.size w w' := by
  have hmf : ∀ fn first cap w, (Instr.makeFunc fn first cap).run Try.prog w = .ok (.func fn first cap) w := fun _ _ _ _ => rfl
  have hu25 := Try.underlying25
  have hu22 := Try.underlying22
  obtain ⟨A, hA⟩ : ∃ A, shortA a = A := ⟨_, rfl⟩
  rw [hA]
  have HA := Lib.hid hA
  clear hA
  refine (callsIn_wide (n := 0)).1 (callsIn_of_wp_marks Try.func25 rfl trivial ?_)
  simp only [Try.ntmps25, List.size_toArray, List.length_cons, List.length_nil, Nat.reduceAdd, Nat.reduceSub, Array.replicate_succ, Array.replicate_zero, List.push_toArray, List.append_toArray, List.nil_append, List.cons_append]
  simp only [XP.val]
  refine split_rest fun rest hR => ?_
  gi_wp2
  have hB := (((Below.refl w.heap.size w).alloc (Nat.le_refl _) (.cells #[a.sL, a.sN, a.sK] 25)).alloc (by simp) (.cells #[.int .i64 0] 3)).alloc (by simp; omega) (.cells #[.int .i64 0] 28)
  have b1 : PBx (((w.alloc (.cells #[a.sL, a.sN, a.sK] 25)).alloc (.cells #[.int .i64 0] 3)).alloc (.cells #[.int .i64 0] 28)) w.heap.size a := ⟨heap_next (heap_next (World.alloc_heap_new _ _) _) _, h.below hB⟩
  have b2 : Boxed (((w.alloc (.cells #[a.sL, a.sN, a.sK] 25)).alloc (.cells #[.int .i64 0] 3)).alloc (.cells #[.int .i64 0] 28)) (w.heap.size + 1) 3 (.int .i64 0) := by (simp only [Boxed, Box2, heap_alloc_at, heap_set_at, World.size_alloc, World.size_setCell]; repeat (first | rfl | rw [if_pos (by omega)] | rw [if_neg (by omega)]))
  have b3 : Boxed (((w.alloc (.cells #[a.sL, a.sN, a.sK] 25)).alloc (.cells #[.int .i64 0] 3)).alloc (.cells #[.int .i64 0] 28)) (w.heap.size + 1 + 1) 28 (.int .i64 0) := by (simp only [Boxed, Box2, heap_alloc_at, heap_set_at, World.size_alloc, World.size_setCell]; repeat (first | rfl | rw [if_pos (by omega)] | rw [if_neg (by omega)]))
  refine guard_rest (lo := w.heap.size) (T := 133) (b := w.heap.size + 1 + 1) catches73 ⟨_, _, rfl⟩ (fun W => by simp [go_sem]) hB.size ?_
  subst hR
  generalize ((w.alloc (.cells #[a.sL, a.sN, a.sK] 25)).alloc (.cells #[.int .i64 0] 3)).alloc (.cells #[.int .i64 0] 28) = V at *
  have c0 := cells_get (cs := [_, _, _]) (k := 0) b1.heap rfl
  have c1 := cells_get (cs := [_, _, _]) (k := 1) b1.heap rfl
  have c2 := cells_get (cs := [_, _, _]) (k := 2) b1.heap rfl
  refine exec_seq (exec_region_o fun ds => ?_)
  gi_wp2_with fail
  cases hp : a.isP with
  | false =>
    refine ⟨trivial, rfl, (callsIn_wide.2 (checked_no a V b1.at_ hp)).mono ?_⟩
    rintro e W2 ⟨rfl, hw2⟩
    refine eq_mk (Keep.of_below hw2) (.inr ⟨1, 28, 0, rfl, (hw2.block _ b3.lt).trans b3, ?_⟩)
    rintro W' W'' hG rfl
    have hB2 := hB.trans (hw2.mono hB.size)
    have d2 := hG.boxed (show Boxed W2 (w.heap.size + 1) 3 (.int .i64 0) from (hw2.block _ b2.lt).trans b2)
    have d3 := hG.boxed (show Boxed W2 (w.heap.size + 1 + 1) 28 (.int .i64 0) from (hw2.block _ b3.lt).trans b3)
    exact ⟨_, results_cc rfl rfl rfl (boxed_far d2 _ (by omega)) (boxed_set d3 _), by rw [← HA.out]; simp [shortA, hp], (hB2.trans (hG.below (Nat.le_refl _) hB2.size)).setCell (by show w.heap.size ≤ w.heap.size + 1 + 1; omega) _⟩
  | true =>
    refine ⟨trivial, rfl, (callsIn_wide.2 (checked_yes a V b1.at_ hp)).mono ?_⟩
    rintro e W2 ⟨rfl, hw2⟩
    have hA : A = (match shortF a.s3 with | some s => ((s : Int), 0) | none => (0, 4)) := by rw [← HA.out]; simp [shortA, hp]
    have hf := a.fine hp
    have HA := Lib.hid hA
    clear hp hA
    gi_wp2
    refine eq_mk (Keep.of_below hw2) ?_
    show Exec _ _ _ _ _ _
    have hB2 := hB.trans (hw2.mono hB.size)
    have q1 := b1.keep hw2
    have q2 : Boxed W2 (w.heap.size + 1) 3 (.int .i64 0) := (hw2.block _ b2.lt).trans b2
    have q3 : Boxed W2 (w.heap.size + 1 + 1) 28 (.int .i64 0) := (hw2.block _ b3.lt).trans b3
    clear b1 b2 b3 c0 c1 c2 hB hw2
    clear V
    have hh := q1.heap
    simp only [XP.sN] at hh
    have c1 := cells_get (cs := [_, _, _]) (k := 1) hh rfl
    clear hh
    refine exec_seq (exec_seq (exec_region_o fun ds => ?_))
    gi_wp2_with fail
    refine ⟨trivial, rfl, (callsIn_wide.2 (smaller74 a.N.length W2)).mono ?_⟩
    rintro e W3 ⟨rfl, rfl⟩
    gi_wp2_with fail
    refine eq_mk ((Keep.refl _).alloc _) ?_
    show Exec _ _ _ _ _ _
    refine exec_block ?_
    have gB := (Below.refl W2.heap.size W2).alloc (Nat.le_refl _) (.cells #[iv a.N.length] 3)
    have qS := Boxed.new W2 3 (iv a.N.length)
    have hSh : ShB w a w.heap.size W2.heap.size a.N.length (W2.alloc (.cells #[iv a.N.length] 3)) := ⟨q1.keep gB, (gB.block _ q2.lt).trans q2, (gB.block _ q3.lt).trans q3, qS, hB2.trans (gB.mono hB2.size)⟩
    have hsz : (W2.alloc (.cells #[iv a.N.length] 3)).heap.size = W2.heap.size + 1 := by simp
    have hw2s := hB2.size
    have hq3 := q3.lt
    clear q1 q2 q3 c1 hB2 gB
    generalize W2.alloc (.cells #[iv a.N.length] 3) = W3 at *
    generalize W2.heap.size = bs at *
    clear W2
    have hn6 := hf.p
    have it := smaller112 bs a.N.length (by omega) W3 qS
    refine exec_range (L := bySize a.N.length) rfl (enters_of Try.func112 (by kernel_rfl) rfl) it (fun k hk => by omega) (fun _ => rfl)
      (ShI w a w.heap.size bs a.N.length (bySize a.N.length)) (ShX w a w.heap.size (bySize a.N.length))
      (fun k X Y ⟨h1, h2⟩ hg => ⟨h1.grow hg (by omega) h1.below.size, h2⟩)
      (fun c X Y ⟨h1, s, h2, h3, h4, h5⟩ hg => ⟨h1, s, h2, hg.boxed h3, hg.boxed h4, h5.trans (hg.below (by omega) h5.size)⟩)
      ⟨hSh, by simp⟩ ?round ?done ?ret ?exit
    case ret =>
      rintro W ⟨_, s, hfd, hr, he, hB⟩
      have e1 : shortF a.s3 = some s := by
        unfold shortF
        rw [show a.s3.2.1.length = a.N.length from by simp [XP.s3]]
        exact hfd
      exact .inl ⟨.inr rfl, he.lt, fun W' hG => ⟨_, results_cc rfl rfl rfl (hG.boxed hr) (hG.boxed he), by rw [HA.out, e1], hB.trans (hG.below (Nat.le_refl _) hB.size)⟩⟩
    case exit =>
      rintro id W ⟨hc, _⟩
      cases hc
    case done =>
      rintro W ⟨hS, hall⟩
      rw [List.take_length] at hall
      have e1 : shortF a.s3 = none := by
        unfold shortF
        rw [show a.s3.2.1.length = a.N.length from by simp [XP.s3]]
        exact List.find?_eq_none.2 fun s hs => by simp [hall s hs]
      have HE := Lib.hid e1
      clear e1 hall it qS hSh
      have f1 := hS.r.cell
      have f2 := hS.r.frozen
      have f3 := hS.e.cell
      have f4 := hS.e.frozen
      show Exec _ _ _ _ _ _
      have g1 := boxed_set hS.r (vi 0)
      have g2 := boxed_far hS.e (b := w.heap.size + 1) (vi 0) (by omega)
      have g3 := g2.cell
      have g4 := g2.frozen
      refine exec_seq (exec_region_o fun ds => ?_)
      gi_wp2
      refine eq_mk (((Keep.refl _).setCell _ _).setCell _ _) ?_
      show Exec _ _ _ _ _ _
      have g5 := boxed_set g2 (vi 4)
      have g6 := boxed_far g1 (b := w.heap.size + 1 + 1) (vi 4) (by omega)
      have hB5 := (hS.below.setCell (p := ⟨w.heap.size + 1, 0, none⟩) (by show w.heap.size ≤ w.heap.size + 1; omega) (vi 0)).setCell (p := ⟨w.heap.size + 1 + 1, 0, none⟩) (by show w.heap.size ≤ w.heap.size + 1 + 1; omega) (vi 4)
      exact exec_ret (.inl ⟨.inr rfl, g5.lt, fun W' hG => ⟨_, results_cc rfl rfl rfl (hG.boxed g6) (hG.boxed g5), by rw [HA.out, HE.out], hB5.trans (hG.below (Nat.le_refl _) hB5.size)⟩⟩)
    case round =>
      clear it qS hSh
      rintro l1 k hk V hV ⟨hS, hall⟩
      refine exec_region_r fun ds => ?_
      gi_wp2
      refine eq_mk (Keep.refl _) ⟨rfl, Same.refl _ _, ?_⟩
      intro V1 hG hsz1
      have hS1 := hS.grow hG (by omega) hS.below.size
      obtain ⟨s, hs⟩ : ∃ s, (bySize a.N.length)[k]'hk = s := ⟨_, rfl⟩
      have hsm : s ∈ bySize a.N.length := by rw [← hs]; exact List.getElem_mem hk
      have hs64 : s < 64 := Nat.lt_of_lt_of_le (mem_bySize hsm) (show 2 ^ a.N.length ≤ 2 ^ 6 from Nat.pow_le_pow_right (by omega) (by omega))
      have HT : canV (toP (a.s3.only s)) = true → ∀ y ∈ (bySize a.N.length).take (k + 1), canV (toP (a.s3.only y)) = true := by
        intro hc y hy
        rw [List.take_succ_eq_append_getElem hk, List.mem_append, List.mem_singleton] at hy
        rcases hy with hy | hy
        · exact hall y hy
        · rw [hy, hs]; exact hc
      have HF : canV (toP (a.s3.only s)) = false → (bySize a.N.length).find? (fun s => !canV (toP (a.s3.only s))) = some s := by
        intro hc
        rw [← List.take_append_drop k (bySize a.N.length), List.find?_append, List.find?_eq_none.2 (fun y hy => by simp [hall y hy]), List.drop_eq_getElem_cons hk, hs]
        simp [hc]
      have H1 := Lib.hid HT
      have H2 := Lib.hid HF
      clear HT HF hall hsm hS hG hsz1
      simp only [hs]
      clear hs hV
      clear V
      have hu136 := Try.underlying136
      have hu83 := Try.underlying83
      refine exec_block (exec_seq ?_)
      have c0 : ∀ X, Below V1.heap.size V1 X → X.cell? ⟨w.heap.size, 0, none⟩ = some a.sL ∧ X.cell? ⟨w.heap.size, 1, none⟩ = some a.sN ∧ X.cell? ⟨w.heap.size, 2, none⟩ = some a.sK := fun X hX => ⟨cells_get (cs := [_, _, _]) (hS1.keep hX).p.heap rfl, cells_get (cs := [_, _, _]) (hS1.keep hX).p.heap rfl, cells_get (cs := [_, _, _]) (hS1.keep hX).p.heap rfl⟩
      refine region_of_tail 7 (by kernel_rfl) (by kernel_rfl) (by kernel_rfl) (fun X => Below V1.heap.size V1 X) (fun _ _ _ => False) (fun _ _ _ h => h.elim) fun ds => ?_
      have hS : Below V1.heap.size V1 V1.drew := (Below.refl _ V1).drew
      refine held_take 0 (.agg #[a.sL, a.sN, a.sK]) rfl (by kernel_rfl) (by kernel_rfl) (by kernel_rfl) (by intro _ _ _ h; first | exact h | (simpa [behind, Act.put] using h)) rfl (by first | exact hS | assumption) (fun wq hq => ?_) ?_; (focus (simp [go_sem, hu25, (c0 wq hq).1, (c0 wq hq).2.1, (c0 wq hq).2.2]; done)); simp only [Act.put, Array.getInternal_eq_getElem, List.take_succ_cons, List.take_zero, List.take_nil, List.getElem_toArray, List.getElem_cons_succ, List.getElem_cons_zero, List.setIfInBounds_toArray, List.set_cons_succ, List.set_cons_zero]
      refine held_take 1 (u64 s) rfl (by kernel_rfl) (by kernel_rfl) (by kernel_rfl) (by intro _ _ _ h; first | exact h | (simpa [behind, Act.put] using h)) rfl (by first | exact hS | assumption) (fun wq hq => ?_) ?_; (focus (first | rfl | (simp [go_sem]; done))); simp only [Act.put, Array.getInternal_eq_getElem, List.take_succ_cons, List.take_zero, List.take_nil, List.getElem_toArray, List.getElem_cons_succ, List.getElem_cons_zero, List.setIfInBounds_toArray, List.set_cons_succ, List.set_cons_zero]
      refine held_call 2 (f := 60) (args := #[u64 s]) rfl (by kernel_rfl) rfl (by simp [go_sem]) ?_
      refine (only60 s V1.drew).mono ?_
      rintro e X1 ⟨b1, rfl, hb1, hbx, hx1⟩
      have k1 : Below V1.heap.size V1 X1 := hS.trans hx1
      refine .inl ⟨_, rfl, k1, ?_⟩
      simp only [Act.put, Array.getInternal_eq_getElem, List.take_succ_cons, List.take_zero, List.take_nil, List.getElem_toArray, List.getElem_cons_succ, List.getElem_cons_zero, List.setIfInBounds_toArray, List.set_cons_succ, List.set_cons_zero]
      have h2 := (Below.refl X1.heap.size X1).alloc (Nat.le_refl _) (.cells #[.func (.func 108) #[] #[.pointer (some ⟨b1, 0, none⟩)]] 83)
      have bA := Boxed.new X1 83 (.func (.func 108) #[] #[.pointer (some ⟨b1, 0, none⟩)])
      have k2 : Below V1.heap.size V1 (X1.alloc (.cells #[.func (.func 108) #[] #[.pointer (some ⟨b1, 0, none⟩)]] 83)) := k1.trans (h2.mono k1.size)
      have bB : Boxed (X1.alloc (.cells #[.func (.func 108) #[] #[.pointer (some ⟨b1, 0, none⟩)]] 83)) b1 79 (u64 s) := (h2.block _ hbx.lt).trans hbx
      refine held_mk 3 (.slice (some ⟨X1.heap.size, 0, none⟩) 1 1) (X1.alloc (.cells #[.func (.func 108) #[] #[.pointer (some ⟨b1, 0, none⟩)]] 83)) rfl (by kernel_rfl) rfl (by simp [go_sem, hu136, hu83]) k2 ?_
      simp only [Act.put, Array.getInternal_eq_getElem, List.take_succ_cons, List.take_zero, List.take_nil, List.getElem_toArray, List.getElem_cons_succ, List.getElem_cons_zero, List.setIfInBounds_toArray, List.set_cons_succ, List.set_cons_zero]
      generalize X1.alloc (.cells #[.func (.func 108) #[] #[.pointer (some ⟨b1, 0, none⟩)]] 83) = X2 at *
      generalize X1.heap.size = bA' at *
      refine held_call 4 (f := 56) (args := #[.agg #[a.sL, a.sN, a.sK], .slice (some ⟨bA', 0, none⟩) 1 1]) rfl (by kernel_rfl) rfl (by simp [go_sem]) ?_
      refine (open_one a hf X2 (hS1.keep k2).p.at_ (only_chg (by omega) bB) trivial ((XP.good hf).only s) ⟨bA', 0, none⟩ bA.cell).mono ?_
      rintro e X3 ⟨pp, m, rfl, hpp, hx3, hP⟩
      have k3 := k2.trans (hx3.mono k2.size)
      refine .inl ⟨_, rfl, k3, ?_⟩
      simp only [Act.put, Array.getInternal_eq_getElem, List.take_succ_cons, List.take_zero, List.take_nil, List.getElem_toArray, List.getElem_cons_succ, List.getElem_cons_zero, List.setIfInBounds_toArray, List.set_cons_succ, List.set_cons_zero]
      refine held_call 5 (f := 61) (args := #[.pointer (some ⟨pp, 0, none⟩)]) rfl (by kernel_rfl) rfl (by simp [go_sem]) ?_
      refine (can61 hP).mono ?_
      rintro e X4 ⟨rfl, hx4⟩
      have k4 := k3.trans (hx4.mono k3.size)
      refine .inl ⟨_, rfl, k4, ?_⟩
      simp only [Act.put, Array.getInternal_eq_getElem, List.take_succ_cons, List.take_zero, List.take_nil, List.getElem_toArray, List.getElem_cons_succ, List.getElem_cons_zero, List.setIfInBounds_toArray, List.set_cons_succ, List.set_cons_zero]
      rw [show toP (a.s3.1, onlyN s a.s3.2.1, a.s3.2.2) = toP (a.s3.only s) from rfl]
      generalize canV (toP (a.s3.only s)) = z at *
      refine held_take 6 (.bool (!z)) rfl (by kernel_rfl) (by kernel_rfl) (by kernel_rfl) (by intro _ _ _ h; first | exact h | (simpa [behind, Act.put] using h)) rfl (by first | exact hS | assumption) (fun wq hq => ?_) ?_; (focus (simp [go_sem]; done)); simp only [Act.put, Array.getInternal_eq_getElem, List.take_succ_cons, List.take_zero, List.take_nil, List.getElem_toArray, List.getElem_cons_succ, List.getElem_cons_zero, List.setIfInBounds_toArray, List.set_cons_succ, List.set_cons_zero]
      refine held_done (by kernel_rfl) ?_
      refine any_done (by kernel_rfl) ⟨rfl, Keep.of_below k4, ?_⟩
      show Exec _ _ _ _ _ _
      have hS4 := hS1.keep k4
      cases z with
      | true =>
        refine exec_cond (b := false) rfl (fun h => by cases h) (fun _ => exec_skip ?_)
        exact ⟨fun q hq => by rw [hq]; exact k4.block bs hS1.s.lt, hS4, H1.out rfl⟩
      | false =>
        refine exec_cond (b := true) rfl (fun _ => ?_) (fun h => by cases h)
        have f1 := hS4.r.cell
        have f2 := hS4.r.frozen
        have hcv : IntKind.i64.wrap (s : Int) = (s : Int) := IntWalk.i64_in _ (by omega)
        have g1 := boxed_set hS4.r (vi s)
        have g2 := boxed_far hS4.e (b := w.heap.size + 1) (vi s) (by omega)
        have g3 := g2.cell
        have g4 := g2.frozen
        have g5 := boxed_set g2 (vi 0)
        have g6 := boxed_far g1 (b := w.heap.size + 1 + 1) (vi 0) (by omega)
        have hB5 := (hS4.below.setCell (p := ⟨w.heap.size + 1, 0, none⟩) (by show w.heap.size ≤ w.heap.size + 1; omega) (vi s)).setCell (p := ⟨w.heap.size + 1 + 1, 0, none⟩) (by show w.heap.size ≤ w.heap.size + 1 + 1; omega) (vi 0)
        refine exec_seq (exec_region_r fun ds => ?_)
        gi_wp2
        refine eq_mk (((Keep.refl _).setCell _ _).setCell _ _) ?_
        exact exec_ret ⟨rfl, s, H2.out trivial, g6, g5, hB5⟩
end Go.Proofs.Ytbdmmikflkpmpaa
end

section
namespace Go.Proofs.Ytbdmmikflkpmpaa
open Go.RowKit Go.TL Go.Shelf Go.Pn
attribute [local go_sem] Oper.semAt_some
attribute [local go_sem] run_store_func
theorem s3_loaded {x : S3} (h : x.Good) (j n : Nat) (hn : n ≤ 1000000) : (x.loaded j n).Good := by
  refine ⟨?_, h.p, h.k, ?_, h.nb, ?_, h.k2⟩
  · show (x.1.set j n).length ≤ 6
    rw [List.length_set]
    exact h.j
  · intro m hm
    rcases List.mem_or_eq_of_mem_set hm with hm | rfl
    · exact h.lb m hm
    · exact hn
  · intro k hk
    show k.1 < (x.1.set j n).length
    rw [List.length_set]
    exact h.k1 k hk
theorem s3_atMost {x : S3} (h : x.Good) (n : Nat) : (x.atMost n).Good := by
  refine ⟨?_, h.p, h.k, ?_, h.nb, ?_, h.k2⟩
  · show (x.1.map (min n)).length ≤ 6
    rw [List.length_map]
    exact h.j
  · intro m hm
    obtain ⟨y, hy, rfl⟩ := List.mem_map.1 hm
    have := h.lb y hy
    omega
  · intro k hk
    show k.1 < (x.1.map (min n)).length
    rw [List.length_map]
    exact h.k1 k hk
theorem s3_waive {x : S3} (h : x.Good) (s : Nat) : (x.waive s).Good := by
  refine ⟨h.j, h.p, Nat.le_trans (waiveTo_len s x.2.2 _) h.k, h.lb, h.nb, ?_, ?_⟩
  · intro k hk
    obtain ⟨i, _, hi⟩ := waiveK_mem.1 hk
    exact h.k1 k (List.mem_of_getElem? hi)
  · intro k hk
    obtain ⟨i, _, hi⟩ := waiveK_mem.1 hk
    exact h.k2 k (List.mem_of_getElem? hi)
set_option maxRecDepth 100000 in
set_option maxHeartbeats 1000000 in
theorem spared95 (a : XP) (hf : a.Fine) (j b : Nat) (hj : j < a.L.length) (w : World) (hb : PBx w b a) : Calls Try.prog 95 #[iv j, .pointer (some ⟨b, 0, none⟩)] w fun e w' => e = .returned (.bool (canV (toP (a.s3.loaded j 0)))) ∧ Below w.heap.size w w' := by
  have hu25 := Try.underlying25
  have hu136 := Try.underlying136
  have hu83 := Try.underlying83
  obtain ⟨z, hz⟩ : ∃ z, canV (toP (a.s3.loaded j 0)) = z := ⟨_, rfl⟩
  rw [hz]
  have HZ := Lib.hid hz
  clear hz
  refine calls_of_exec Try.func95 rfl ?_
  simp only [Try.ntmps95, List.size_toArray, List.length_cons, List.length_nil, Nat.reduceAdd, Nat.reduceSub, Array.replicate_succ, Array.replicate_zero, List.push_toArray, List.append_toArray, List.nil_append, List.cons_append]
  refine exec_seq (exec_region_o fun ds => ?_)
  gi_wp2
  refine eq_mk (Keep.refl _) ?_
  show Exec _ _ _ _ _ _
  have c0 : ∀ X, Below w.heap.size w X → X.cell? ⟨b, 0, none⟩ = some a.sL ∧ X.cell? ⟨b, 1, none⟩ = some a.sN ∧ X.cell? ⟨b, 2, none⟩ = some a.sK := fun X hX => ⟨cells_get (cs := [_, _, _]) (hb.keep hX).heap rfl, cells_get (cs := [_, _, _]) (hb.keep hX).heap rfl, cells_get (cs := [_, _, _]) (hb.keep hX).heap rfl⟩
  refine exec_seq (region_of_tail 6 (by kernel_rfl) (by kernel_rfl) (by kernel_rfl) (fun X => Below w.heap.size w X) (fun _ _ _ => False) (fun _ _ _ h => h.elim) fun ds => ?_)
  have hS : Below w.heap.size w w.drew := (Below.refl _ w).drew
  refine held_take 0 (.agg #[a.sL, a.sN, a.sK]) rfl (by kernel_rfl) (by kernel_rfl) (by kernel_rfl) (by intro _ _ _ h; first | exact h | (simpa [behind, Act.put] using h)) rfl (by first | exact hS | assumption) (fun wq hq => ?_) ?_; (focus (simp [go_sem, hu25, (c0 wq hq).1, (c0 wq hq).2.1, (c0 wq hq).2.2]; done)); simp only [Act.put, Array.getInternal_eq_getElem, List.take_succ_cons, List.take_zero, List.take_nil, List.getElem_toArray, List.getElem_cons_succ, List.getElem_cons_zero, List.setIfInBounds_toArray, List.set_cons_succ, List.set_cons_zero]
  refine held_take 1 (iv j) rfl (by kernel_rfl) (by kernel_rfl) (by kernel_rfl) (by intro _ _ _ h; first | exact h | (simpa [behind, Act.put] using h)) rfl (by first | exact hS | assumption) (fun wq hq => ?_) ?_; (focus (first | rfl | (simp [go_sem]; done))); simp only [Act.put, Array.getInternal_eq_getElem, List.take_succ_cons, List.take_zero, List.take_nil, List.getElem_toArray, List.getElem_cons_succ, List.getElem_cons_zero, List.setIfInBounds_toArray, List.set_cons_succ, List.set_cons_zero]
  refine held_call 2 (f := 96) (args := #[iv j, iv 0]) rfl (by kernel_rfl) rfl (by simp [go_sem]) ?_
  refine (loaded96 j 0 w.drew).mono ?_
  rintro e X1 ⟨b1, rfl, hb1, hbx, hby, hx1⟩
  have k1 : Below w.heap.size w X1 := hS.trans hx1
  refine .inl ⟨_, rfl, k1, ?_⟩
  simp only [Act.put, Array.getInternal_eq_getElem, List.take_succ_cons, List.take_zero, List.take_nil, List.getElem_toArray, List.getElem_cons_succ, List.getElem_cons_zero, List.setIfInBounds_toArray, List.set_cons_succ, List.set_cons_zero]
  have h2 := (Below.refl X1.heap.size X1).alloc (Nat.le_refl _) (.cells #[.func (.func 129) #[] #[.pointer (some ⟨b1 + 1, 0, none⟩), .pointer (some ⟨b1, 0, none⟩)]] 83)
  have bA := Boxed.new X1 83 (.func (.func 129) #[] #[.pointer (some ⟨b1 + 1, 0, none⟩), .pointer (some ⟨b1, 0, none⟩)])
  have k2 : Below w.heap.size w (X1.alloc (.cells #[.func (.func 129) #[] #[.pointer (some ⟨b1 + 1, 0, none⟩), .pointer (some ⟨b1, 0, none⟩)]] 83)) := k1.trans (h2.mono k1.size)
  have bB : Boxed (X1.alloc (.cells #[.func (.func 129) #[] #[.pointer (some ⟨b1 + 1, 0, none⟩), .pointer (some ⟨b1, 0, none⟩)]] 83)) b1 72 (iv j) := (h2.block _ hbx.lt).trans hbx
  have bC : Boxed (X1.alloc (.cells #[.func (.func 129) #[] #[.pointer (some ⟨b1 + 1, 0, none⟩), .pointer (some ⟨b1, 0, none⟩)]] 83)) (b1 + 1) 3 (iv 0) := (h2.block _ hby.lt).trans hby
  refine held_mk 3 (.slice (some ⟨X1.heap.size, 0, none⟩) 1 1) (X1.alloc (.cells #[.func (.func 129) #[] #[.pointer (some ⟨b1 + 1, 0, none⟩), .pointer (some ⟨b1, 0, none⟩)]] 83)) rfl (by kernel_rfl) rfl (by simp [go_sem, hu136, hu83]) k2 ?_
  simp only [Act.put, Array.getInternal_eq_getElem, List.take_succ_cons, List.take_zero, List.take_nil, List.getElem_toArray, List.getElem_cons_succ, List.getElem_cons_zero, List.setIfInBounds_toArray, List.set_cons_succ, List.set_cons_zero]
  generalize X1.alloc (.cells #[.func (.func 129) #[] #[.pointer (some ⟨b1 + 1, 0, none⟩), .pointer (some ⟨b1, 0, none⟩)]] 83) = X2 at *
  generalize X1.heap.size = bA' at *
  refine held_call 4 (f := 56) (args := #[.agg #[a.sL, a.sN, a.sK], .slice (some ⟨bA', 0, none⟩) 1 1]) rfl (by kernel_rfl) rfl (by simp [go_sem]) ?_
  refine (open_one a hf X2 (hb.keep k2).at_ (loaded_chg bB bC) (by simpa [XP.s3] using hj) (s3_loaded (XP.good hf) j 0 (by omega)) ⟨bA', 0, none⟩ bA.cell).mono ?_
  rintro e X3 ⟨pp, m, rfl, hpp, hx3, hP⟩
  have k3 := k2.trans (hx3.mono k2.size)
  refine .inl ⟨_, rfl, k3, ?_⟩
  simp only [Act.put, Array.getInternal_eq_getElem, List.take_succ_cons, List.take_zero, List.take_nil, List.getElem_toArray, List.getElem_cons_succ, List.getElem_cons_zero, List.setIfInBounds_toArray, List.set_cons_succ, List.set_cons_zero]
  refine held_call 5 (f := 61) (args := #[.pointer (some ⟨pp, 0, none⟩)]) rfl (by kernel_rfl) rfl (by simp [go_sem]) ?_
  refine (can61 hP).mono ?_
  rintro e X4 ⟨rfl, hx4⟩
  have k4 := k3.trans (hx4.mono k3.size)
  rw [HZ.out]
  refine .inl ⟨_, rfl, k4, ?_⟩
  simp only [Act.put, Array.getInternal_eq_getElem, List.take_succ_cons, List.take_zero, List.take_nil, List.getElem_toArray, List.getElem_cons_succ, List.getElem_cons_zero, List.setIfInBounds_toArray, List.set_cons_succ, List.set_cons_zero]
  refine held_done (by kernel_rfl) ?_
  refine behind_normal 1 (by kernel_rfl) ?_
  refine any_val 6 (.bool z) rfl (by kernel_rfl) rfl (by first | (simp [go_sem]; done) | rfl) ?_; simp only [Act.put, Array.getInternal_eq_getElem, List.take_succ_cons, List.take_zero, List.take_nil, List.getElem_toArray, List.getElem_cons_succ, List.getElem_cons_zero, List.setIfInBounds_toArray, List.set_cons_succ, List.set_cons_zero]
  refine any_done (by kernel_rfl) ⟨rfl, Keep.of_below k4, ?_⟩
  show Exec _ _ _ _ _ _
  exact exec_ret ⟨.inr rfl, fun W' hG => ⟨.bool z, by simp [results, Try.f95, go_sem], rfl, k4.trans (hG.below (Nat.le_refl _) k4.size)⟩⟩
set_option maxRecDepth 100000 in
set_option maxHeartbeats 1000000 in
theorem enough91 (a : XP) (hf : a.Fine) (s b : Nat) (hs : s < 2 ^ 64) (w : World) (hb : PBx w b a) : Calls Try.prog 91 #[u64 s, .pointer (some ⟨b, 0, none⟩)] w fun e w' => e = .returned (.bool (canV (toP (a.s3.waive s)))) ∧ Below w.heap.size w w' := by
  have hu25 := Try.underlying25
  have hu136 := Try.underlying136
  have hu83 := Try.underlying83
  obtain ⟨z, hz⟩ : ∃ z, canV (toP (a.s3.waive s)) = z := ⟨_, rfl⟩
  rw [hz]
  have HZ := Lib.hid hz
  clear hz
  refine calls_of_exec Try.func91 rfl ?_
  simp only [Try.ntmps91, List.size_toArray, List.length_cons, List.length_nil, Nat.reduceAdd, Nat.reduceSub, Array.replicate_succ, Array.replicate_zero, List.push_toArray, List.append_toArray, List.nil_append, List.cons_append]
  refine exec_seq (exec_region_o fun ds => ?_)
  gi_wp2
  refine eq_mk (Keep.refl _) ?_
  show Exec _ _ _ _ _ _
  have c0 : ∀ X, Below w.heap.size w X → X.cell? ⟨b, 0, none⟩ = some a.sL ∧ X.cell? ⟨b, 1, none⟩ = some a.sN ∧ X.cell? ⟨b, 2, none⟩ = some a.sK := fun X hX => ⟨cells_get (cs := [_, _, _]) (hb.keep hX).heap rfl, cells_get (cs := [_, _, _]) (hb.keep hX).heap rfl, cells_get (cs := [_, _, _]) (hb.keep hX).heap rfl⟩
  refine exec_seq (region_of_tail 6 (by kernel_rfl) (by kernel_rfl) (by kernel_rfl) (fun X => Below w.heap.size w X) (fun _ _ _ => False) (fun _ _ _ h => h.elim) fun ds => ?_)
  have hS : Below w.heap.size w w.drew := (Below.refl _ w).drew
  refine held_take 0 (.agg #[a.sL, a.sN, a.sK]) rfl (by kernel_rfl) (by kernel_rfl) (by kernel_rfl) (by intro _ _ _ h; first | exact h | (simpa [behind, Act.put] using h)) rfl (by first | exact hS | assumption) (fun wq hq => ?_) ?_; (focus (simp [go_sem, hu25, (c0 wq hq).1, (c0 wq hq).2.1, (c0 wq hq).2.2]; done)); simp only [Act.put, Array.getInternal_eq_getElem, List.take_succ_cons, List.take_zero, List.take_nil, List.getElem_toArray, List.getElem_cons_succ, List.getElem_cons_zero, List.setIfInBounds_toArray, List.set_cons_succ, List.set_cons_zero]
  refine held_take 1 (u64 s) rfl (by kernel_rfl) (by kernel_rfl) (by kernel_rfl) (by intro _ _ _ h; first | exact h | (simpa [behind, Act.put] using h)) rfl (by first | exact hS | assumption) (fun wq hq => ?_) ?_; (focus (first | rfl | (simp [go_sem]; done))); simp only [Act.put, Array.getInternal_eq_getElem, List.take_succ_cons, List.take_zero, List.take_nil, List.getElem_toArray, List.getElem_cons_succ, List.getElem_cons_zero, List.setIfInBounds_toArray, List.set_cons_succ, List.set_cons_zero]
  refine held_call 2 (f := 92) (args := #[u64 s]) rfl (by kernel_rfl) rfl (by simp [go_sem]) ?_
  refine (waived92 s w.drew).mono ?_
  rintro e X1 ⟨b1, rfl, hb1, hbx, hx1⟩
  have k1 : Below w.heap.size w X1 := hS.trans hx1
  refine .inl ⟨_, rfl, k1, ?_⟩
  simp only [Act.put, Array.getInternal_eq_getElem, List.take_succ_cons, List.take_zero, List.take_nil, List.getElem_toArray, List.getElem_cons_succ, List.getElem_cons_zero, List.setIfInBounds_toArray, List.set_cons_succ, List.set_cons_zero]
  have h2 := (Below.refl X1.heap.size X1).alloc (Nat.le_refl _) (.cells #[.func (.func 125) #[] #[.pointer (some ⟨b1, 0, none⟩)]] 83)
  have bA := Boxed.new X1 83 (.func (.func 125) #[] #[.pointer (some ⟨b1, 0, none⟩)])
  have k2 : Below w.heap.size w (X1.alloc (.cells #[.func (.func 125) #[] #[.pointer (some ⟨b1, 0, none⟩)]] 83)) := k1.trans (h2.mono k1.size)
  have bB : Boxed (X1.alloc (.cells #[.func (.func 125) #[] #[.pointer (some ⟨b1, 0, none⟩)]] 83)) b1 121 (u64 s) := (h2.block _ hbx.lt).trans hbx
  refine held_mk 3 (.slice (some ⟨X1.heap.size, 0, none⟩) 1 1) (X1.alloc (.cells #[.func (.func 125) #[] #[.pointer (some ⟨b1, 0, none⟩)]] 83)) rfl (by kernel_rfl) rfl (by simp [go_sem, hu136, hu83]) k2 ?_
  simp only [Act.put, Array.getInternal_eq_getElem, List.take_succ_cons, List.take_zero, List.take_nil, List.getElem_toArray, List.getElem_cons_succ, List.getElem_cons_zero, List.setIfInBounds_toArray, List.set_cons_succ, List.set_cons_zero]
  generalize X1.alloc (.cells #[.func (.func 125) #[] #[.pointer (some ⟨b1, 0, none⟩)]] 83) = X2 at *
  generalize X1.heap.size = bA' at *
  refine held_call 4 (f := 56) (args := #[.agg #[a.sL, a.sN, a.sK], .slice (some ⟨bA', 0, none⟩) 1 1]) rfl (by kernel_rfl) rfl (by simp [go_sem]) ?_
  refine (open_one a hf X2 (hb.keep k2).at_ (waived_chg hs bB) trivial (s3_waive (XP.good hf) s) ⟨bA', 0, none⟩ bA.cell).mono ?_
  rintro e X3 ⟨pp, m, rfl, hpp, hx3, hP⟩
  have k3 := k2.trans (hx3.mono k2.size)
  refine .inl ⟨_, rfl, k3, ?_⟩
  simp only [Act.put, Array.getInternal_eq_getElem, List.take_succ_cons, List.take_zero, List.take_nil, List.getElem_toArray, List.getElem_cons_succ, List.getElem_cons_zero, List.setIfInBounds_toArray, List.set_cons_succ, List.set_cons_zero]
  refine held_call 5 (f := 61) (args := #[.pointer (some ⟨pp, 0, none⟩)]) rfl (by kernel_rfl) rfl (by simp [go_sem]) ?_
  refine (can61 hP).mono ?_
  rintro e X4 ⟨rfl, hx4⟩
  have k4 := k3.trans (hx4.mono k3.size)
  rw [HZ.out]
  refine .inl ⟨_, rfl, k4, ?_⟩
  simp only [Act.put, Array.getInternal_eq_getElem, List.take_succ_cons, List.take_zero, List.take_nil, List.getElem_toArray, List.getElem_cons_succ, List.getElem_cons_zero, List.setIfInBounds_toArray, List.set_cons_succ, List.set_cons_zero]
  refine held_done (by kernel_rfl) ?_
  refine behind_normal 1 (by kernel_rfl) ?_
  refine any_val 6 (.bool z) rfl (by kernel_rfl) rfl (by first | (simp [go_sem]; done) | rfl) ?_; simp only [Act.put, Array.getInternal_eq_getElem, List.take_succ_cons, List.take_zero, List.take_nil, List.getElem_toArray, List.getElem_cons_succ, List.getElem_cons_zero, List.setIfInBounds_toArray, List.set_cons_succ, List.set_cons_zero]
  refine any_done (by kernel_rfl) ⟨rfl, Keep.of_below k4, ?_⟩
  show Exec _ _ _ _ _ _
  exact exec_ret ⟨.inr rfl, fun W' hG => ⟨.bool z, by simp [results, Try.f91, go_sem], rfl, k4.trans (hG.below (Nat.le_refl _) k4.size)⟩⟩
end Go.Proofs.Ytbdmmikflkpmpaa
end
