/- Parts of the proof: A furrow that is handed over; the program's test whether it is valid. The least bend, in plain Lean. Furrows in plain words: what can be is what some truth has; a way to compute it. Written by a program over the program's translation: functions' own Lean functions, and that the code comes to their answers. The document's furrow F: what can be said of it, computed. Which furrows a statement does not go through. The contracts of chapter 4's functions, over what a valid furrow is. -/
import Derived.Test.YtafmgmaelnpehaaProg
import Derived.Test.YtafmgmaelnpehaaTS2
import Derived.WalkKit
import Derived.WalkSpells
import Derived.WalkLawsBesides
import Derived.Outline
import Derived.OwnWalkIn
import Derived.TacticsInMore
import Derived.LoopNIn
import Derived.LoopIn
import Derived.Shelf.RegionOpen
import Derived.Deep.QuietTactic
import Derived.BigQuiet
import Derived.Test.YtafmgmaelnpehaaTS4
import Derived.Lib.Hide
import Derived.Maps.OwnIn
import Derived.Laws.OwnMore
import Derived.Laws.CopyRow
import Derived.Test.YtafmgmaelnpehaaTS1
set_option linter.unusedVariables false
set_option linter.unusedSimpArgs false
section
namespace Go.Proofs.Ytafmgmaelnpehaa
open Go.RowKit Go.TL Go.Shelf Go.Fu
attribute [local go_sem] Oper.semAt_some
open PFurrowAsks
abbrev Row (w : World) (A : Option Addr) (l : List S28) : Prop := Go.Proofs.YtafmgmaelnpehaaW.PrintWords.Kd.C k28 w A l.length l
theorem Row.grow {B : Nat} {w w' : World} {A : Option Addr} {l : List S28} (h : Row w A l) (hg : Grow B w w') : Row w' A l := by
  obtain ⟨h1, h2, h3⟩ := h
  refine ⟨h1, h2, fun hp => ?_⟩
  obtain ⟨ad, e, hc⟩ := h3 hp
  refine ⟨ad, e, fun j p hj => ?_⟩
  obtain ⟨c, hs, hk, hcell⟩ := hc j p hj
  obtain rfl := k28_open hk
  exact ⟨_, hs, k28_mk w' p, fun i u hu => hg.cell (hcell i u hu)⟩
structure Fur where
  A0 : Option Addr
  c0 : Nat
  l0 : List S28
  A1 : Option Addr
  c1 : Nat
  l1 : List S28
  A2 : Option Addr
  c2 : Nat
  l2 : List S28
def Fur.s0 (F : Fur) : Value := .slice F.A0 F.l0.length F.c0
def Fur.s1 (F : Fur) : Value := .slice F.A1 F.l1.length F.c1
def Fur.s2 (F : Fur) : Value := .slice F.A2 F.l2.length F.c2
def Fur.val (F : Fur) : Value := .agg #[F.s0, F.s1, F.s2]
structure Fur.At (F : Fur) (w : World) : Prop where
  r0 : Row w F.A0 F.l0
  h0 : F.l0.length ≤ F.c0
  r1 : Row w F.A1 F.l1
  h1 : F.l1.length ≤ F.c1
  r2 : Row w F.A2 F.l2
  h2 : F.l2.length ≤ F.c2
theorem Fur.At.grow {B : Nat} {F : Fur} {w w' : World} (h : F.At w) (hg : Grow B w w') : F.At w' := ⟨h.r0.grow hg, h.h0, h.r1.grow hg, h.h1, h.r2.grow hg, h.h2⟩
theorem Fur.At.below {F : Fur} {w w' : World} (h : F.At w) (hg : Below w.heap.size w w') : F.At w' := h.grow (Grow.of_below (B := 0) hg)
def Box3 (W : World) (B : Nat) (t : TypeId) (a b c : Value) : Prop := W.heap[B]? = some (.cells #[a, b, c] t (0, 0))
theorem Box3.cell0 {W : World} {B : Nat} {t : TypeId} {a b c : Value} (h : Box3 W B t a b c) : W.cell? ⟨B, 0, none⟩ = some a := by simp [World.cell?, show W.heap[B]? = _ from h]
theorem Box3.cell1 {W : World} {B : Nat} {t : TypeId} {a b c : Value} (h : Box3 W B t a b c) : W.cell? ⟨B, 1, none⟩ = some b := by simp [World.cell?, show W.heap[B]? = _ from h]
theorem Box3.cell2 {W : World} {B : Nat} {t : TypeId} {a b c : Value} (h : Box3 W B t a b c) : W.cell? ⟨B, 2, none⟩ = some c := by simp [World.cell?, show W.heap[B]? = _ from h]
theorem Box3.lt {W : World} {B : Nat} {t : TypeId} {a b c : Value} (h : Box3 W B t a b c) : B < W.heap.size := (Array.getElem?_eq_some_iff.1 h).1
theorem Box3.grow {B b : Nat} {t : TypeId} {x y z : Value} {W W' : World} (hb : Box3 W b t x y z) (h : Grow B W W') : Box3 W' b t x y z := h.same b _ hb (.inr rfl)
theorem Box3.new (W : World) (t : TypeId) (a b c : Value) : Box3 (W.alloc (.cells #[a, b, c] t)) W.heap.size t a b c := World.alloc_heap_new W _

def put2 (X : World) (b : Nat) (x y : Int) : World := (X.setCell ⟨b, 0, none⟩ (.int .i64 x)).setCell ⟨b, 1, none⟩ (.int .i64 y)
theorem _root_.Go.TL.Box2.put2 {X : World} {b : Nat} {t : TypeId} {p q : Int} (h : Box2 X b t p q) (x y : Int) : Box2 (Go.Proofs.Ytafmgmaelnpehaa.put2 X b x y) b t x y := by unfold Go.Proofs.Ytafmgmaelnpehaa.put2; (simp only [Boxed, Box2, heap_alloc_at, heap_set_at, World.size_alloc, World.size_setCell]; repeat (first | rfl | exact h | rw [if_pos (by omega)] | rw [if_neg (by omega)] | rw [show _ = _ from h]))
theorem _root_.Go.TL.Box2.put2_far {X : World} {b c : Nat} {t : TypeId} {p q : Int} (h : Box2 X c t p q) (hne : c ≠ b) (x y : Int) : Box2 (Go.Proofs.Ytafmgmaelnpehaa.put2 X b x y) c t p q :=
  (Below.heap_setCell _ _ _ _ hne).trans ((Below.heap_setCell _ _ _ _ hne).trans h)
theorem _root_.Go.RowKit.Below.put2 {n b : Nat} {W X : World} (h : Below n W X) (hb : n ≤ b) (x y : Int) : Below n W (Go.Proofs.Ytafmgmaelnpehaa.put2 X b x y) := (h.setCell (p := ⟨b, 0, none⟩) hb _).setCell (p := ⟨b, 1, none⟩) hb _
def Fur.Is (F : Fur) (b : Bool) : Prop := valid F.l0 F.l1 F.l2 = b
def IfI (F : Fur) (w : World) (j : Nat) (t : Array Value) (W : World) : Prop :=
  ∃ k : Nat, k ≤ F.l0.length ∧ j = F.l0.length - k ∧ F.At W ∧ Below w.heap.size w W ∧ Box3 W w.heap.size 24 F.s0 F.s1 F.s2 ∧ valid F.l0 F.l1 F.l2 = stsOk F.l0 F.l1 F.l2 k (F.l0.length - k) ∧
    Slots [none, some (.pointer (some ⟨w.heap.size, 0, none⟩)), none, none, none, none, none, none, none, none, none, none, none, none, none, none, none, none, none, none, none, none, none, none, none, none, none, some (.int .i64 F.l0.length), some (.int .i64 k), none, none, none, none, none, none, none, none, none, none, none, none, none, none, none, none, none, none, none, none, none, none, none, none, none, none, none, none, none, none, none, none, none, none, none, none, none, none, none, none, none, none] t
def IfM (F : Fur) (w : World) (k b5 b6 b7 : Nat) (t : Array Value) (W : World) : Prop :=
  F.At W ∧ Below w.heap.size w W ∧ Box3 W w.heap.size 24 F.s0 F.s1 F.s2 ∧ Box2 W b5 89 (rd_T28 F.l0 k).f0 (rd_T28 F.l0 k).f1 ∧ Box2 W b6 89 (rd_T28 F.l1 k).f0 (rd_T28 F.l1 k).f1 ∧ Box2 W b7 89 (rd_T28 F.l2 k).f0 (rd_T28 F.l2 k).f1 ∧
    Slots [none, some (.pointer (some ⟨w.heap.size, 0, none⟩)), none, none, none, some (.pointer (some ⟨b5, 0, none⟩)), some (.pointer (some ⟨b6, 0, none⟩)), some (.pointer (some ⟨b7, 0, none⟩)), none, none, none, none, none, none, none, none, none, none, none, none, none, none, none, none, none, none, none, some (.int .i64 F.l0.length), some (.int .i64 k), none, none, none, none, none, none, none, none, none, none, none, none, none, none, none, none, none, none, none, none, none, none, none, none, none, none, none, none, none, none, none, none, none, none, none, none, none, none, none, none, none, none] t
set_option maxRecDepth 100000 in
set_option maxHeartbeats 1000000 in
theorem isF_spans {F : Fur} {w W : World} {k : Nat} (hF : F.At W) (hB : Below w.heap.size w W) (h3 : Box3 W w.heap.size 24 F.s0 F.s1 F.s2) (k0 : k < F.l0.length) (k1 : k < F.l1.length) (k2 : k < F.l2.length) (t : Array Value)
    (hSl : Slots [none, some (.pointer (some ⟨w.heap.size, 0, none⟩)), none, none, some (.int .i64 k), none, none, none, none, none, none, none, none, none, none, none, none, none, none, none, none, none, none, none, none, none, none, some (.int .i64 F.l0.length), some (.int .i64 k), none, none, none, none, none, none, none, none, none, none, none, none, none, none, none, none, none, none, none, none, none, none, none, none, none, none, none, none, none, none, none, none, none, none, none, none, none, none, none, none, none, none] t) :
    Exec Try.prog none (sub (Try.f88.body.getD .skip) [1, 1, 1, 0, 1, 0, 0, 1, 1, 0, 0, 1, 0]) t W (andThen (fun t W => ∃ b5 b6 b7, IfM F w k b5 b6 b7 t W) fun _ _ _ => False) := by
  obtain ⟨x, hx⟩ := Slots.open_ hSl; simp only [fill, Nat.reduceAdd] at hx; subst hx; clear hSl
  obtain ⟨a0, hA0, c00, c01⟩ := at_T28 hF.r0 k (by omega) (by omega)
  obtain ⟨a1, hA1, c10, c11⟩ := at_T28 hF.r1 k (by omega) (by omega)
  obtain ⟨a2, hA2, c20, c21⟩ := at_T28 hF.r2 k (by omega) (by omega)
  simp only [Int.toNat_natCast] at c00 c01 c10 c11 c20 c21
  have e0 : F.s0 = .slice (some a0) F.l0.length F.c0 := by unfold Fur.s0; rw [hA0]
  have e1 : F.s1 = .slice (some a1) F.l1.length F.c1 := by unfold Fur.s1; rw [hA1]
  have e2 : F.s2 = .slice (some a2) F.l2.length F.c2 := by unfold Fur.s2; rw [hA2]
  have hF3 := h3
  rw [e0, e1, e2] at h3
  generalize hp0 : rd_T28 F.l0 k = p0 at *
  generalize hp1 : rd_T28 F.l1 k = p1 at *
  generalize hp2 : rd_T28 F.l2 k = p2 at *
  obtain ⟨x0, y0⟩ := p0
  obtain ⟨x1, y1⟩ := p1
  obtain ⟨x2, y2⟩ := p2
  simp only at c00 c01 c10 c11 c20 c21
  have g : ∀ {W' : World} {a : Addr} {v : Value}, Below W.heap.size W W' → W.cell? a = some v → W'.cell? a = some v := fun hb hc => (Grow.of_below (B := 0) hb).cell hc
  have hu22 := Try.underlying22
  have hu24 := Try.underlying24
  have hu28 := Try.underlying28
  have hu89 := Try.underlying89
  refine region_tree (c := (sub (Try.f88.body.getD .skip) [1, 1, 1, 0, 1, 0, 0, 1, 1, 0, 0, 1, 0])) (id := 7) (.one 0 true (.one 1 true (.one 2 true (.one 3 true (.one 4 true (.one 5 true (.one 6 true (.one 7 true (.one 8 true (.one 9 true (.one 10 true (.one 11 true (.one 12 true (.one 13 true (.one 14 true (.one 15 true (.one 16 true (.one 17 true (.three 18 19 20 (.two 19 20 (.one 20 false (.one 21 false (.one 22 false (.one 23 false (.nil))))) (.one 19 false (.one 21 false (.one 22 false (.one 23 false (.nil)))))) (.two 18 20 (.one 20 false (.one 21 false (.one 22 false (.one 23 false (.nil))))) (.one 18 false (.one 21 false (.one 22 false (.one 23 false (.nil)))))) (.two 18 19 (.one 19 false (.one 21 false (.one 22 false (.one 23 false (.nil))))) (.one 18 false (.one 21 false (.one 22 false (.one 23 false (.nil))))))))))))))))))))))))) (Opq (regOps (sub (Try.f88.body.getD .skip) [1, 1, 1, 0, 1, 0, 0, 1, 1, 0, 0, 1, 0]))) rfl (by kernel_rfl) (by kernel_rfl) (by kernel_rfl) (by kernel_rfl) (by kernel_rfl) (by kernel_rfl) [0, 1, 0, 6, 8, 16, 0, 64, 0, 384, 512, 1024, 0, 4096, 0, 24576, 32768, 65536, 0, 0, 0, 1835071, 3936255, 8388607] (by kernel_rfl) (by kernel_rfl) (fun W' => Below W.heap.size W W') (fun _ _ _ => False) (fun _ _ _ h => h.elim) (fun _ _ _ _ _ _ _ _ h => h.elim) fun ds Q' hQn hQp => ?_
  have hS : Below W.heap.size W W.drew := (Below.refl _ W).drew
  have d0 := h3.cell0
  have d1 := h3.cell1
  have d2 := h3.cell2
  obtain ⟨X, hX⟩ : ∃ X, X = (((W.drew.alloc (.cells #[.int .i64 0, .int .i64 0] 89)).alloc (.cells #[.int .i64 0, .int .i64 0] 89)).alloc (.cells #[.int .i64 0, .int .i64 0] 89)) := ⟨_, rfl⟩
  have hXb : Below W.heap.size W X := by rw [hX]; exact ((hS.alloc hS.size _).alloc (by simp) _).alloc (by simp; omega) _
  have hx0 : Box2 X W.heap.size 89 0 0 := by rw [hX]; show Box2 _ W.drew.heap.size 89 0 0; (simp only [Boxed, Box2, heap_alloc_at, heap_set_at, World.size_alloc, World.size_setCell]; repeat (first | rfl | rw [if_pos (by omega)] | rw [if_neg (by omega)]))
  have hx1 : Box2 X (W.heap.size + 1) 89 0 0 := by rw [hX]; show Box2 _ (W.drew.heap.size + 1) 89 0 0; (simp only [Boxed, Box2, heap_alloc_at, heap_set_at, World.size_alloc, World.size_setCell]; repeat (first | rfl | rw [if_pos (by omega)] | rw [if_neg (by omega)]))
  have hx2 : Box2 X (W.heap.size + 1 + 1) 89 0 0 := by rw [hX]; show Box2 _ (W.drew.heap.size + 1 + 1) 89 0 0; (simp only [Boxed, Box2, heap_alloc_at, heap_set_at, World.size_alloc, World.size_setCell]; repeat (first | rfl | rw [if_pos (by omega)] | rw [if_neg (by omega)]))
  refine tr_take ⟨(Op.fieldAddr 24 (Operand.tmp 1) 0), some 31, 0, true, none⟩ (.pointer (some ⟨w.heap.size, 0, none⟩)) (by kernel_rfl) rfl (by first | exact rfl | trivial) (fun wq hq => ?_) hS ?_; (focus (simp [go_sem, mkO]; done)); simp only [Act.put, Array.getInternal_eq_getElem, List.getElem_toArray, List.getElem_cons_succ, List.getElem_cons_zero, List.setIfInBounds_toArray, List.set_cons_succ, List.set_cons_zero]
  refine tr_take ⟨(Op.load 22 (Operand.tmp 31)), some 32, 22, true, none⟩ (.slice (some a0) F.l0.length F.c0) (by kernel_rfl) rfl (by first | exact rfl | trivial) (fun wq hq => ?_) hS ?_; (focus (simp [go_sem, mkO, g hq d0]; done)); simp only [Act.put, Array.getInternal_eq_getElem, List.getElem_toArray, List.getElem_cons_succ, List.getElem_cons_zero, List.setIfInBounds_toArray, List.set_cons_succ, List.set_cons_zero]
  refine tr_take ⟨(Op.move (Operand.tmp 4)), some 33, 3, true, none⟩ (.int .i64 k) (by kernel_rfl) rfl (by first | exact rfl | trivial) (fun wq hq => ?_) hS ?_; (focus (exact rfl)); simp only [Act.put, Array.getInternal_eq_getElem, List.getElem_toArray, List.getElem_cons_succ, List.getElem_cons_zero, List.setIfInBounds_toArray, List.set_cons_succ, List.set_cons_zero]
  refine tr_take ⟨(Op.indexAddr 22 (Operand.tmp 32) (Operand.tmp 33)), some 34, 0, true, none⟩ (.pointer (some (a0.add (k * 2)))) (by kernel_rfl) rfl (by first | exact rfl | trivial) (fun wq hq => ?_) hS ?_; (focus (simp [go_sem, mkO, hu22, k0]; done)); simp only [Act.put, Array.getInternal_eq_getElem, List.getElem_toArray, List.getElem_cons_succ, List.getElem_cons_zero, List.setIfInBounds_toArray, List.set_cons_succ, List.set_cons_zero]
  refine tr_take ⟨(Op.load 28 (Operand.tmp 34)), some 35, 28, true, none⟩ (.agg #[.int .i64 x0, .int .i64 y0]) (by kernel_rfl) rfl (by first | exact rfl | trivial) (fun wq hq => ?_) hS ?_; (focus (simp [go_sem, mkO, hu28, g hq c00, g hq c01]; done)); simp only [Act.put, Array.getInternal_eq_getElem, List.getElem_toArray, List.getElem_cons_succ, List.getElem_cons_zero, List.setIfInBounds_toArray, List.set_cons_succ, List.set_cons_zero]
  refine tr_take ⟨(Op.build 89 #[(0, (Operand.tmp 35))]), some 36, 89, true, none⟩ (.agg #[.int .i64 x0, .int .i64 y0]) (by kernel_rfl) rfl (by first | exact rfl | trivial) (fun wq hq => ?_) hS ?_; (focus (simp [go_sem, mkO, hu89, hu28]; done)); simp only [Act.put, Array.getInternal_eq_getElem, List.getElem_toArray, List.getElem_cons_succ, List.getElem_cons_zero, List.setIfInBounds_toArray, List.set_cons_succ, List.set_cons_zero]
  refine tr_take ⟨(Op.fieldAddr 24 (Operand.tmp 1) 1), some 37, 0, true, none⟩ (.pointer (some ⟨w.heap.size, 1, none⟩)) (by kernel_rfl) rfl (by first | exact rfl | trivial) (fun wq hq => ?_) hS ?_; (focus (simp [go_sem, mkO]; done)); simp only [Act.put, Array.getInternal_eq_getElem, List.getElem_toArray, List.getElem_cons_succ, List.getElem_cons_zero, List.setIfInBounds_toArray, List.set_cons_succ, List.set_cons_zero]
  refine tr_take ⟨(Op.load 22 (Operand.tmp 37)), some 38, 22, true, none⟩ (.slice (some a1) F.l1.length F.c1) (by kernel_rfl) rfl (by first | exact rfl | trivial) (fun wq hq => ?_) hS ?_; (focus (simp [go_sem, mkO, g hq d1]; done)); simp only [Act.put, Array.getInternal_eq_getElem, List.getElem_toArray, List.getElem_cons_succ, List.getElem_cons_zero, List.setIfInBounds_toArray, List.set_cons_succ, List.set_cons_zero]
  refine tr_take ⟨(Op.move (Operand.tmp 4)), some 39, 3, true, none⟩ (.int .i64 k) (by kernel_rfl) rfl (by first | exact rfl | trivial) (fun wq hq => ?_) hS ?_; (focus (exact rfl)); simp only [Act.put, Array.getInternal_eq_getElem, List.getElem_toArray, List.getElem_cons_succ, List.getElem_cons_zero, List.setIfInBounds_toArray, List.set_cons_succ, List.set_cons_zero]
  refine tr_take ⟨(Op.indexAddr 22 (Operand.tmp 38) (Operand.tmp 39)), some 40, 0, true, none⟩ (.pointer (some (a1.add (k * 2)))) (by kernel_rfl) rfl (by first | exact rfl | trivial) (fun wq hq => ?_) hS ?_; (focus (simp [go_sem, mkO, hu22, k1]; done)); simp only [Act.put, Array.getInternal_eq_getElem, List.getElem_toArray, List.getElem_cons_succ, List.getElem_cons_zero, List.setIfInBounds_toArray, List.set_cons_succ, List.set_cons_zero]
  refine tr_take ⟨(Op.load 28 (Operand.tmp 40)), some 41, 28, true, none⟩ (.agg #[.int .i64 x1, .int .i64 y1]) (by kernel_rfl) rfl (by first | exact rfl | trivial) (fun wq hq => ?_) hS ?_; (focus (simp [go_sem, mkO, hu28, g hq c10, g hq c11]; done)); simp only [Act.put, Array.getInternal_eq_getElem, List.getElem_toArray, List.getElem_cons_succ, List.getElem_cons_zero, List.setIfInBounds_toArray, List.set_cons_succ, List.set_cons_zero]
  refine tr_take ⟨(Op.build 89 #[(0, (Operand.tmp 41))]), some 42, 89, true, none⟩ (.agg #[.int .i64 x1, .int .i64 y1]) (by kernel_rfl) rfl (by first | exact rfl | trivial) (fun wq hq => ?_) hS ?_; (focus (simp [go_sem, mkO, hu89, hu28]; done)); simp only [Act.put, Array.getInternal_eq_getElem, List.getElem_toArray, List.getElem_cons_succ, List.getElem_cons_zero, List.setIfInBounds_toArray, List.set_cons_succ, List.set_cons_zero]
  refine tr_take ⟨(Op.fieldAddr 24 (Operand.tmp 1) 2), some 43, 0, true, none⟩ (.pointer (some ⟨w.heap.size, 2, none⟩)) (by kernel_rfl) rfl (by first | exact rfl | trivial) (fun wq hq => ?_) hS ?_; (focus (simp [go_sem, mkO]; done)); simp only [Act.put, Array.getInternal_eq_getElem, List.getElem_toArray, List.getElem_cons_succ, List.getElem_cons_zero, List.setIfInBounds_toArray, List.set_cons_succ, List.set_cons_zero]
  refine tr_take ⟨(Op.load 22 (Operand.tmp 43)), some 44, 22, true, none⟩ (.slice (some a2) F.l2.length F.c2) (by kernel_rfl) rfl (by first | exact rfl | trivial) (fun wq hq => ?_) hS ?_; (focus (simp [go_sem, mkO, g hq d2]; done)); simp only [Act.put, Array.getInternal_eq_getElem, List.getElem_toArray, List.getElem_cons_succ, List.getElem_cons_zero, List.setIfInBounds_toArray, List.set_cons_succ, List.set_cons_zero]
  refine tr_take ⟨(Op.move (Operand.tmp 4)), some 45, 3, true, none⟩ (.int .i64 k) (by kernel_rfl) rfl (by first | exact rfl | trivial) (fun wq hq => ?_) hS ?_; (focus (exact rfl)); simp only [Act.put, Array.getInternal_eq_getElem, List.getElem_toArray, List.getElem_cons_succ, List.getElem_cons_zero, List.setIfInBounds_toArray, List.set_cons_succ, List.set_cons_zero]
  refine tr_take ⟨(Op.indexAddr 22 (Operand.tmp 44) (Operand.tmp 45)), some 46, 0, true, none⟩ (.pointer (some (a2.add (k * 2)))) (by kernel_rfl) rfl (by first | exact rfl | trivial) (fun wq hq => ?_) hS ?_; (focus (simp [go_sem, mkO, hu22, k2]; done)); simp only [Act.put, Array.getInternal_eq_getElem, List.getElem_toArray, List.getElem_cons_succ, List.getElem_cons_zero, List.setIfInBounds_toArray, List.set_cons_succ, List.set_cons_zero]
  refine tr_take ⟨(Op.load 28 (Operand.tmp 46)), some 47, 28, true, none⟩ (.agg #[.int .i64 x2, .int .i64 y2]) (by kernel_rfl) rfl (by first | exact rfl | trivial) (fun wq hq => ?_) hS ?_; (focus (simp [go_sem, mkO, hu28, g hq c20, g hq c21]; done)); simp only [Act.put, Array.getInternal_eq_getElem, List.getElem_toArray, List.getElem_cons_succ, List.getElem_cons_zero, List.setIfInBounds_toArray, List.set_cons_succ, List.set_cons_zero]
  refine tr_take ⟨(Op.build 89 #[(0, (Operand.tmp 47))]), some 48, 89, true, none⟩ (.agg #[.int .i64 x2, .int .i64 y2]) (by kernel_rfl) rfl (by first | exact rfl | trivial) (fun wq hq => ?_) hS ?_; (focus (simp [go_sem, mkO, hu89, hu28]; done)); simp only [Act.put, Array.getInternal_eq_getElem, List.getElem_toArray, List.getElem_cons_succ, List.getElem_cons_zero, List.setIfInBounds_toArray, List.set_cons_succ, List.set_cons_zero]
  refine ⟨?_, ?_, ?_⟩
  · refine tr_make ⟨(Op.alloc 89), some 5, 0, false, none⟩ (.pointer (some ⟨W.heap.size, 0, none⟩)) (W.drew.alloc (.cells #[.int .i64 0, .int .i64 0] 89)) (by kernel_rfl) rfl (by first | exact rfl | trivial) (by simp [go_sem, mkO, hu89, hu28]) (hS.alloc hS.size _) ?_; simp only [Act.put, Array.getInternal_eq_getElem, List.getElem_toArray, List.getElem_cons_succ, List.getElem_cons_zero, List.setIfInBounds_toArray, List.set_cons_succ, List.set_cons_zero]
    replace hS := hS.alloc hS.size (.cells #[.int .i64 0, .int .i64 0] 89)
    refine ⟨?_, ?_⟩
    · refine tr_make ⟨(Op.alloc 89), some 6, 0, false, none⟩ (.pointer (some ⟨W.heap.size + 1, 0, none⟩)) ((W.drew.alloc (.cells #[.int .i64 0, .int .i64 0] 89)).alloc (.cells #[.int .i64 0, .int .i64 0] 89)) (by kernel_rfl) rfl (by first | exact rfl | trivial) (by simp [go_sem, mkO, hu89, hu28]) (hS.alloc hS.size _) ?_; simp only [Act.put, Array.getInternal_eq_getElem, List.getElem_toArray, List.getElem_cons_succ, List.getElem_cons_zero, List.setIfInBounds_toArray, List.set_cons_succ, List.set_cons_zero]
      replace hS := hS.alloc hS.size (.cells #[.int .i64 0, .int .i64 0] 89)
      refine tr_make ⟨(Op.alloc 89), some 7, 0, false, none⟩ (.pointer (some ⟨W.heap.size + 1 + 1, 0, none⟩)) (((W.drew.alloc (.cells #[.int .i64 0, .int .i64 0] 89)).alloc (.cells #[.int .i64 0, .int .i64 0] 89)).alloc (.cells #[.int .i64 0, .int .i64 0] 89)) (by kernel_rfl) rfl (by first | exact rfl | trivial) (by simp [go_sem, mkO, hu89, hu28]) (hS.alloc hS.size _) ?_; simp only [Act.put, Array.getInternal_eq_getElem, List.getElem_toArray, List.getElem_cons_succ, List.getElem_cons_zero, List.setIfInBounds_toArray, List.set_cons_succ, List.set_cons_zero]
      rw [← hX]
      replace hS := hXb
      have s0 := hx0.cell0
      have s1 := hx0.cell1
      have s2 := hx0.frozen
      refine tr_store ⟨(Op.store 89 (Operand.tmp 5) (Operand.tmp 36)), none, 0, false, none⟩ (put2 X (W.heap.size) x0 y0) (by kernel_rfl) rfl (by first | exact rfl | trivial) (by simp [go_sem, mkO, put2, s0, s1, s2, hu89, hu28]) (hS.put2 (by omega) _ _) ?_; simp only [Act.put, Array.getInternal_eq_getElem, List.getElem_toArray, List.getElem_cons_succ, List.getElem_cons_zero, List.setIfInBounds_toArray, List.set_cons_succ, List.set_cons_zero]
      clear s0 s1 s2
      replace hS := hS.put2 (b := W.heap.size) (by omega) x0 y0
      have k0_0 := hx0.put2 x0 y0
      have k0_1 := hx1.put2_far (b := W.heap.size) (by omega) x0 y0
      have k0_2 := hx2.put2_far (b := W.heap.size) (by omega) x0 y0
      generalize (put2 X (W.heap.size) x0 y0) = Y0 at *
      have s0 := k0_1.cell0
      have s1 := k0_1.cell1
      have s2 := k0_1.frozen
      refine tr_store ⟨(Op.store 89 (Operand.tmp 6) (Operand.tmp 42)), none, 0, false, none⟩ (put2 Y0 (W.heap.size + 1) x1 y1) (by kernel_rfl) rfl (by first | exact rfl | trivial) (by simp [go_sem, mkO, put2, s0, s1, s2, hu89, hu28]) (hS.put2 (by omega) _ _) ?_; simp only [Act.put, Array.getInternal_eq_getElem, List.getElem_toArray, List.getElem_cons_succ, List.getElem_cons_zero, List.setIfInBounds_toArray, List.set_cons_succ, List.set_cons_zero]
      clear s0 s1 s2
      replace hS := hS.put2 (b := W.heap.size + 1) (by omega) x1 y1
      have k1_0 := k0_0.put2_far (b := W.heap.size + 1) (by omega) x1 y1
      have k1_1 := k0_1.put2 x1 y1
      have k1_2 := k0_2.put2_far (b := W.heap.size + 1) (by omega) x1 y1
      generalize (put2 Y0 (W.heap.size + 1) x1 y1) = Y1 at *
      have s0 := k1_2.cell0
      have s1 := k1_2.cell1
      have s2 := k1_2.frozen
      refine tr_store ⟨(Op.store 89 (Operand.tmp 7) (Operand.tmp 48)), none, 0, false, none⟩ (put2 Y1 (W.heap.size + 1 + 1) x2 y2) (by kernel_rfl) rfl (by first | exact rfl | trivial) (by simp [go_sem, mkO, put2, s0, s1, s2, hu89, hu28]) (hS.put2 (by omega) _ _) ?_; simp only [Act.put, Array.getInternal_eq_getElem, List.getElem_toArray, List.getElem_cons_succ, List.getElem_cons_zero, List.setIfInBounds_toArray, List.set_cons_succ, List.set_cons_zero]
      clear s0 s1 s2
      replace hS := hS.put2 (b := W.heap.size + 1 + 1) (by omega) x2 y2
      have k2_0 := k1_0.put2_far (b := W.heap.size + 1 + 1) (by omega) x2 y2
      have k2_1 := k1_1.put2_far (b := W.heap.size + 1 + 1) (by omega) x2 y2
      have k2_2 := k1_2.put2 x2 y2
      generalize (put2 Y1 (W.heap.size + 1 + 1) x2 y2) = Y2 at *
      refine hQn _ _ (Keep.of_below hS) ⟨W.heap.size, W.heap.size + 1, W.heap.size + 1 + 1, hF.below hS, hB.trans (hS.mono hB.size), (hS.block _ hF3.lt).trans hF3, by rw [hp0]; exact k2_0, by rw [hp1]; exact k2_1, by rw [hp2]; exact k2_2, (by simp only [Slots, Fits, and_self])⟩
    · refine tr_make ⟨(Op.alloc 89), some 7, 0, false, none⟩ (.pointer (some ⟨W.heap.size + 1, 0, none⟩)) ((W.drew.alloc (.cells #[.int .i64 0, .int .i64 0] 89)).alloc (.cells #[.int .i64 0, .int .i64 0] 89)) (by kernel_rfl) rfl (by first | exact rfl | trivial) (by simp [go_sem, mkO, hu89, hu28]) (hS.alloc hS.size _) ?_; simp only [Act.put, Array.getInternal_eq_getElem, List.getElem_toArray, List.getElem_cons_succ, List.getElem_cons_zero, List.setIfInBounds_toArray, List.set_cons_succ, List.set_cons_zero]
      replace hS := hS.alloc hS.size (.cells #[.int .i64 0, .int .i64 0] 89)
      refine tr_make ⟨(Op.alloc 89), some 6, 0, false, none⟩ (.pointer (some ⟨W.heap.size + 1 + 1, 0, none⟩)) (((W.drew.alloc (.cells #[.int .i64 0, .int .i64 0] 89)).alloc (.cells #[.int .i64 0, .int .i64 0] 89)).alloc (.cells #[.int .i64 0, .int .i64 0] 89)) (by kernel_rfl) rfl (by first | exact rfl | trivial) (by simp [go_sem, mkO, hu89, hu28]) (hS.alloc hS.size _) ?_; simp only [Act.put, Array.getInternal_eq_getElem, List.getElem_toArray, List.getElem_cons_succ, List.getElem_cons_zero, List.setIfInBounds_toArray, List.set_cons_succ, List.set_cons_zero]
      rw [← hX]
      replace hS := hXb
      have s0 := hx0.cell0
      have s1 := hx0.cell1
      have s2 := hx0.frozen
      refine tr_store ⟨(Op.store 89 (Operand.tmp 5) (Operand.tmp 36)), none, 0, false, none⟩ (put2 X (W.heap.size) x0 y0) (by kernel_rfl) rfl (by first | exact rfl | trivial) (by simp [go_sem, mkO, put2, s0, s1, s2, hu89, hu28]) (hS.put2 (by omega) _ _) ?_; simp only [Act.put, Array.getInternal_eq_getElem, List.getElem_toArray, List.getElem_cons_succ, List.getElem_cons_zero, List.setIfInBounds_toArray, List.set_cons_succ, List.set_cons_zero]
      clear s0 s1 s2
      replace hS := hS.put2 (b := W.heap.size) (by omega) x0 y0
      have k0_0 := hx0.put2 x0 y0
      have k0_1 := hx1.put2_far (b := W.heap.size) (by omega) x0 y0
      have k0_2 := hx2.put2_far (b := W.heap.size) (by omega) x0 y0
      generalize (put2 X (W.heap.size) x0 y0) = Y0 at *
      have s0 := k0_2.cell0
      have s1 := k0_2.cell1
      have s2 := k0_2.frozen
      refine tr_store ⟨(Op.store 89 (Operand.tmp 6) (Operand.tmp 42)), none, 0, false, none⟩ (put2 Y0 (W.heap.size + 1 + 1) x1 y1) (by kernel_rfl) rfl (by first | exact rfl | trivial) (by simp [go_sem, mkO, put2, s0, s1, s2, hu89, hu28]) (hS.put2 (by omega) _ _) ?_; simp only [Act.put, Array.getInternal_eq_getElem, List.getElem_toArray, List.getElem_cons_succ, List.getElem_cons_zero, List.setIfInBounds_toArray, List.set_cons_succ, List.set_cons_zero]
      clear s0 s1 s2
      replace hS := hS.put2 (b := W.heap.size + 1 + 1) (by omega) x1 y1
      have k1_0 := k0_0.put2_far (b := W.heap.size + 1 + 1) (by omega) x1 y1
      have k1_1 := k0_1.put2_far (b := W.heap.size + 1 + 1) (by omega) x1 y1
      have k1_2 := k0_2.put2 x1 y1
      generalize (put2 Y0 (W.heap.size + 1 + 1) x1 y1) = Y1 at *
      have s0 := k1_1.cell0
      have s1 := k1_1.cell1
      have s2 := k1_1.frozen
      refine tr_store ⟨(Op.store 89 (Operand.tmp 7) (Operand.tmp 48)), none, 0, false, none⟩ (put2 Y1 (W.heap.size + 1) x2 y2) (by kernel_rfl) rfl (by first | exact rfl | trivial) (by simp [go_sem, mkO, put2, s0, s1, s2, hu89, hu28]) (hS.put2 (by omega) _ _) ?_; simp only [Act.put, Array.getInternal_eq_getElem, List.getElem_toArray, List.getElem_cons_succ, List.getElem_cons_zero, List.setIfInBounds_toArray, List.set_cons_succ, List.set_cons_zero]
      clear s0 s1 s2
      replace hS := hS.put2 (b := W.heap.size + 1) (by omega) x2 y2
      have k2_0 := k1_0.put2_far (b := W.heap.size + 1) (by omega) x2 y2
      have k2_1 := k1_1.put2 x2 y2
      have k2_2 := k1_2.put2_far (b := W.heap.size + 1) (by omega) x2 y2
      generalize (put2 Y1 (W.heap.size + 1) x2 y2) = Y2 at *
      refine hQn _ _ (Keep.of_below hS) ⟨W.heap.size, W.heap.size + 1 + 1, W.heap.size + 1, hF.below hS, hB.trans (hS.mono hB.size), (hS.block _ hF3.lt).trans hF3, by rw [hp0]; exact k2_0, by rw [hp1]; exact k2_2, by rw [hp2]; exact k2_1, (by simp only [Slots, Fits, and_self])⟩
  · refine tr_make ⟨(Op.alloc 89), some 6, 0, false, none⟩ (.pointer (some ⟨W.heap.size, 0, none⟩)) (W.drew.alloc (.cells #[.int .i64 0, .int .i64 0] 89)) (by kernel_rfl) rfl (by first | exact rfl | trivial) (by simp [go_sem, mkO, hu89, hu28]) (hS.alloc hS.size _) ?_; simp only [Act.put, Array.getInternal_eq_getElem, List.getElem_toArray, List.getElem_cons_succ, List.getElem_cons_zero, List.setIfInBounds_toArray, List.set_cons_succ, List.set_cons_zero]
    replace hS := hS.alloc hS.size (.cells #[.int .i64 0, .int .i64 0] 89)
    refine ⟨?_, ?_⟩
    · refine tr_make ⟨(Op.alloc 89), some 5, 0, false, none⟩ (.pointer (some ⟨W.heap.size + 1, 0, none⟩)) ((W.drew.alloc (.cells #[.int .i64 0, .int .i64 0] 89)).alloc (.cells #[.int .i64 0, .int .i64 0] 89)) (by kernel_rfl) rfl (by first | exact rfl | trivial) (by simp [go_sem, mkO, hu89, hu28]) (hS.alloc hS.size _) ?_; simp only [Act.put, Array.getInternal_eq_getElem, List.getElem_toArray, List.getElem_cons_succ, List.getElem_cons_zero, List.setIfInBounds_toArray, List.set_cons_succ, List.set_cons_zero]
      replace hS := hS.alloc hS.size (.cells #[.int .i64 0, .int .i64 0] 89)
      refine tr_make ⟨(Op.alloc 89), some 7, 0, false, none⟩ (.pointer (some ⟨W.heap.size + 1 + 1, 0, none⟩)) (((W.drew.alloc (.cells #[.int .i64 0, .int .i64 0] 89)).alloc (.cells #[.int .i64 0, .int .i64 0] 89)).alloc (.cells #[.int .i64 0, .int .i64 0] 89)) (by kernel_rfl) rfl (by first | exact rfl | trivial) (by simp [go_sem, mkO, hu89, hu28]) (hS.alloc hS.size _) ?_; simp only [Act.put, Array.getInternal_eq_getElem, List.getElem_toArray, List.getElem_cons_succ, List.getElem_cons_zero, List.setIfInBounds_toArray, List.set_cons_succ, List.set_cons_zero]
      rw [← hX]
      replace hS := hXb
      have s0 := hx1.cell0
      have s1 := hx1.cell1
      have s2 := hx1.frozen
      refine tr_store ⟨(Op.store 89 (Operand.tmp 5) (Operand.tmp 36)), none, 0, false, none⟩ (put2 X (W.heap.size + 1) x0 y0) (by kernel_rfl) rfl (by first | exact rfl | trivial) (by simp [go_sem, mkO, put2, s0, s1, s2, hu89, hu28]) (hS.put2 (by omega) _ _) ?_; simp only [Act.put, Array.getInternal_eq_getElem, List.getElem_toArray, List.getElem_cons_succ, List.getElem_cons_zero, List.setIfInBounds_toArray, List.set_cons_succ, List.set_cons_zero]
      clear s0 s1 s2
      replace hS := hS.put2 (b := W.heap.size + 1) (by omega) x0 y0
      have k0_0 := hx0.put2_far (b := W.heap.size + 1) (by omega) x0 y0
      have k0_1 := hx1.put2 x0 y0
      have k0_2 := hx2.put2_far (b := W.heap.size + 1) (by omega) x0 y0
      generalize (put2 X (W.heap.size + 1) x0 y0) = Y0 at *
      have s0 := k0_0.cell0
      have s1 := k0_0.cell1
      have s2 := k0_0.frozen
      refine tr_store ⟨(Op.store 89 (Operand.tmp 6) (Operand.tmp 42)), none, 0, false, none⟩ (put2 Y0 (W.heap.size) x1 y1) (by kernel_rfl) rfl (by first | exact rfl | trivial) (by simp [go_sem, mkO, put2, s0, s1, s2, hu89, hu28]) (hS.put2 (by omega) _ _) ?_; simp only [Act.put, Array.getInternal_eq_getElem, List.getElem_toArray, List.getElem_cons_succ, List.getElem_cons_zero, List.setIfInBounds_toArray, List.set_cons_succ, List.set_cons_zero]
      clear s0 s1 s2
      replace hS := hS.put2 (b := W.heap.size) (by omega) x1 y1
      have k1_0 := k0_0.put2 x1 y1
      have k1_1 := k0_1.put2_far (b := W.heap.size) (by omega) x1 y1
      have k1_2 := k0_2.put2_far (b := W.heap.size) (by omega) x1 y1
      generalize (put2 Y0 (W.heap.size) x1 y1) = Y1 at *
      have s0 := k1_2.cell0
      have s1 := k1_2.cell1
      have s2 := k1_2.frozen
      refine tr_store ⟨(Op.store 89 (Operand.tmp 7) (Operand.tmp 48)), none, 0, false, none⟩ (put2 Y1 (W.heap.size + 1 + 1) x2 y2) (by kernel_rfl) rfl (by first | exact rfl | trivial) (by simp [go_sem, mkO, put2, s0, s1, s2, hu89, hu28]) (hS.put2 (by omega) _ _) ?_; simp only [Act.put, Array.getInternal_eq_getElem, List.getElem_toArray, List.getElem_cons_succ, List.getElem_cons_zero, List.setIfInBounds_toArray, List.set_cons_succ, List.set_cons_zero]
      clear s0 s1 s2
      replace hS := hS.put2 (b := W.heap.size + 1 + 1) (by omega) x2 y2
      have k2_0 := k1_0.put2_far (b := W.heap.size + 1 + 1) (by omega) x2 y2
      have k2_1 := k1_1.put2_far (b := W.heap.size + 1 + 1) (by omega) x2 y2
      have k2_2 := k1_2.put2 x2 y2
      generalize (put2 Y1 (W.heap.size + 1 + 1) x2 y2) = Y2 at *
      refine hQn _ _ (Keep.of_below hS) ⟨W.heap.size + 1, W.heap.size, W.heap.size + 1 + 1, hF.below hS, hB.trans (hS.mono hB.size), (hS.block _ hF3.lt).trans hF3, by rw [hp0]; exact k2_1, by rw [hp1]; exact k2_0, by rw [hp2]; exact k2_2, (by simp only [Slots, Fits, and_self])⟩
    · refine tr_make ⟨(Op.alloc 89), some 7, 0, false, none⟩ (.pointer (some ⟨W.heap.size + 1, 0, none⟩)) ((W.drew.alloc (.cells #[.int .i64 0, .int .i64 0] 89)).alloc (.cells #[.int .i64 0, .int .i64 0] 89)) (by kernel_rfl) rfl (by first | exact rfl | trivial) (by simp [go_sem, mkO, hu89, hu28]) (hS.alloc hS.size _) ?_; simp only [Act.put, Array.getInternal_eq_getElem, List.getElem_toArray, List.getElem_cons_succ, List.getElem_cons_zero, List.setIfInBounds_toArray, List.set_cons_succ, List.set_cons_zero]
      replace hS := hS.alloc hS.size (.cells #[.int .i64 0, .int .i64 0] 89)
      refine tr_make ⟨(Op.alloc 89), some 5, 0, false, none⟩ (.pointer (some ⟨W.heap.size + 1 + 1, 0, none⟩)) (((W.drew.alloc (.cells #[.int .i64 0, .int .i64 0] 89)).alloc (.cells #[.int .i64 0, .int .i64 0] 89)).alloc (.cells #[.int .i64 0, .int .i64 0] 89)) (by kernel_rfl) rfl (by first | exact rfl | trivial) (by simp [go_sem, mkO, hu89, hu28]) (hS.alloc hS.size _) ?_; simp only [Act.put, Array.getInternal_eq_getElem, List.getElem_toArray, List.getElem_cons_succ, List.getElem_cons_zero, List.setIfInBounds_toArray, List.set_cons_succ, List.set_cons_zero]
      rw [← hX]
      replace hS := hXb
      have s0 := hx2.cell0
      have s1 := hx2.cell1
      have s2 := hx2.frozen
      refine tr_store ⟨(Op.store 89 (Operand.tmp 5) (Operand.tmp 36)), none, 0, false, none⟩ (put2 X (W.heap.size + 1 + 1) x0 y0) (by kernel_rfl) rfl (by first | exact rfl | trivial) (by simp [go_sem, mkO, put2, s0, s1, s2, hu89, hu28]) (hS.put2 (by omega) _ _) ?_; simp only [Act.put, Array.getInternal_eq_getElem, List.getElem_toArray, List.getElem_cons_succ, List.getElem_cons_zero, List.setIfInBounds_toArray, List.set_cons_succ, List.set_cons_zero]
      clear s0 s1 s2
      replace hS := hS.put2 (b := W.heap.size + 1 + 1) (by omega) x0 y0
      have k0_0 := hx0.put2_far (b := W.heap.size + 1 + 1) (by omega) x0 y0
      have k0_1 := hx1.put2_far (b := W.heap.size + 1 + 1) (by omega) x0 y0
      have k0_2 := hx2.put2 x0 y0
      generalize (put2 X (W.heap.size + 1 + 1) x0 y0) = Y0 at *
      have s0 := k0_0.cell0
      have s1 := k0_0.cell1
      have s2 := k0_0.frozen
      refine tr_store ⟨(Op.store 89 (Operand.tmp 6) (Operand.tmp 42)), none, 0, false, none⟩ (put2 Y0 (W.heap.size) x1 y1) (by kernel_rfl) rfl (by first | exact rfl | trivial) (by simp [go_sem, mkO, put2, s0, s1, s2, hu89, hu28]) (hS.put2 (by omega) _ _) ?_; simp only [Act.put, Array.getInternal_eq_getElem, List.getElem_toArray, List.getElem_cons_succ, List.getElem_cons_zero, List.setIfInBounds_toArray, List.set_cons_succ, List.set_cons_zero]
      clear s0 s1 s2
      replace hS := hS.put2 (b := W.heap.size) (by omega) x1 y1
      have k1_0 := k0_0.put2 x1 y1
      have k1_1 := k0_1.put2_far (b := W.heap.size) (by omega) x1 y1
      have k1_2 := k0_2.put2_far (b := W.heap.size) (by omega) x1 y1
      generalize (put2 Y0 (W.heap.size) x1 y1) = Y1 at *
      have s0 := k1_1.cell0
      have s1 := k1_1.cell1
      have s2 := k1_1.frozen
      refine tr_store ⟨(Op.store 89 (Operand.tmp 7) (Operand.tmp 48)), none, 0, false, none⟩ (put2 Y1 (W.heap.size + 1) x2 y2) (by kernel_rfl) rfl (by first | exact rfl | trivial) (by simp [go_sem, mkO, put2, s0, s1, s2, hu89, hu28]) (hS.put2 (by omega) _ _) ?_; simp only [Act.put, Array.getInternal_eq_getElem, List.getElem_toArray, List.getElem_cons_succ, List.getElem_cons_zero, List.setIfInBounds_toArray, List.set_cons_succ, List.set_cons_zero]
      clear s0 s1 s2
      replace hS := hS.put2 (b := W.heap.size + 1) (by omega) x2 y2
      have k2_0 := k1_0.put2_far (b := W.heap.size + 1) (by omega) x2 y2
      have k2_1 := k1_1.put2 x2 y2
      have k2_2 := k1_2.put2_far (b := W.heap.size + 1) (by omega) x2 y2
      generalize (put2 Y1 (W.heap.size + 1) x2 y2) = Y2 at *
      refine hQn _ _ (Keep.of_below hS) ⟨W.heap.size + 1 + 1, W.heap.size, W.heap.size + 1, hF.below hS, hB.trans (hS.mono hB.size), (hS.block _ hF3.lt).trans hF3, by rw [hp0]; exact k2_2, by rw [hp1]; exact k2_0, by rw [hp2]; exact k2_1, (by simp only [Slots, Fits, and_self])⟩
  · refine tr_make ⟨(Op.alloc 89), some 7, 0, false, none⟩ (.pointer (some ⟨W.heap.size, 0, none⟩)) (W.drew.alloc (.cells #[.int .i64 0, .int .i64 0] 89)) (by kernel_rfl) rfl (by first | exact rfl | trivial) (by simp [go_sem, mkO, hu89, hu28]) (hS.alloc hS.size _) ?_; simp only [Act.put, Array.getInternal_eq_getElem, List.getElem_toArray, List.getElem_cons_succ, List.getElem_cons_zero, List.setIfInBounds_toArray, List.set_cons_succ, List.set_cons_zero]
    replace hS := hS.alloc hS.size (.cells #[.int .i64 0, .int .i64 0] 89)
    refine ⟨?_, ?_⟩
    · refine tr_make ⟨(Op.alloc 89), some 5, 0, false, none⟩ (.pointer (some ⟨W.heap.size + 1, 0, none⟩)) ((W.drew.alloc (.cells #[.int .i64 0, .int .i64 0] 89)).alloc (.cells #[.int .i64 0, .int .i64 0] 89)) (by kernel_rfl) rfl (by first | exact rfl | trivial) (by simp [go_sem, mkO, hu89, hu28]) (hS.alloc hS.size _) ?_; simp only [Act.put, Array.getInternal_eq_getElem, List.getElem_toArray, List.getElem_cons_succ, List.getElem_cons_zero, List.setIfInBounds_toArray, List.set_cons_succ, List.set_cons_zero]
      replace hS := hS.alloc hS.size (.cells #[.int .i64 0, .int .i64 0] 89)
      refine tr_make ⟨(Op.alloc 89), some 6, 0, false, none⟩ (.pointer (some ⟨W.heap.size + 1 + 1, 0, none⟩)) (((W.drew.alloc (.cells #[.int .i64 0, .int .i64 0] 89)).alloc (.cells #[.int .i64 0, .int .i64 0] 89)).alloc (.cells #[.int .i64 0, .int .i64 0] 89)) (by kernel_rfl) rfl (by first | exact rfl | trivial) (by simp [go_sem, mkO, hu89, hu28]) (hS.alloc hS.size _) ?_; simp only [Act.put, Array.getInternal_eq_getElem, List.getElem_toArray, List.getElem_cons_succ, List.getElem_cons_zero, List.setIfInBounds_toArray, List.set_cons_succ, List.set_cons_zero]
      rw [← hX]
      replace hS := hXb
      have s0 := hx1.cell0
      have s1 := hx1.cell1
      have s2 := hx1.frozen
      refine tr_store ⟨(Op.store 89 (Operand.tmp 5) (Operand.tmp 36)), none, 0, false, none⟩ (put2 X (W.heap.size + 1) x0 y0) (by kernel_rfl) rfl (by first | exact rfl | trivial) (by simp [go_sem, mkO, put2, s0, s1, s2, hu89, hu28]) (hS.put2 (by omega) _ _) ?_; simp only [Act.put, Array.getInternal_eq_getElem, List.getElem_toArray, List.getElem_cons_succ, List.getElem_cons_zero, List.setIfInBounds_toArray, List.set_cons_succ, List.set_cons_zero]
      clear s0 s1 s2
      replace hS := hS.put2 (b := W.heap.size + 1) (by omega) x0 y0
      have k0_0 := hx0.put2_far (b := W.heap.size + 1) (by omega) x0 y0
      have k0_1 := hx1.put2 x0 y0
      have k0_2 := hx2.put2_far (b := W.heap.size + 1) (by omega) x0 y0
      generalize (put2 X (W.heap.size + 1) x0 y0) = Y0 at *
      have s0 := k0_2.cell0
      have s1 := k0_2.cell1
      have s2 := k0_2.frozen
      refine tr_store ⟨(Op.store 89 (Operand.tmp 6) (Operand.tmp 42)), none, 0, false, none⟩ (put2 Y0 (W.heap.size + 1 + 1) x1 y1) (by kernel_rfl) rfl (by first | exact rfl | trivial) (by simp [go_sem, mkO, put2, s0, s1, s2, hu89, hu28]) (hS.put2 (by omega) _ _) ?_; simp only [Act.put, Array.getInternal_eq_getElem, List.getElem_toArray, List.getElem_cons_succ, List.getElem_cons_zero, List.setIfInBounds_toArray, List.set_cons_succ, List.set_cons_zero]
      clear s0 s1 s2
      replace hS := hS.put2 (b := W.heap.size + 1 + 1) (by omega) x1 y1
      have k1_0 := k0_0.put2_far (b := W.heap.size + 1 + 1) (by omega) x1 y1
      have k1_1 := k0_1.put2_far (b := W.heap.size + 1 + 1) (by omega) x1 y1
      have k1_2 := k0_2.put2 x1 y1
      generalize (put2 Y0 (W.heap.size + 1 + 1) x1 y1) = Y1 at *
      have s0 := k1_0.cell0
      have s1 := k1_0.cell1
      have s2 := k1_0.frozen
      refine tr_store ⟨(Op.store 89 (Operand.tmp 7) (Operand.tmp 48)), none, 0, false, none⟩ (put2 Y1 (W.heap.size) x2 y2) (by kernel_rfl) rfl (by first | exact rfl | trivial) (by simp [go_sem, mkO, put2, s0, s1, s2, hu89, hu28]) (hS.put2 (by omega) _ _) ?_; simp only [Act.put, Array.getInternal_eq_getElem, List.getElem_toArray, List.getElem_cons_succ, List.getElem_cons_zero, List.setIfInBounds_toArray, List.set_cons_succ, List.set_cons_zero]
      clear s0 s1 s2
      replace hS := hS.put2 (b := W.heap.size) (by omega) x2 y2
      have k2_0 := k1_0.put2 x2 y2
      have k2_1 := k1_1.put2_far (b := W.heap.size) (by omega) x2 y2
      have k2_2 := k1_2.put2_far (b := W.heap.size) (by omega) x2 y2
      generalize (put2 Y1 (W.heap.size) x2 y2) = Y2 at *
      refine hQn _ _ (Keep.of_below hS) ⟨W.heap.size + 1, W.heap.size + 1 + 1, W.heap.size, hF.below hS, hB.trans (hS.mono hB.size), (hS.block _ hF3.lt).trans hF3, by rw [hp0]; exact k2_1, by rw [hp1]; exact k2_2, by rw [hp2]; exact k2_0, (by simp only [Slots, Fits, and_self])⟩
    · refine tr_make ⟨(Op.alloc 89), some 6, 0, false, none⟩ (.pointer (some ⟨W.heap.size + 1, 0, none⟩)) ((W.drew.alloc (.cells #[.int .i64 0, .int .i64 0] 89)).alloc (.cells #[.int .i64 0, .int .i64 0] 89)) (by kernel_rfl) rfl (by first | exact rfl | trivial) (by simp [go_sem, mkO, hu89, hu28]) (hS.alloc hS.size _) ?_; simp only [Act.put, Array.getInternal_eq_getElem, List.getElem_toArray, List.getElem_cons_succ, List.getElem_cons_zero, List.setIfInBounds_toArray, List.set_cons_succ, List.set_cons_zero]
      replace hS := hS.alloc hS.size (.cells #[.int .i64 0, .int .i64 0] 89)
      refine tr_make ⟨(Op.alloc 89), some 5, 0, false, none⟩ (.pointer (some ⟨W.heap.size + 1 + 1, 0, none⟩)) (((W.drew.alloc (.cells #[.int .i64 0, .int .i64 0] 89)).alloc (.cells #[.int .i64 0, .int .i64 0] 89)).alloc (.cells #[.int .i64 0, .int .i64 0] 89)) (by kernel_rfl) rfl (by first | exact rfl | trivial) (by simp [go_sem, mkO, hu89, hu28]) (hS.alloc hS.size _) ?_; simp only [Act.put, Array.getInternal_eq_getElem, List.getElem_toArray, List.getElem_cons_succ, List.getElem_cons_zero, List.setIfInBounds_toArray, List.set_cons_succ, List.set_cons_zero]
      rw [← hX]
      replace hS := hXb
      have s0 := hx2.cell0
      have s1 := hx2.cell1
      have s2 := hx2.frozen
      refine tr_store ⟨(Op.store 89 (Operand.tmp 5) (Operand.tmp 36)), none, 0, false, none⟩ (put2 X (W.heap.size + 1 + 1) x0 y0) (by kernel_rfl) rfl (by first | exact rfl | trivial) (by simp [go_sem, mkO, put2, s0, s1, s2, hu89, hu28]) (hS.put2 (by omega) _ _) ?_; simp only [Act.put, Array.getInternal_eq_getElem, List.getElem_toArray, List.getElem_cons_succ, List.getElem_cons_zero, List.setIfInBounds_toArray, List.set_cons_succ, List.set_cons_zero]
      clear s0 s1 s2
      replace hS := hS.put2 (b := W.heap.size + 1 + 1) (by omega) x0 y0
      have k0_0 := hx0.put2_far (b := W.heap.size + 1 + 1) (by omega) x0 y0
      have k0_1 := hx1.put2_far (b := W.heap.size + 1 + 1) (by omega) x0 y0
      have k0_2 := hx2.put2 x0 y0
      generalize (put2 X (W.heap.size + 1 + 1) x0 y0) = Y0 at *
      have s0 := k0_1.cell0
      have s1 := k0_1.cell1
      have s2 := k0_1.frozen
      refine tr_store ⟨(Op.store 89 (Operand.tmp 6) (Operand.tmp 42)), none, 0, false, none⟩ (put2 Y0 (W.heap.size + 1) x1 y1) (by kernel_rfl) rfl (by first | exact rfl | trivial) (by simp [go_sem, mkO, put2, s0, s1, s2, hu89, hu28]) (hS.put2 (by omega) _ _) ?_; simp only [Act.put, Array.getInternal_eq_getElem, List.getElem_toArray, List.getElem_cons_succ, List.getElem_cons_zero, List.setIfInBounds_toArray, List.set_cons_succ, List.set_cons_zero]
      clear s0 s1 s2
      replace hS := hS.put2 (b := W.heap.size + 1) (by omega) x1 y1
      have k1_0 := k0_0.put2_far (b := W.heap.size + 1) (by omega) x1 y1
      have k1_1 := k0_1.put2 x1 y1
      have k1_2 := k0_2.put2_far (b := W.heap.size + 1) (by omega) x1 y1
      generalize (put2 Y0 (W.heap.size + 1) x1 y1) = Y1 at *
      have s0 := k1_0.cell0
      have s1 := k1_0.cell1
      have s2 := k1_0.frozen
      refine tr_store ⟨(Op.store 89 (Operand.tmp 7) (Operand.tmp 48)), none, 0, false, none⟩ (put2 Y1 (W.heap.size) x2 y2) (by kernel_rfl) rfl (by first | exact rfl | trivial) (by simp [go_sem, mkO, put2, s0, s1, s2, hu89, hu28]) (hS.put2 (by omega) _ _) ?_; simp only [Act.put, Array.getInternal_eq_getElem, List.getElem_toArray, List.getElem_cons_succ, List.getElem_cons_zero, List.setIfInBounds_toArray, List.set_cons_succ, List.set_cons_zero]
      clear s0 s1 s2
      replace hS := hS.put2 (b := W.heap.size) (by omega) x2 y2
      have k2_0 := k1_0.put2 x2 y2
      have k2_1 := k1_1.put2_far (b := W.heap.size) (by omega) x2 y2
      have k2_2 := k1_2.put2_far (b := W.heap.size) (by omega) x2 y2
      generalize (put2 Y1 (W.heap.size) x2 y2) = Y2 at *
      refine hQn _ _ (Keep.of_below hS) ⟨W.heap.size + 1 + 1, W.heap.size + 1, W.heap.size, hF.below hS, hB.trans (hS.mono hB.size), (hS.block _ hF3.lt).trans hF3, by rw [hp0]; exact k2_2, by rw [hp1]; exact k2_1, by rw [hp2]; exact k2_0, (by simp only [Slots, Fits, and_self])⟩
set_option maxRecDepth 100000 in
set_option maxHeartbeats 1000000 in
theorem isFurrow_any (F : Fur) (b : Bool) (w : World) (h : F.At w) (hi : F.Is b) : Calls Try.prog 88 #[F.val] w fun e w' => e = .returned (.bool b) ∧ Below w.heap.size w w' := by
  refine calls_of_exec Try.func88 rfl ?_
  simp only [Try.ntmps88, List.size_toArray, List.length_cons, List.length_nil, Nat.reduceAdd, Nat.reduceSub, Array.replicate_succ, Array.replicate_zero, List.push_toArray, List.append_toArray, List.nil_append, List.cons_append]
  simp only [Fur.val]
  refine exec_seq (exec_region_o fun ds => ?_)
  gi_wp2
  refine eq_mk ((Keep.refl w).alloc _) ?_
  show Exec _ _ _ _ _ _
  have b1 := Box3.new w 24 F.s0 F.s1 F.s2
  have hB := (Below.refl w.heap.size w).alloc (Nat.le_refl _) (.cells #[F.s0, F.s1, F.s2] 24)
  generalize w.alloc (.cells #[F.s0, F.s1, F.s2] 24) = V at *
  have hF := h.below hB
  clear h
  unfold Fur.Is at hi
  have c0 := b1.cell0
  have c1 := b1.cell1
  have c2 := b1.cell2
  have hs0 : F.s0 = .slice F.A0 F.l0.length F.c0 := rfl
  have hs1 : F.s1 = .slice F.A1 F.l1.length F.c1 := rfl
  have hs2 : F.s2 = .slice F.A2 F.l2.length F.c2 := rfl
  rw [hs0] at c0
  rw [hs1] at c1
  rw [hs2] at c2
  clear hs0 hs1 hs2
  refine exec_seq (exec_region_o fun ds => ?_)
  gi_wp2
  refine eq_mk (Keep.refl _) ?_
  show Exec _ _ _ _ _ _
  have fin : ∀ (v : Bool) (t : Array Value) (W W' : World), t[2]? = some (.bool v) → v = b → Below w.heap.size w W → Grow w.heap.size W W' → ∃ u, (results Try.f88 t).run Try.prog W' = .ok u W' ∧ Ending.returned u = .returned (.bool b) ∧ Below w.heap.size w W' := by
    intro v t W W' ht hv hW hG
    subst hv
    exact ⟨.bool v, by simp [results, Try.f88, go_sem, ht], rfl, hW.trans (hG.below (Nat.le_refl _) hW.size)⟩
  have fin2 : ∀ (v : Bool) (t : Array Value) (W W' : World), t[2]? = some (.bool v) → v = b → Below w.heap.size w W → Grow w.heap.size W W' → ∃ u, (results Try.f88 t).run Try.prog W' = .ok u W' ∧ u = .bool b ∧ Below w.heap.size w W' := by
    intro v t W W' ht hv hW hG
    obtain ⟨u, h1, h2, h3⟩ := fin v t W W' ht hv hW hG
    exact ⟨u, h1, by injection h2, h3⟩
  by_cases g8 : F.l0.length ≤ 8
  case neg =>
    have q1 : decide ((F.l0.length : Int) > 8) = true := decide_eq_true (by omega)
    have q2 : (8 : Int) < F.l0.length := by omega
    have hv0 : false = b := by rw [← hi]; unfold valid; rw [decide_eq_false g8]; rfl
    have hv := Lib.hid hv0
    clear hv0
    clear hi
    refine exec_seq (exec_seq (exec_region_o fun ds => ?_))
    gi_wp2
    refine eq_mk (Keep.refl _) ?_
    show Exec _ _ _ _ _ _
    refine exec_cond (b := true) rfl (fun _ => ?_) (fun h => by cases h)
    refine exec_seq (exec_region_o fun ds => ?_)
    gi_wp2
    refine eq_mk (Keep.refl _) ?_
    show Exec _ _ _ _ _ _
    exact exec_ret ⟨.inr rfl, fun W' hG => by first | exact fin false _ _ _ rfl hv.out hB hG | exact fin2 false _ _ _ rfl hv.out hB hG⟩
  have q1 : decide ((F.l0.length : Int) > 8) = false := decide_eq_false (by omega)
  have q2 : (F.l0.length : Int) ≤ 8 := by omega
  refine exec_seq (exec_cut (fun t W => W = V ∧ Slots [none, some (.pointer (some ⟨w.heap.size, 0, none⟩)), none, some (.int .i64 F.l0.length), none, none, none, none, none, none, none, none, none, none, none, none, none, none, none, none, none, none, none, none, none, none, some (.bool (!(decide (F.l1.length = F.l0.length) && decide (F.l2.length = F.l0.length)))), none, none, none, none, none, none, none, none, none, none, none, none, none, none, none, none, none, none, none, none, none, none, none, none, none, none, none, none, none, none, none, none, none, none, none, none, none, none, none, none, none, none, none, none] t) (exec_region_o fun ds => ?_) ?_)
  · by_cases g1 : F.l1.length = F.l0.length
    · have r1 : ((F.l1.length : Int) != (F.l0.length : Int)) = false := by simp [g1]
      have r2 : decide (F.l1.length = F.l0.length) = true := decide_eq_true g1
      have r3 : ((F.l2.length : Int) != (F.l0.length : Int)) = !decide (F.l2.length = F.l0.length) := by by_cases g2 : F.l2.length = F.l0.length <;> simp [g2] <;> omega
      clear g1
      gi_wp2
      exact eq_mk (Keep.refl _) ⟨rfl, by simp [Slots, Fits, r3]⟩
    · have r1 : ((F.l1.length : Int) != (F.l0.length : Int)) = true := by simp; omega
      have r2 : decide (F.l1.length = F.l0.length) = false := decide_eq_false g1
      clear g1
      gi_wp2
      exact eq_mk (Keep.refl _) ⟨rfl, by simp [Slots, Fits]⟩
  rintro t W ⟨rfl, hSl⟩
  obtain ⟨x, hx⟩ := Slots.open_ hSl; simp only [fill, Nat.reduceAdd] at hx; subst hx; clear hSl
  clear c0 c1 c2
  by_cases g12 : F.l1.length = F.l0.length ∧ F.l2.length = F.l0.length
  case neg =>
    have hv0 : false = b := by
      rw [← hi]
      unfold valid
      rcases Classical.not_and_iff_not_or_not.1 g12 with g | g
      · rw [decide_eq_false g]; simp
      · rw [decide_eq_false g]; simp
    have hd : (!(decide (F.l1.length = F.l0.length) && decide (F.l2.length = F.l0.length))) = true := by
      rcases Classical.not_and_iff_not_or_not.1 g12 with g | g
      · rw [decide_eq_false g]; simp
      · rw [decide_eq_false g]; simp
    have hv := Lib.hid hv0
    clear hv0
    rw [hd]
    clear hi hd
    refine exec_cond (b := true) rfl (fun _ => ?_) (fun h => by cases h)
    refine exec_seq (exec_region_o fun ds => ?_)
    gi_wp2
    refine eq_mk (Keep.refl _) ?_
    show Exec _ _ _ _ _ _
    exact exec_ret ⟨.inr rfl, fun W' hG => by first | exact fin false _ _ _ rfl hv.out hB hG | exact fin2 false _ _ _ rfl hv.out hB hG⟩
  obtain ⟨g1, g2⟩ := g12
  have hd : (!(decide (F.l1.length = F.l0.length) && decide (F.l2.length = F.l0.length))) = false := by rw [decide_eq_true g1, decide_eq_true g2]; rfl
  rw [hd]
  have hi2 : valid F.l0 F.l1 F.l2 = stsOk F.l0 F.l1 F.l2 0 F.l0.length := by unfold valid; rw [decide_eq_true g8, decide_eq_true g1, decide_eq_true g2]; rfl
  have HI := Lib.hid hi
  have HI2 := Lib.hid hi2
  clear hi hi2 hd q1
  refine exec_cond (b := false) rfl (fun h => by cases h) (fun _ => exec_skip ?_)
  show Exec _ _ _ _ _ _
  refine exec_seq (exec_seq (exec_region_o fun ds => ?_))
  gi_wp2
  refine eq_mk (Keep.refl _) ?_
  show Exec _ _ _ _ _ _
  refine exec_block ?_
  refine exec_loop (IfI F w) F.l0.length ⟨0, by omega, by omega, hF, hB, b1, HI2.out, by simp [Slots, Fits]⟩ ?_
  clear hF hB b1
  clear W
  rintro j t W ⟨k, hk, rfl, hF, hB, hb3, hst, hSl⟩
  obtain ⟨x, hx⟩ := Slots.open_ hSl; simp only [fill, Nat.reduceAdd] at hx; subst hx; clear hSl
  have HST := Lib.hid hst
  clear hst
  refine exec_seq (exec_region_o fun ds => ?_)
  gi_wp2
  refine eq_mk (Keep.refl _) ?_
  show Exec _ _ _ _ _ _
  refine exec_seq (exec_cond (b := decide (k < F.l0.length)) rfl (fun hp => exec_skip ?_) (fun hp => exec_exit ?_))
  · have hkl : k < F.l0.length := of_decide_eq_true hp
    have hsk : stsOk F.l0 F.l1 F.l2 k (F.l0.length - k) = (stOk (rd_T28 F.l0 k) (rd_T28 F.l1 k) (rd_T28 F.l2 k) && stsOk F.l0 F.l1 F.l2 (k + 1) (F.l0.length - (k + 1))) := by
      obtain ⟨d, hd⟩ : ∃ d, F.l0.length - k = d + 1 := ⟨F.l0.length - k - 1, by omega⟩
      rw [hd, show F.l0.length - (k + 1) = d by omega]
      rfl
    have HSK := Lib.hid hsk
    clear hsk hp
    show Exec _ _ _ _ _ _
    refine exec_cut (fun t W => F.At W ∧ Below w.heap.size w W ∧ Box3 W w.heap.size 24 F.s0 F.s1 F.s2 ∧ stOk (rd_T28 F.l0 k) (rd_T28 F.l1 k) (rd_T28 F.l2 k) = true ∧ Slots [none, some (.pointer (some ⟨w.heap.size, 0, none⟩)), none, none, none, none, none, none, none, none, none, none, none, none, none, none, none, none, none, none, none, none, none, none, none, none, none, some (.int .i64 F.l0.length), some (.int .i64 k), none, none, none, none, none, none, none, none, none, none, none, none, none, none, none, none, none, none, none, none, none, none, none, none, none, none, none, none, none, none, none, none, none, none, none, none, none, none, none, none, none, none] t) (exec_block (exec_seq (exec_region_o fun ds => ?_))) ?after
    case after =>
      clear hF hB hb3
      clear W
      rintro t W ⟨hF, hB, hb3, hok, hSl⟩
      obtain ⟨x, hx⟩ := Slots.open_ hSl; simp only [fill, Nat.reduceAdd] at hx; subst hx; clear hSl
      refine exec_region_o fun ds => ?_
      gi_wp2
      refine eq_mk (Keep.refl _) ⟨F.l0.length - (k + 1), by omega, k + 1, by omega, rfl, hF, hB, hb3, by rw [HST.out, HSK.out, hok]; rfl, by simp [Slots, Fits]⟩
    gi_wp2
    refine eq_mk (Keep.refl _) ?_
    show Exec _ _ _ _ _ _
    refine exec_seq ((isF_spans hF hB hb3 hkl (by omega) (by omega) _ (by simp only [Slots, Fits, and_self])).mono ?_)
    clear hF hB hb3
    clear W
    rintro e t W h
    cases e <;> first | exact h.elim | skip
    obtain ⟨b5, b6, b7, hF, hB, hb3, h5, h6, h7, hSl⟩ := h
    show Exec _ _ _ _ _ _
    obtain ⟨x, hx⟩ := Slots.open_ hSl; simp only [fill, Nat.reduceAdd] at hx; subst hx; clear hSl
    have bad : stOk (rd_T28 F.l0 k) (rd_T28 F.l1 k) (rd_T28 F.l2 k) = false → false = b := fun hf => by rw [← HI.out, HST.out, HSK.out, hf]; rfl
    generalize rd_T28 F.l0 k = p0 at *
    generalize rd_T28 F.l1 k = p1 at *
    generalize rd_T28 F.l2 k = p2 at *
    obtain ⟨r0, hr0⟩ : ∃ r, decide (-12 ≤ p0.f0 ∧ p0.f0 ≤ p0.f1 ∧ p0.f1 ≤ 12) = r := ⟨_, rfl⟩
    obtain ⟨s0, hs0⟩ : ∃ r, decide (p0.f1 - p0.f0 ≤ 6) = r := ⟨_, rfl⟩
    obtain ⟨r1, hr1⟩ : ∃ r, decide (1 ≤ p1.f0 ∧ p1.f0 ≤ p1.f1 ∧ p1.f1 ≤ 60) = r := ⟨_, rfl⟩
    obtain ⟨r2, hr2⟩ : ∃ r, decide (0 ≤ p2.f0 ∧ p2.f0 ≤ p2.f1 ∧ p2.f1 ≤ 40) = r := ⟨_, rfl⟩
    have key : stOk p0 p1 p2 = (r0 && s0 && r1 && r2) := by unfold stOk; rw [hr0, hs0, hr1, hr2]
    have w0 := fun W => furrow_span_within.calls p0.f0 p0.f1 (-12) 12 r0 W (by rw [within_is, hr0])
    have w1 := fun W => furrow_span_within.calls p1.f0 p1.f1 1 60 r1 W (by rw [within_is, hr1])
    have w2 := fun W => furrow_span_within.calls p2.f0 p2.f1 0 40 r2 W (by rw [within_is, hr2])
    clear hr1 hr2
    rw [key] at bad
    have KEY := Lib.hid key
    have HR0 := Lib.hid hr0
    have HS0 := Lib.hid hs0
    clear key hr0 hs0
    have BAD := Lib.hid bad
    clear bad
    have e50 := h5.cell0
    have e51 := h5.cell1
    obtain ⟨x0, y0⟩ := p0
    obtain ⟨x1, y1⟩ := p1
    obtain ⟨x2, y2⟩ := p2
    simp only at e50 e51 w0 w1 w2 h5 h6 h7
    cases r0 with
    | false =>
      refine exec_seq (exec_seq (exec_region_o fun ds => ?_))
      gi_wp2_with fail
      refine ⟨trivial, rfl, (callsIn_wide.2 (w0 W)).mono ?_⟩
      rintro e W1 ⟨rfl, hw1⟩
      gi_wp2
      refine eq_mk (Keep.of_below hw1) ?_
      show Exec _ _ _ _ _ _
      refine exec_cond (b := true) rfl (fun _ => ?_) (fun h => by cases h)
      refine exec_seq (exec_region_o fun ds => ?_)
      gi_wp2
      refine eq_mk (Keep.refl _) ?_
      show Exec _ _ _ _ _ _
      exact exec_ret ⟨.inr rfl, fun W' hG => by first | exact fin false _ _ _ rfl (BAD.out rfl) (hB.trans (hw1.mono hB.size)) hG | exact fin2 false _ _ _ rfl (BAD.out rfl) (hB.trans (hw1.mono hB.size)) hG⟩
    | true =>
    obtain ⟨i1, i2, i3⟩ := of_decide_eq_true HR0.out
    simp only at i1 i2 i3
    have g5 : decide (y0 - x0 > 6) = !s0 := by rw [← HS0.out]; by_cases h : y0 - x0 ≤ 6 <;> simp [h] <;> omega
    have G5 := Lib.hid g5
    clear g5
    refine exec_seq (exec_cut (fun t W => F.At W ∧ Below w.heap.size w W ∧ Box3 W w.heap.size 24 F.s0 F.s1 F.s2 ∧ Box2 W b6 89 x1 y1 ∧ Box2 W b7 89 x2 y2 ∧ Slots [none, some (.pointer (some ⟨w.heap.size, 0, none⟩)), none, none, none, none, some (.pointer (some ⟨b6, 0, none⟩)), some (.pointer (some ⟨b7, 0, none⟩)), none, none, none, none, none, none, none, none, none, none, none, none, none, none, none, none, none, none, none, some (.int .i64 F.l0.length), some (.int .i64 k), none, none, none, none, none, none, none, none, none, none, none, none, none, none, none, none, none, none, none, none, none, none, none, none, none, none, none, none, none, none, none, none, some (.bool (!s0)), none, none, none, none, none, none, none, none, none] t) (exec_region_o fun ds => ?_) ?_)
    · gi_wp2_with fail
      refine ⟨trivial, rfl, (callsIn_wide.2 (w0 W)).mono ?_⟩
      rintro e W1 ⟨rfl, hw1⟩
      have f50 := (hw1.cell h5.lt).trans h5.cell0
      have f51 := (hw1.cell h5.lt).trans h5.cell1
      have hK := Keep.of_below hw1
      have q1 := hF.below hw1
      have q2 := hB.trans (hw1.mono hB.size)
      have q3 : Box3 W1 w.heap.size 24 F.s0 F.s1 F.s2 := (hw1.block _ hb3.lt).trans hb3
      have q4 : Box2 W1 b6 89 x1 y1 := (hw1.block _ h6.lt).trans h6
      have q5 : Box2 W1 b7 89 x2 y2 := (hw1.block _ h7.lt).trans h7
      clear hw1 hF hB hb3 h5 h6 h7 e50 e51 w0 w1 w2
      (try simp only at f50 f51)
      gi_wp2
      all_goals
        have g5 := G5.out
        refine eq_mk hK ⟨q1, q2, q3, q4, q5, ?_⟩
        simp [Slots, Fits, ← g5]
        try omega
    clear h5 h6 h7 hF hB hb3 e50 e51
    clear W
    rintro t W ⟨hF, hB, hb3, h6, h7, hSl⟩
    obtain ⟨x, hx⟩ := Slots.open_ hSl; simp only [fill, Nat.reduceAdd] at hx; subst hx; clear hSl
    cases s0 with
    | false =>
      refine exec_cond (b := true) rfl (fun _ => ?_) (fun h => by cases h)
      refine exec_seq (exec_region_o fun ds => ?_)
      gi_wp2
      refine eq_mk (Keep.refl _) ?_
      show Exec _ _ _ _ _ _
      exact exec_ret ⟨.inr rfl, fun W' hG => by first | exact fin false _ _ _ rfl (BAD.out rfl) hB hG | exact fin2 false _ _ _ rfl (BAD.out rfl) hB hG⟩
    | true =>
    refine exec_cond (b := false) rfl (fun h => by cases h) (fun _ => exec_skip ?_)
    show Exec _ _ _ _ _ _
    have e60 := h6.cell0
    have e61 := h6.cell1
    cases r1 with
    | false =>
      refine exec_seq (exec_region_o fun ds => ?_)
      gi_wp2_with fail
      refine ⟨trivial, rfl, (callsIn_wide.2 (w1 W)).mono ?_⟩
      rintro e W1 ⟨rfl, hw1⟩
      gi_wp2_with fail
      refine ⟨trivial, ?_⟩
      gi_wp2
      refine eq_mk (Keep.of_below hw1) ?_
      show Exec _ _ _ _ _ _
      refine exec_cond (b := true) rfl (fun _ => ?_) (fun h => by cases h)
      refine exec_seq (exec_region_o fun ds => ?_)
      gi_wp2
      refine eq_mk (Keep.refl _) ?_
      show Exec _ _ _ _ _ _
      exact exec_ret ⟨.inr rfl, fun W' hG => by first | exact fin false _ _ _ rfl (BAD.out rfl) (hB.trans (hw1.mono hB.size)) hG | exact fin2 false _ _ _ rfl (BAD.out rfl) (hB.trans (hw1.mono hB.size)) hG⟩
    | true =>
    refine exec_seq (exec_region_o fun ds => ?_)
    gi_wp2_with fail
    refine ⟨trivial, rfl, (callsIn_wide.2 (w1 W)).mono ?_⟩
    rintro e W1 ⟨rfl, hw1⟩
    have e70 := (hw1.cell h7.lt).trans h7.cell0
    have e71 := (hw1.cell h7.lt).trans h7.cell1
    gi_wp2_with fail
    refine ⟨trivial, rfl, (callsIn_wide.2 (w2 W1)).mono ?_⟩
    rintro e W2 ⟨rfl, hw2⟩
    have hw12 := hw1.trans (hw2.mono hw1.size)
    have hK := Keep.of_below hw12
    have q1 := hF.below hw12
    have q2 := hB.trans (hw12.mono hB.size)
    have q3 : Box3 W2 w.heap.size 24 F.s0 F.s1 F.s2 := (hw12.block _ hb3.lt).trans hb3
    clear hw1 hw2 hw12 hF hB hb3 h6 h7 e60 e61 e70 e71 w0 w1 w2
    gi_wp2
    refine eq_mk hK ?_
    show Exec _ _ _ _ _ _
    cases r2 with
    | false =>
      refine exec_cond (b := true) (by simp [ev, go_sem, Act.eval]) (fun _ => ?_) (fun h => by cases h)
      refine exec_seq (exec_region_o fun ds => ?_)
      gi_wp2
      refine eq_mk (Keep.refl _) ?_
      show Exec _ _ _ _ _ _
      exact exec_ret ⟨.inr rfl, fun W' hG => by first | exact fin false _ _ _ rfl (BAD.out rfl) q2 hG | exact fin2 false _ _ _ rfl (BAD.out rfl) q2 hG⟩
    | true =>
      refine exec_cond (b := false) (by simp [ev, go_sem, Act.eval]) (fun h => by cases h) (fun _ => exec_skip ?_)
      exact ⟨q1, q2, q3, KEY.out, by simp [Slots, Fits]⟩
  · have hkl : k = F.l0.length := by have := of_decide_eq_false hp; omega
    subst hkl
    have hv0 : true = b := by rw [← HI.out, HST.out, Nat.sub_self]; rfl
    have hv := Lib.hid hv0
    clear hv0
    show Exec _ _ _ _ _ _
    refine exec_seq (exec_region_o fun ds => ?_)
    gi_wp2
    refine eq_mk (Keep.refl _) ?_
    show Exec _ _ _ _ _ _
    exact exec_ret ⟨.inr rfl, fun W' hG => by first | exact fin true _ _ _ rfl hv.out hB hG | exact fin2 true _ _ _ rfl hv.out hB hG⟩
end Go.Proofs.Ytafmgmaelnpehaa
end

section
namespace Go.Proofs.Ytafmgmaelnpehaa
open Go.RowKit Go.TL Go.Shelf Go.Fu
attribute [local go_sem] Oper.semAt_some
open PFurrowAsks
theorem isInner_any (F : Fur) (n : Int) (w : World) (h : F.At w) (hl : F.l0.length ≤ 1000) : Calls Try.prog 53 #[F.val, .int .i64 n] w fun e w' => e = .returned (.bool (decide (0 < n ∧ n + 1 < F.l0.length))) ∧ Below w.heap.size w w' := by
  refine furrow_isInner.calls F.A0 F.c0 F.l0 F.A1 F.c1 F.l1 F.A2 F.c2 F.l2 n _ w h.r0 h.h0 h.r1 h.h1 h.r2 h.h2 ?_
  unfold furrow_isInner.f
  have e : wrap64 ((F.l0.length : Int) - 1) = F.l0.length - 1 := by rw [← IntWalk.i64_left]; exact IntWalk.i64_in _ (by omega)
  rw [e]
  by_cases h1 : 0 < n
  · rw [if_pos h1]
    congr 1
    simp only [h1, true_and]
    apply decide_eq_decide.2
    omega
  · rw [if_neg h1]
    simp [h1]
def toP (x : S28) : Int × Int := (x.f0, x.f1)
def flat : List (Int × Int) → List Value
  | [] => []
  | x :: l => .int .i64 x.1 :: .int .i64 x.2 :: flat l
theorem flat_app (a b : List (Int × Int)) : flat (a ++ b) = flat a ++ flat b := by
  induction a with
  | nil => rfl
  | cons x a ih => show _ :: _ :: flat (a ++ b) = _ :: _ :: (flat a ++ flat b); rw [ih]
theorem flat_len (a : List (Int × Int)) : (flat a).length = a.length * 2 := by
  induction a with
  | nil => rfl
  | cons x a ih => show (flat a).length + 1 + 1 = _; rw [ih]; simp; omega
theorem flat_get : ∀ (a : List (Int × Int)) (i : Nat) (h : i < a.length), (flat a)[i * 2]? = some (.int .i64 (a[i]'h).1) ∧ (flat a)[i * 2 + 1]? = some (.int .i64 (a[i]'h).2)
  | x :: a, 0, _ => ⟨rfl, rfl⟩
  | x :: a, i + 1, h => by
    have := flat_get a i (by simpa using h)
    rw [show (i + 1) * 2 = i * 2 + 1 + 1 by omega]
    exact this
theorem spans_own {w : World} {base : Nat} {v : Value} {e : TypeId} {l : List (Int × Int)} (h : w.ownsRow base e 2 v l.length (flat l)) : ∃ A c, v = .slice A l.length c ∧ l.length ≤ c ∧ Spans w A l ∧ ∀ a, A = some a → base ≤ a.block := by
  rcases h.2 with ⟨rfl, h0⟩ | ⟨g, cap, cur, rfl, hb, hh, hn, hm, hs, ht⟩
  · exact ⟨none, 0, by rw [h0], by omega, .inl (List.length_eq_zero_iff.1 h0), fun a h => by cases h⟩
  · refine ⟨_, _, rfl, hn, .inr ⟨g, 0, rfl, fun i hi => ?_⟩, fun a h => by cases h; exact hb⟩
    have e1 := h.cellAt (i * 2) (by omega)
    have e2 := h.cellAt (i * 2 + 1) (by omega)
    rw [(flat_get l i hi).1] at e1
    rw [(flat_get l i hi).2] at e2
    rw [Nat.zero_add]
    exact ⟨e1, e2⟩
theorem cell_pair_new (W : World) (t : TypeId) (a b : Value) : ∀ j u, [a, b][j]? = some u → (W.alloc (.cells #[a, b] t)).cell? ((⟨W.heap.size, 0, none⟩ : Addr).add j) = some u := by
  intro j u hj
  have hn : (W.alloc (.cells #[a, b] t)).heap[W.heap.size]? = some (.cells #[a, b] t) := World.alloc_heap_new W _
  match j, hj with
  | 0, hj => simp at hj; subst hj; show (W.alloc _).cell? ⟨W.heap.size, 0, none⟩ = _; unfold World.cell?; simp only [hn]; rfl
  | 1, hj => simp at hj; subst hj; show (W.alloc _).cell? ⟨W.heap.size, 0 + 1, none⟩ = _; unfold World.cell?; simp only [hn]; rfl
  | j + 2, hj => simp at hj
theorem info89 : (Try.prog.info? 89).map (fun i => (i.zero, i.size, i.bytes)) = some (some (.agg #[(.int .i64 0), (.int .i64 0)]), 2, 16) := by kernel_rfl

set_option maxRecDepth 100000 in
set_option maxHeartbeats 2000000 in
theorem open_yes (F : Fur) (w : World) (h : F.At w) (hi : F.Is true) (hl : F.l0.length ≤ 8) : Calls Try.prog 47 #[F.val, .bool true] w fun e w' => ∃ A c, e = .returned (.slice A F.l0.length c) ∧ F.l0.length ≤ c ∧ Spans w' A (F.l0.map toP) ∧ Below w.heap.size w w' ∧ ∀ a, A = some a → w.heap.size ≤ a.block := by
  refine calls_of_exec Try.func47 rfl ?_
  simp only [Try.ntmps47, List.size_toArray, List.length_cons, List.length_nil, Nat.reduceAdd, Nat.reduceSub, Array.replicate_succ, Array.replicate_zero, List.push_toArray, List.append_toArray, List.nil_append, List.cons_append]
  simp only [Fur.val]
  refine exec_seq (exec_region_o fun ds => ?_)
  gi_wp2
  refine eq_mk ((Keep.refl w).alloc _) ?_
  show Exec _ _ _ _ _ _
  have hB := (Below.refl w.heap.size w).alloc (Nat.le_refl _) (.cells #[F.s0, F.s1, F.s2] 24)
  have hX := Box3.new w 24 F.s0 F.s1 F.s2
  have hF := h.grow (Grow.alloc 0 w (.cells #[F.s0, F.s1, F.s2] 24))
  have hlt := hX.lt
  generalize w.alloc (.cells #[F.s0, F.s1, F.s2] 24) = W at *
  have k0 := hX.cell0
  have k1 := hX.cell1
  have k2 := hX.cell2
  refine exec_seq (exec_region_o fun ds => ?_)
  gi_wp2_with fail
  refine ⟨trivial, rfl, (callsIn_wide.2 (isFurrow_any F true W hF hi)).mono ?_⟩
  rintro e W1 ⟨rfl, hw1⟩
  gi_wp2_with fail
  refine ⟨trivial, rfl, (callsIn_wide.2 (need_yes 1 W1)).mono ?_⟩
  rintro e W2 ⟨rfl, rfl⟩
  gi_wp2_with fail
  refine eq_mk (Keep.of_below hw1) ?_
  show Exec _ _ _ _ _ _
  have hX' := hX.grow (Grow.of_below (B := 0) hw1)
  have hF' := hF.below hw1
  have hB' := hB.trans (hw1.mono hB.size)
  clear k0 k1 k2 hX hF hB hlt hw1
  clear W
  have k0 := hX'.cell0
  refine exec_seq (exec_region_o fun ds => ?_)
  gi_wp2_with fail
  refine ⟨trivial, rfl, (callsIn_wide.2 (need_yes 2 W1)).mono ?_⟩
  rintro e W2 ⟨rfl, rfl⟩
  gi_wp2_with fail
  refine eq_mk (Keep.refl _) ?_
  show Exec _ _ _ _ _ _
  refine exec_seq (exec_region_o fun ds => ?_)
  gi_wp2
  refine eq_mk (Keep.refl _) ?_
  show Exec _ _ _ _ _ _
  simp only [Fur.s0] at k0
  refine exec_seq (exec_seq (exec_region_o fun ds => ?_))
  gi_wp2
  refine eq_mk (Keep.refl _) ?_
  show Exec _ _ _ _ _ _
  obtain ⟨pl, hpl⟩ : ∃ pl, F.l0.map toP = pl := ⟨_, rfl⟩
  have hpn : pl.length = F.l0.length := by rw [← hpl]; simp
  rw [hpl]
  refine exec_block ?_
  refine exec_loop (fun j t W => ∃ k v, k ≤ F.l0.length ∧ j = F.l0.length - k ∧ Below w.heap.size w W ∧ F.At W ∧ W.ownsRow w.heap.size 89 2 v k (flat (pl.take k)) ∧ Slots [none, none, none, none, none, some (v), none, none, none, none, none, none, none, none, some (.slice F.A0 F.l0.length F.c0), some (.int .i64 F.l0.length), some (.int .i64 k), none, none, none, none, none, none, none, none, none, none] t) F.l0.length
    ⟨0, _, by omega, by omega, hB', hF', World.ownsRow_nil _ _ _ _, ⟨rfl, rfl, rfl, rfl, trivial⟩⟩ ?_
  clear k0 hX' hF' hB'
  clear W1
  rintro j t W ⟨k, v, hk, hj, hB, hF, hown, hSl⟩
  obtain ⟨x, hx⟩ := Slots.open_ hSl; simp only [fill, Nat.reduceAdd] at hx; subst hx; clear hSl
  refine exec_seq (exec_region_o fun ds => ?_)
  gi_wp2
  refine eq_mk (Keep.refl _) ?_
  show Exec _ _ _ _ _ _
  refine exec_seq (exec_cond (b := decide (k < F.l0.length)) rfl (fun hp => ?_) (fun hp => ?_))
  · have hkl : k < F.l0.length := of_decide_eq_true hp
    refine exec_skip ?_
    show Exec _ _ _ _ _ _
    obtain ⟨ad, hA, hc0, hc1⟩ := at_T28 hF.r0 (k : Int) (by omega) (by omega)
    have hrd : rd_T28 F.l0 (k : Int) = F.l0[k]'hkl := by simp [rd_T28, hkl]
    rw [hrd] at hc0 hc1
    simp only [Int.toNat_natCast] at hc0 hc1
    have hpk : pl.take (k + 1) = pl.take k ++ [toP (F.l0[k]'hkl)] := by
      rw [List.take_succ_eq_append_getElem (by omega)]
      subst hpl
      simp
    generalize F.l0[k]'hkl = y at *
    obtain ⟨y0, y1⟩ := y
    simp only at hc0 hc1
    have hkI : (k : Int) < F.l0.length := by omega
    rw [hA]
    refine exec_seq (exec_block (exec_seq (exec_region_o fun ds => ?_)))
    gi_wp2
    refine eq_mk ((Keep.refl _).alloc _) ?_
    show Exec _ _ _ _ _ _
    have hown' := hown.alloc (.cells #[.int .i64 y0, .int .i64 y1] 28)
    have hF' := hF.grow (Grow.alloc 0 W (.cells #[.int .i64 y0, .int .i64 y1] 28))
    have hB' := hB.alloc hB.size (.cells #[.int .i64 y0, .int .i64 y1] 28)
    have hX := Box2.new W 28 y0 y1
    clear hown hF hB hc0 hc1
    generalize W.alloc (.cells #[.int .i64 y0, .int .i64 y1] 28) = W1 at *
    have k0 := hX.cell0
    have k1 := hX.cell1
    generalize W.heap.size = b7 at *
    clear W
    obtain ⟨i0, hi0, hz⟩ : ∃ i0, Try.prog.info? 89 = some i0 ∧ (i0.zero, i0.size, i0.bytes) = (some (.agg #[(.int .i64 0), (.int .i64 0)]), 2, 16) := by
      have := info89
      cases h : Try.prog.info? 89 with
      | none => rw [h] at this; cases this
      | some i0 => rw [h] at this; exact ⟨i0, rfl, Option.some.inj this⟩
    simp only [Prod.mk.injEq] at hz
    obtain ⟨hz0, hz1, hz2⟩ := hz
    have hsB := hB'.size
    refine exec_region_o fun ds => ?_
    gi_wp2_with (gi_at_builtin; refine wpListIn_append_own _ rfl _ _ 79 rfl w.heap.size 89 i0 (.agg #[.int .i64 0, .int .i64 0]) 2 16 Try.underlying79 hi0 hz0 hz1 hz2 rfl (by decide) v k (flat (pl.take k)) rfl (hown'.alloc _) ⟨W1.heap.size, 0, none⟩ 1 1 [.int .i64 y0, .int .i64 y1] rfl rfl (cell_pair_new _ _ _ _) (by simp [Value.oneCell']) (by unfold maxLen; omega) (by omega) (by simp; omega) ?_; intro v' w' hown2 hgr _)
    have hbk : ∀ j o, v.ownBlock = some j → (W1.alloc (.cells #[.int .i64 y0, .int .i64 y1] 89)).heap[j]? = some o → book o = false := by
      intro j o hv ho
      rcases (hown'.alloc (.cells #[.int .i64 y0, .int .i64 y1] 89)).2 with ⟨rfl, _⟩ | ⟨g', cap', cur, rfl, _, hg', _⟩
      · simp [Value.ownBlock] at hv
      · simp only [Value.ownBlock, Option.some.injEq] at hv
        subst hv
        rw [hg'] at ho
        cases ho
        rfl
    have hB3 : Below w.heap.size w w' := (hB'.alloc hsB (.cells #[.int .i64 y0, .int .i64 y1] 89)).grown hgr (by simp; omega) (fun q e => (hown'.lt q e).1)
    refine eq_mk (((Keep.refl _).alloc _).grown hgr hbk) ?_
    show Exec _ _ _ _ _ _
    have hown3 : w'.ownsRow w.heap.size 89 2 v' (k + 1) (flat (pl.take (k + 1))) := by
      rw [hpk, flat_app]
      exact hown2
    clear hown2 hgr hbk hown' hB' hX k0 k1 hsB
    refine exec_region_o fun ds => ?_
    gi_wp2
    refine eq_mk (Keep.refl _) ⟨j - 1, by omega, k + 1, v', by omega, by omega, hB3, h.below hB3, hown3, ⟨rfl, by first | rfl | rw [hA], rfl, by simp, trivial⟩⟩
  · have hkl : k = F.l0.length := by have := of_decide_eq_false hp; omega
    subst hkl
    refine exec_exit ?_
    show Exec _ _ _ _ _ _
    rw [List.take_of_length_le (by omega)] at hown
    rw [← hpn] at hown
    obtain ⟨A, c, rfl, hc, hsp, hbase⟩ := spans_own hown
    refine exec_seq (exec_region_o fun ds => ?_)
    gi_wp2
    refine eq_mk (Keep.refl _) ?_
    refine exec_ret ⟨.inr rfl, fun W' hG => ⟨.slice A pl.length c, by simp [results, Try.f47, go_sem], A, c, by rw [hpn], by omega, hsp.grow hG, hB.trans (hG.below (Nat.le_refl _) hB.size), hbase⟩⟩
def misfit (e : Int) : List PanicEntry := [{ v := .iface 132 (.agg #[.int .i64 e]), recovered := false }]
set_option maxRecDepth 100000 in
theorem open_no1 (F : Fur) (is : Bool) (w : World) (h : F.At w) (hi : F.Is false) : Calls Try.prog 47 #[F.val, .bool is] w fun e w' => e = .panicked (misfit 1) ∧ Below w.heap.size w w' := by
  have hX := Box3.new w 24 F.s0 F.s1 F.s2
  have hF := h.grow (Grow.alloc 0 w (.cells #[F.s0, F.s1, F.s2] 24))
  have hB := (Below.refl w.heap.size w).alloc (Nat.le_refl _) (.cells #[F.s0, F.s1, F.s2] 24)
  have k0 := hX.cell0
  have k1 := hX.cell1
  have k2 := hX.cell2
  simp only [Fur.val]
  go_enter Try.func47, Try.ntmps47
  go_wp2_with fail
  refine (isFurrow_any F false _ hF hi).mono ?_
  rintro e W1 ⟨rfl, hw1⟩
  go_wp2_with fail
  refine (need_no 1 W1).mono ?_
  rintro e W2 ⟨rfl, rfl⟩
  exact ⟨rfl, rfl, hB.trans (hw1.mono hB.size)⟩
set_option maxRecDepth 100000 in
theorem open_no2 (F : Fur) (w : World) (h : F.At w) (hi : F.Is true) : Calls Try.prog 47 #[F.val, .bool false] w fun e w' => e = .panicked (misfit 2) ∧ Below w.heap.size w w' := by
  have hX := Box3.new w 24 F.s0 F.s1 F.s2
  have hF := h.grow (Grow.alloc 0 w (.cells #[F.s0, F.s1, F.s2] 24))
  have hB := (Below.refl w.heap.size w).alloc (Nat.le_refl _) (.cells #[F.s0, F.s1, F.s2] 24)
  have k0 := hX.cell0
  have k1 := hX.cell1
  have k2 := hX.cell2
  simp only [Fur.val]
  go_enter Try.func47, Try.ntmps47
  go_wp2_with fail
  refine (isFurrow_any F true _ hF hi).mono ?_
  rintro e W1 ⟨rfl, hw1⟩
  go_wp2_with fail
  refine (need_yes 1 W1).mono ?_
  rintro e W2 ⟨rfl, rfl⟩
  go_wp2_with fail
  refine (need_no 2 W1).mono ?_
  rintro e W2 ⟨rfl, rfl⟩
  exact ⟨rfl, rfl, hB.trans (hw1.mono hB.size)⟩
end Go.Proofs.Ytafmgmaelnpehaa
end

section
namespace Go.Proofs.Ytafmgmaelnpehaa
open Go.RowKit Go.TL Go.Shelf Go.Fu
attribute [local go_sem] Oper.semAt_some
theorem laidOut : laidOutB Try.prog = true := by kernel_rfl
theorem keyed137 : Go.Maps.Keyed Try.prog 137 := Go.Maps.Keyed.of_law (deep_law_laid (m := 9) laidOut (by decide) (of_decide_eq_true (by kernel_rfl)) (by kernel_rfl) (by kernel_rfl))
theorem key137 (a b : Int) (ha : (Lit.int .i64 a).wf = true) (hb : (Lit.int .i64 b).wf = true) : ∃ l, keyOf Try.prog 137 (.agg #[.int .i64 a, .int .i64 b]) = some l := by
  have h1 : Try.prog.keyType 137 = true := by kernel_rfl
  have h2 : Try.prog.cellsOf 137 = 2 := by kernel_rfl
  have h3 : Try.prog.cellsOf 135 = 2 := by kernel_rfl
  have h4 : Try.prog.cellsOf 3 = 1 := by kernel_rfl
  obtain ⟨n, hn⟩ : ∃ n, Try.prog.types.size = n + 2 := ⟨Try.prog.types.size - 2, by have : 2 ≤ Try.prog.types.size := of_decide_eq_true (by kernel_rfl); omega⟩
  have u3 : Try.prog.underlying 3 = some (.int .i64) := Try.underlying3
  simp [keyOf, Try.underlying137, h1, h2, Value.formed, hn, Value.cells]
  simp [Program.keyLits, Try.underlying137, Try.underlying135, u3, h2, h3, h4, ha, hb, List.range, List.range.loop]
def encP (x : Int × Int) : Value := .agg #[.int .i64 x.1, .int .i64 x.2]
def okP (x : Int × Int) : Prop := (-1000 ≤ x.1 ∧ x.1 ≤ 1000) ∧ (-1000 ≤ x.2 ∧ x.2 ≤ 1000)
theorem keyP : KeyEnc Try.prog 137 encP okP where
  keyed := keyed137
  lit x h := key137 _ _ (WalkArith.wf_i64 (by have := h.1; omega)) (WalkArith.wf_i64 (by have := h.2; omega))
  inj x y h := by
    unfold encP at h
    simp at h
    exact Prod.ext h.1 h.2
def SetR (W : World) (b : Nat) (ks : List (Int × Int)) : Prop := MapR encP okP W b (ks.map fun x => (x, .bool true))
theorem put_set (ks : List (Int × Int)) (x : Int × Int) : put (ks.map fun x => (x, Value.bool true)) x (.bool true) = (ins ks x).map fun x => (x, .bool true) := by
  have e : (ks.map fun x => (x, Value.bool true)).map (·.1) = ks := by rw [List.map_map]; exact List.map_id'' (fun _ => rfl) ks
  unfold put ins
  rw [e]
  split
  · rw [List.map_map]
    refine List.map_congr_left fun y _ => ?_
    simp only [Function.comp]
    split
    · rename_i h; rw [← h]
    · rfl
  · simp
theorem at_set (ks : List (Int × Int)) (x : Int × Int) : (at? (ks.map fun x => (x, Value.bool true)) x).getD (.bool false) = .bool (decide (x ∈ ks)) := by
  have e : (ks.map fun x => (x, Value.bool true)).map (·.1) = ks := by rw [List.map_map]; exact List.map_id'' (fun _ => rfl) ks
  by_cases h : x ∈ ks
  · unfold at?
    cases hf : (ks.map fun x => (x, Value.bool true)).find? (fun p => decide (p.1 = x)) with
    | none =>
      have := List.find?_eq_none.1 hf (x, .bool true) (List.mem_map.2 ⟨x, h, rfl⟩)
      simp at this
    | some q =>
      obtain ⟨y, _, rfl⟩ := List.mem_map.1 (List.mem_of_find?_eq_some hf)
      simp [h]
  · rw [at_none (by rw [e]; exact h)]
    simp [h]

def KeysAre (ks : List (Int × Int)) (P : Int × Int → Prop) : Prop := ∀ x, x ∈ ks ↔ P x

structure May (g : FuncId) (cap : Array Value) (p : Int → Int → Bool) (w0 : World) : Prop where
  ent : ∀ args w, (callFunc g args).run Try.prog w = .ok (.enter g args) w
  calls : ∀ (s b : Int) (W : World), 0 ≤ s → s ≤ 100 → 0 ≤ b → b ≤ 10000 → Below w0.heap.size w0 W →
    Calls Try.prog g (#[.int .i64 s, .int .i64 b] ++ cap) W fun e W' => e = .returned (.bool (p s b)) ∧ Below W.heap.size W W'

structure CanB (B0 : Nat) (A : Option Addr) (n c : Nat) (r : Value) (w W : World) : Prop where
  f : Boxed W B0 79 (.slice A n c)
  r : Boxed W (B0 + 1) 94 r
  below : Below B0 w W
theorem CanB.grow {B B0 : Nat} {A : Option Addr} {n c : Nat} {r : Value} {w W W' : World} (h1 : CanB B0 A n c r w W) (hg : Grow B W W') (h : B0 ≤ B) (hw : B0 ≤ w.heap.size) : CanB B0 A n c r w W' :=
  ⟨hg.boxed h1.f, hg.boxed h1.r, h1.below.trans (hg.below h (Nat.le_trans hw h1.below.size))⟩
theorem CanB.stab {B B0 : Nat} {A : Option Addr} {n c : Nat} {r : Value} {w : World} (h : B0 ≤ B) (hw : B0 ≤ w.heap.size) : Stab B (fun W => CanB B0 A n c r w W) := fun _ _ h1 hg => h1.grow hg h hw

theorem CanB.kept {B0 b : Nat} {A : Option Addr} {n c : Nat} {r : Value} {w W W' : World} (h1 : CanB B0 A n c r w W) (hg : W.grownBy W' (some b)) (h : B0 + 1 < b) (hw : B0 ≤ w.heap.size) : CanB B0 A n c r w W' :=
  ⟨h1.f.kept hg (by simp; omega), h1.r.kept hg (by simp; omega), h1.below.grown hg (Nat.le_trans hw h1.below.size) (fun k e => by cases e; omega)⟩
theorem box2_kept {W W' : World} {b B : Nat} {t : TypeId} {x y : Int} (h : Box2 W B t x y) (hg : W.grownBy W' (some b)) (hne : B ≠ b) : Box2 W' B t x y := (hg.block B h.lt (by simp [hne])).trans h
theorem keep_map {w W W' : World} {b : Nat} {ks : List (Int × Int)} (h : Keep w W) (hs : SetR W b ks) (hg : W.grownBy W' (some b)) : Keep w W' := h.grown hg fun j o e ho => by
  cases e
  obtain ⟨es, c, hm, _⟩ := hs
  rw [hm] at ho
  cases ho
  rfl
theorem SetR.same {W W' : World} {b : Nat} {ks : List (Int × Int)} (h : SetR W b ks) (hb : W'.heap[b]? = W.heap[b]?) : SetR W' b ks := MapR.kept h hb
theorem SetR.lt {W : World} {b : Nat} {ks : List (Int × Int)} (h : SetR W b ks) : b < W.heap.size := MapR.lt h
theorem SetR.grow {B : Nat} {W W' : World} {b : Nat} {ks : List (Int × Int)} (h : SetR W b ks) (hg : Grow B W W') : SetR W' b ks := MapR.grow h hg
theorem Stab.setR (B b : Nat) (ks : List (Int × Int)) : Stab B (fun W => SetR W b ks) := fun _ _ h hg => SetR.grow h hg

end Go.Proofs.Ytafmgmaelnpehaa
end

section
namespace Go.Proofs.Ytafmgmaelnpehaa
open Go.RowKit Go.TL Go.Shelf Go.Fu
attribute [local go_sem] Oper.semAt_some

def InsIf (kx' kx : List (Int × Int)) (y0 : Int × Int) (c : Prop) : Prop := ∀ y, y ∈ kx' ↔ y ∈ kx ∨ (y = y0 ∧ c)
structure LoopW (B0 : Nat) (A : Option Addr) (n c : Nat) (r : Value) (w : World) (bN bS b8 bX it : Nat) (st : Nat) (ks rem : List (Int × Int)) (W : World) : Prop where
  can : CanB B0 A n c r w W
  now : Boxed W (bN + 1) 141 (.map (some bS))
  set : SetR W bS ks
  cnt : Boxed W b8 3 (.int .i64 st)
  nxt : Boxed W (bX + 1) 141 (.map (some bX))
  iter : IterR encP W it bS (rem.map fun x => (x, .bool true))
  o1 : B0 + 1 < bN
  o2 : bN + 1 < b8
  o3 : bS < bX
  o4 : b8 < bX
  o5 : bX + 1 < it
theorem LoopW.grow {B : Nat} {B0 : Nat} {A : Option Addr} {n c : Nat} {r : Value} {w : World} {bN bS b8 bX it : Nat} {st : Nat} {ks rem : List (Int × Int)} {W W' : World} (h : LoopW B0 A n c r w bN bS b8 bX it st ks rem W) (hg : Grow B W W') (hB : B0 ≤ B) (hw : B0 ≤ w.heap.size) : LoopW B0 A n c r w bN bS b8 bX it st ks rem W' :=
  ⟨h.can.grow hg hB hw, hg.boxed h.now, h.set.grow hg, hg.boxed h.cnt, hg.boxed h.nxt, h.iter.grow hg, h.o1, h.o2, h.o3, h.o4, h.o5⟩
theorem LoopW.kept {B0 : Nat} {A : Option Addr} {n c : Nat} {r : Value} {w : World} {bN bS b8 bX it : Nat} {st : Nat} {ks rem : List (Int × Int)} {W W' : World} (h : LoopW B0 A n c r w bN bS b8 bX it st ks rem W) (hg : W.grownBy W' (some bX)) (hw : B0 ≤ w.heap.size) : LoopW B0 A n c r w bN bS b8 bX it st ks rem W' := by
  obtain ⟨h1, h2, h3, h4, h5, h6, o1, o2, o3, o4, o5⟩ := h
  have l3 := h3.lt
  have li : it < W.heap.size := by
    obtain ⟨_, _, _, _, _, _, hi, _⟩ := h6
    exact (Array.getElem?_eq_some_iff.1 hi).1
  exact ⟨h1.kept hg (by omega) hw, h2.kept hg (by simp; omega), h3.same (hg.block bS l3 (by simp; omega)), h4.kept hg (by simp; omega), h5.kept hg (by simp), h6.kept (hg.block bS l3 (by simp; omega)) (hg.block it li (by simp; omega)), o1, o2, o3, o4, o5⟩

theorem below_drew (V : World) : Below V.heap.size V V.drew := ⟨rfl, rfl, rfl, Nat.le_refl _, fun _ _ => rfl⟩
set_option maxRecDepth 100000 in
set_option maxHeartbeats 2000000 in
theorem can_round {A : Option Addr} {n c : Nat} {w : World} {bN bS b8 bX it b10 : Nat} {st : Nat} {ks rem kx : List (Int × Int)} {gm : FuncId} {cap : Array Value} {p : Int → Int → Bool} (hm : May gm cap p w)
    {V : World} (h : LoopW w.heap.size A n c (.func (.func gm) #[] cap) w bN bS b8 bX it st ks rem V) (h2 : 2 ≤ st) (h100 : st ≤ 100) {a b o : Int} (hx : SetR V bX kx) (h10 : Box2 V b10 137 a b)
    (ha : -1000 ≤ a ∧ a ≤ 1000) (hb : -1000 ≤ b ∧ b ≤ 1000) (ho : -1000 ≤ o ∧ o ≤ 1000) (l1 : Nat) (t : Array Value)
    (hF : Slots [none, none, some (.pointer (some ⟨w.heap.size, 0, none⟩)), some (.pointer (some ⟨w.heap.size + 1, 0, none⟩)), none, none, none, none, some (.pointer (some ⟨b8, 0, none⟩)), some (.pointer (some ⟨bX + 1, 0, none⟩)), some (.pointer (some ⟨b10, 0, none⟩)), some (.int .i64 o), none, none, none, none, none, none, none, none, none, none, none, none, none, none, none, none, none, none, none, none, none, none, none, none, none, none, none, none, none, none, none, none, none, none, none, none, none, none, none, none, none, none, none, none, none, none, none, none, none, none, none, none, none, none, none, none, none, none, none, none, none, none, none, none, none, none, none, none, none] t) :
    Exec Try.prog (some l1) (sub (Try.f58.body.getD .skip) [1,1,1,1,0,1,0,0, 1,0,0,1,0,1,0,0, 1,1,0,1,0,1,1,0,1]) t V fun e _ W' => e = .normal ∧ ∃ kx', SetR W' bX kx' ∧ InsIf kx' kx (b, o) (p ((st : Int) - 1) (bendI a b o) = true) ∧
      LoopW w.heap.size A n c (.func (.func gm) #[] cap) w bN bS b8 bX it st ks rem W' ∧ Box2 W' b10 137 a b ∧ (∀ k, k < V.heap.size → k ≠ bX → W'.heap[k]? = V.heap[k]?) := by
  obtain ⟨x, hx⟩ := Slots.open_ hF; simp only [fill, Nat.reduceAdd] at hx; subst hx; clear hF
  refine exec_block ?_
  refine exec_seq (exec_seq ?_)
  refine region_of_quiet (by kernel_rfl) (by kernel_rfl) (by kernel_rfl) (fun W' => Below V.heap.size V W') (below_drew V) fun ds => ?_
  have c9 : ∀ W', Below V.heap.size V W' → W'.cell? ⟨bX + 1, 0, none⟩ = some (.map (some bX)) := fun W' hw => (hw.cell h.nxt.lt).trans h.nxt.cell
  have c10 : ∀ W', Below V.heap.size V W' → W'.cell? ⟨b10, 0, none⟩ = some (.int .i64 a) ∧ W'.cell? ⟨b10, 1, none⟩ = some (.int .i64 b) := fun W' hw => ⟨(hw.cell h10.lt).trans h10.cell0, (hw.cell h10.lt).trans h10.cell1⟩
  have c8 : ∀ W', Below V.heap.size V W' → W'.cell? ⟨b8, 0, none⟩ = some (.int .i64 st) := fun W' hw => (hw.cell h.cnt.lt).trans h.cnt.cell
  have c3 : ∀ W', Below V.heap.size V W' → W'.cell? ⟨w.heap.size + 1, 0, none⟩ = some (.func (.func gm) #[] cap) := fun W' hw => (hw.cell h.can.r.lt).trans h.can.r.cell
  have cX : ∀ W', Below V.heap.size V W' → SetR W' bX kx := fun W' hw => hx.same (hw.block _ hx.lt)
  refine BigFrame.wpQuiet_want rfl (fun K hK => quiet_val (.map (some bX)) (fun wq hq => ?_) (hK _ ?_)); (focus (first | rfl | (simp [go_sem, c9 wq hq]; done))); clear hK K; simp only [Act.put, List.setIfInBounds_toArray, List.set_cons_succ, List.set_cons_zero]
  refine BigFrame.wpQuiet_want rfl (fun K hK => quiet_val (.pointer (some ⟨b10, 0, none⟩)) (fun wq hq => ?_) (hK _ ?_)); (focus (first | rfl | (simp [go_sem, (c10 wq hq).1]; done))); clear hK K; simp only [Act.put, List.setIfInBounds_toArray, List.set_cons_succ, List.set_cons_zero]
  refine BigFrame.wpQuiet_want rfl (fun K hK => quiet_val (.pointer (some ⟨b10, 1, none⟩)) (fun wq hq => ?_) (hK _ ?_)); (focus (first | rfl | (simp [go_sem, (c10 wq hq).1]; done))); clear hK K; simp only [Act.put, List.setIfInBounds_toArray, List.set_cons_succ, List.set_cons_zero]
  refine BigFrame.wpQuiet_want rfl (fun K hK => quiet_val (.int .i64 b) (fun wq hq => ?_) (hK _ ?_)); (focus (first | rfl | (simp [go_sem, (c10 wq hq).2]; done))); clear hK K; simp only [Act.put, List.setIfInBounds_toArray, List.set_cons_succ, List.set_cons_zero]
  refine BigFrame.wpQuiet_want rfl (fun K hK => quiet_val (.int .i64 o) (fun wq hq => ?_) (hK _ ?_)); (focus (first | rfl | (simp [go_sem]; done))); clear hK K; simp only [Act.put, List.setIfInBounds_toArray, List.set_cons_succ, List.set_cons_zero]
  refine BigFrame.wpQuiet_want rfl (fun K hK => quiet_val (.agg #[.int .i64 b, .int .i64 o]) (fun wq hq => ?_) (hK _ ?_)); (focus (first | rfl | (simp [go_sem]; done))); clear hK K; simp only [Act.put, List.setIfInBounds_toArray, List.set_cons_succ, List.set_cons_zero]
  refine BigFrame.wpQuiet_want rfl (fun K hK => quiet_val (.agg #[.int .i64 b, .int .i64 o]) (fun wq hq => ?_) (hK _ ?_)); (focus (first | rfl | (simp [go_sem]; done))); clear hK K; simp only [Act.put, List.setIfInBounds_toArray, List.set_cons_succ, List.set_cons_zero]
  have hlook : ∀ W', Below V.heap.size V W' → (Instr.lookup 141 (.map (some bX)) (.agg #[.int .i64 b, .int .i64 o]) false).run Try.prog W' = .ok (.bool (decide ((b, o) ∈ kx))) W' := fun W' hw => by
    have := (MapR.lookup (P := Try.prog) (cX W' hw) keyP Try.underlying141 (z := .bool false) (e := 4) rfl (x := (b, o)) ⟨hb, ho⟩ false)
    rw [at_set] at this
    exact this
  refine BigFrame.wpQuiet_want rfl (fun K hK => quiet_val (.bool (decide ((b, o) ∈ kx))) (fun wq hq => ?_) (hK _ ?_)); (focus (first | rfl | (simp [go_sem, hlook wq hq]; done))); clear hK K; simp only [Act.put, List.setIfInBounds_toArray, List.set_cons_succ, List.set_cons_zero]
  have hbd := bendI_bd a b o ha hb ho
  have hs0 := h.can.below.size
  have hgm : ∀ W', Below V.heap.size V W' → Calls Try.prog gm (#[.int .i64 ((st : Int) - 1), .int .i64 (bendI a b o)] ++ cap) W' fun e w'' => e = .returned (.bool (p ((st : Int) - 1) (bendI a b o))) ∧ Below V.heap.size V w'' := fun W' hq =>
    (hm.calls _ _ W' (by omega) (by omega) hbd.1 (by omega) (h.can.below.trans (hq.mono (by omega)))).mono fun e w'' ⟨he, hw'⟩ => ⟨he, hq.trans (hw'.mono hq.size)⟩
  by_cases hin : (b, o) ∈ kx
  · simp only [hin, decide_true]
    refine BigFrame.wpQuiet_want rfl (fun K hK => quiet_val (.bool true) (fun wq hq => ?_) (hK _ ?_)); (focus (first | rfl | (simp [go_sem]; done))); clear hK K; simp only [Act.put, List.setIfInBounds_toArray, List.set_cons_succ, List.set_cons_zero]
    go_big_quiet_skip
    go_big_quiet_skip
    go_big_quiet_skip
    go_big_quiet_skip
    go_big_quiet_skip
    go_big_quiet_skip
    go_big_quiet_skip
    go_big_quiet_skip
    go_big_quiet_skip
    refine BigFrame.wpQuiet_want rfl (fun K hK => quiet_val (.bool true) (fun wq hq => ?_) (hK _ ?_)); (focus (first | rfl | (simp [go_sem]; done))); clear hK K; simp only [Act.put, List.setIfInBounds_toArray, List.set_cons_succ, List.set_cons_zero]
    refine wpQuiet_nil ⟨rfl, fun W' hW' => ⟨Keep.of_below hW', ?_⟩⟩
    refine exec_cond (b := true) rfl (fun _ => ?_) (fun h => by cases h)
    refine exec_exit ?_
    refine ⟨rfl, kx, cX W' hW', fun y => ⟨.inl, ?_⟩, h.grow (Grow.of_below (B := V.heap.size) hW') (by have := h.can.below.size; omega) (by omega), (hW'.block b10 h10.lt).trans h10, fun k hk _ => hW'.block k hk⟩
    rintro (hy | ⟨rfl, _⟩)
    · exact hy
    · exact hin
  · simp only [hin, decide_false]
    refine BigFrame.wpQuiet_want rfl (fun K hK => quiet_val (.bool false) (fun wq hq => ?_) (hK _ ?_)); (focus (first | rfl | (simp [go_sem]; done))); clear hK K; simp only [Act.put, List.setIfInBounds_toArray, List.set_cons_succ, List.set_cons_zero]
    refine BigFrame.wpQuiet_want rfl (fun K hK => quiet_val (.pointer (some ⟨w.heap.size + 1, 0, none⟩)) (fun wq hq => ?_) (hK _ ?_)); (focus (first | rfl | (simp [go_sem, c3 wq hq]; done))); clear hK K; simp only [Act.put, List.setIfInBounds_toArray, List.set_cons_succ, List.set_cons_zero]
    refine BigFrame.wpQuiet_want rfl (fun K hK => quiet_val (.func (.func gm) #[] cap) (fun wq hq => ?_) (hK _ ?_)); (focus (first | rfl | (simp [go_sem, c3 wq hq]; done))); clear hK K; simp only [Act.put, List.setIfInBounds_toArray, List.set_cons_succ, List.set_cons_zero]
    refine BigFrame.wpQuiet_want rfl (fun K hK => quiet_val (.int .i64 st) (fun wq hq => ?_) (hK _ ?_)); (focus (first | rfl | (simp [go_sem, c8 wq hq]; done))); clear hK K; simp only [Act.put, List.setIfInBounds_toArray, List.set_cons_succ, List.set_cons_zero]
    refine BigFrame.wpQuiet_want rfl (fun K hK => quiet_val (.int .i64 ((st : Int) - 1)) (fun wq hq => ?_) (hK _ ?_)); (focus (first | rfl | (simp [go_sem, IntWalk.i64_in _ (show -9223372036854775808 ≤ (st : Int) - 1 ∧ (st : Int) - 1 ≤ 9223372036854775807 by omega)]; done))); clear hK K; simp only [Act.put, List.setIfInBounds_toArray, List.set_cons_succ, List.set_cons_zero]
    refine BigFrame.wpQuiet_want rfl (fun K hK => quiet_val (.agg #[.int .i64 a, .int .i64 b]) (fun wq hq => ?_) (hK _ ?_)); (focus (first | rfl | (simp [go_sem, (c10 wq hq).1, (c10 wq hq).2]; done))); clear hK K; simp only [Act.put, List.setIfInBounds_toArray, List.set_cons_succ, List.set_cons_zero]
    refine BigFrame.wpQuiet_want rfl (fun K hK => quiet_val (.int .i64 o) (fun wq hq => ?_) (hK _ ?_)); (focus (first | rfl | (simp [go_sem]; done))); clear hK K; simp only [Act.put, List.setIfInBounds_toArray, List.set_cons_succ, List.set_cons_zero]
    refine BigFrame.wpQuiet_want rfl (fun K hK => quiet_call (.int .i64 (bendI a b o)) (f := 89) (args := #[.agg #[.int .i64 a, .int .i64 b], .int .i64 o]) (fun wq hq => ?_) (fun wq hq => ?_) (hK _ ?_)); (focus (simp [go_sem, enters_of Try.func89 (by kernel_rfl) rfl]; done)); exact (bend_any a b o wq ha hb ho).mono (fun e W' ⟨he, hw'⟩ => ⟨he, hw'.symm ▸ hq.alloc hq.size _⟩); clear hK K; simp only [Act.put, List.setIfInBounds_toArray, List.set_cons_succ, List.set_cons_zero]
    refine BigFrame.wpQuiet_want rfl (fun K hK => quiet_call (.bool (p ((st : Int) - 1) (bendI a b o))) (f := gm) (args := #[.int .i64 ((st : Int) - 1), .int .i64 (bendI a b o)] ++ cap) (fun wq hq => ?_) (fun wq hq => ?_) (hK _ ?_)); (focus (simp [go_sem, hm.ent]; done)); exact hgm wq hq; clear hK K; simp only [Act.put, List.setIfInBounds_toArray, List.set_cons_succ, List.set_cons_zero]
    refine BigFrame.wpQuiet_want rfl (fun K hK => quiet_val (.bool (!p ((st : Int) - 1) (bendI a b o))) (fun wq hq => ?_) (hK _ ?_)); (focus (first | rfl | (simp [go_sem]; done))); clear hK K; simp only [Act.put, List.setIfInBounds_toArray, List.set_cons_succ, List.set_cons_zero]
    refine BigFrame.wpQuiet_want rfl (fun K hK => quiet_val (.bool (!p ((st : Int) - 1) (bendI a b o))) (fun wq hq => ?_) (hK _ ?_)); (focus (first | rfl | (simp [go_sem]; done))); clear hK K; simp only [Act.put, List.setIfInBounds_toArray, List.set_cons_succ, List.set_cons_zero]
    refine wpQuiet_nil ⟨rfl, fun W' hW' => ⟨Keep.of_below hW', ?_⟩⟩
    have h' := h.grow (Grow.of_below (B := V.heap.size) hW') (by omega) (by omega)
    have hx' := cX W' hW'
    have h10' : Box2 W' b10 137 a b := (hW'.block b10 h10.lt).trans h10
    refine exec_cond (b := !p ((st : Int) - 1) (bendI a b o)) rfl (fun hp => ?_) (fun hp => ?_)
    · refine exec_exit ?_
      refine ⟨rfl, kx, hx', fun y => ⟨.inl, ?_⟩, h', h10', fun k hk _ => hW'.block k hk⟩
      rintro (hy | ⟨rfl, hp'⟩)
      · exact hy
      · rw [hp'] at hp
        cases hp
    · have hp' : p ((st : Int) - 1) (bendI a b o) = true := by simpa using hp
      clear c9 c10 c8 c3 hlook hgm
      refine exec_skip ?_
      show Exec _ _ _ _ _ _
      have d9 := h'.nxt.cell
      have d0 := h10'.cell0
      have d1 := h10'.cell1
      refine exec_region_r fun ds => ?_
      gi_wp2_with (gi_at_mapUpdate; refine walk_mapUpdate rfl rfl rfl hx' keyP Try.underlying141 (y := (b, o)) ⟨hb, ho⟩ rfl (u := .bool true) rfl ?_; intro W2 hu hgr)
      rw [put_set] at hu
      refine eq_mk (keep_map (Keep.refl _) hx' hgr) ?_
      refine ⟨rfl, ins kx (b, o), hu, fun y => ?_, h'.kept hgr (by omega), box2_kept h10' hgr ?_, fun k hk hne => (hgr.block k (Nat.lt_of_lt_of_le hk hW'.size) (by simp; exact hne)).trans (hW'.block k hk)⟩
      · rw [mem_ins]
        constructor
        · rintro (h | rfl)
          · exact .inl h
          · exact .inr ⟨rfl, by first | exact hp' | trivial⟩
        · rintro (h | ⟨h, _⟩)
          · exact .inl h
          · exact .inr h
      · intro e
        rw [e] at h10'
        obtain ⟨es, cl, hm', _⟩ := hx'
        rw [show W'.heap[bX]? = _ from h10'] at hm'
        cases hm'
end Go.Proofs.Ytafmgmaelnpehaa
end

section
namespace Go.Proofs.Ytafmgmaelnpehaa
open Go.RowKit Go.TL Go.Shelf Go.Fu
attribute [local go_sem] Oper.semAt_some


def PairsTo (ks : List (Int × Int)) (sn : Int × Int) (p : Int → Int → Bool) (st : Nat) (y : Int × Int) : Prop := ∃ a, (a, y.1) ∈ ks ∧ y.2 ∈ spanL sn ∧ p ((st : Int) - 1) (bendI a y.1 y.2) = true
def AllOf (ks dn rem : List (Int × Int)) : Prop := ∀ x, x ∈ ks ↔ x ∈ dn ∨ x ∈ rem
def Okay (ks : List (Int × Int)) : Prop := ∀ x ∈ ks, okP x

set_option maxRecDepth 100000 in
def PairsI (g off n c : Nat) (w : World) (bN bS b8 bX it st : Nat) (ks : List (Int × Int)) (gm : FuncId) (cap : Array Value) (p : Int → Int → Bool) (sn : Int × Int) (m : Nat) (t : Array Value) (W : World) : Prop :=
  ∃ rem dn kx, rem.length = m ∧ AllOf ks dn rem ∧ LoopW w.heap.size (some ⟨g, off, none⟩) n c (.func (.func gm) #[] cap) w bN bS b8 bX it st ks rem W ∧ SetR W bX kx ∧ KeysAre kx (PairsTo dn sn p st) ∧ Slots [none, none, some (.pointer (some ⟨w.heap.size, 0, none⟩)), some (.pointer (some ⟨w.heap.size + 1, 0, none⟩)), none, some (.pointer (some ⟨bN + 1, 0, none⟩)), none, none, some (.pointer (some ⟨b8, 0, none⟩)), some (.pointer (some ⟨bX + 1, 0, none⟩)), none, none, none, none, none, none, none, none, none, none, none, none, none, none, none, none, none, none, none, none, none, none, none, none, none, none, none, none, none, some (.pointer (some ⟨it, 0, none⟩)), none, none, none, none, none, none, none, none, none, none, none, none, none, none, none, none, none, none, none, none, none, none, none, none, none, none, none, none, none, none, none, none, none, none, none, none, none, none, none, none, none] t
set_option maxRecDepth 100000 in
set_option maxHeartbeats 2000000 in
theorem can_pairs {g off n c : Nat} {w : World} {bN bS b8 bX it : Nat} {st : Nat} {ks : List (Int × Int)} {gm : FuncId} {cap : Array Value} {p : Int → Int → Bool} (hm : May gm cap p w) (hg : g < w.heap.size) {sn : Int × Int}
    (hc0 : w.cell? ⟨g, off + st * 2, none⟩ = some (.int .i64 sn.1)) (hc1 : w.cell? ⟨g, off + st * 2 + 1, none⟩ = some (.int .i64 sn.2)) (hsn : okSpan sn) (h2 : 2 ≤ st) (hst : st < n) (hn : n ≤ 8) (hkb : Okay ks)
    {V : World} (h : LoopW w.heap.size (some ⟨g, off, none⟩) n c (.func (.func gm) #[] cap) w bN bS b8 bX it st ks ks V) (hx : SetR V bX []) (t : Array Value)
    (hF : Slots [none, none, some (.pointer (some ⟨w.heap.size, 0, none⟩)), some (.pointer (some ⟨w.heap.size + 1, 0, none⟩)), none, some (.pointer (some ⟨bN + 1, 0, none⟩)), none, none, some (.pointer (some ⟨b8, 0, none⟩)), some (.pointer (some ⟨bX + 1, 0, none⟩)), none, none, none, none, none, none, none, none, none, none, none, none, none, none, none, none, none, none, none, none, none, none, none, none, none, none, none, none, none, some (.pointer (some ⟨it, 0, none⟩)), none, none, none, none, none, none, none, none, none, none, none, none, none, none, none, none, none, none, none, none, none, none, none, none, none, none, none, none, none, none, none, none, none, none, none, none, none, none, none, none, none] t) :
    Exec Try.prog none (sub (Try.f58.body.getD .skip) [1,1,1,1,0,1,0,0, 1,0,0,1,0,1]) t V fun e t' W' => e = .normal ∧ (∃ kx, SetR W' bX kx ∧ KeysAre kx (PairsTo ks sn p st)) ∧
      LoopW w.heap.size (some ⟨g, off, none⟩) n c (.func (.func gm) #[] cap) w bN bS b8 bX it st ks [] W' ∧ Slots [none, none, some (.pointer (some ⟨w.heap.size, 0, none⟩)), some (.pointer (some ⟨w.heap.size + 1, 0, none⟩)), none, some (.pointer (some ⟨bN + 1, 0, none⟩)), none, none, some (.pointer (some ⟨b8, 0, none⟩)), some (.pointer (some ⟨bX + 1, 0, none⟩)), none, none, none, none, none, none, none, none, none, none, none, none, none, none, none, none, none, none, none, none, none, none, none, none, none, none, none, none, none, some (.pointer (some ⟨it, 0, none⟩)), none, none, none, none, none, none, none, none, none, none, none, none, none, none, none, none, none, none, none, none, none, none, none, none, none, none, none, none, none, none, none, none, none, none, none, none, none, none, none, none, none] t' := by
  refine exec_block ?_
  refine exec_loop (PairsI g off n c w bN bS b8 bX it st ks gm cap p sn) ks.length
    ⟨ks, [], [], rfl, fun x => by simp, h, hx, fun x => by simp [PairsTo], hF⟩ ?_
  clear h hx hF
  clear V t
  rintro m t V ⟨rem, dn, kx, hlen, hall, h, hx, hkx, hF⟩
  obtain ⟨x, hx⟩ := Slots.open_ hF; simp only [fill, Nat.reduceAdd] at hx; subst hx; clear hF
  have hne : it ≠ bS := by have := h.o3; have := h.o5; omega
  have hit := h.iter
  have hstI : (st : Int) < n := by omega
  refine exec_seq (exec_region_o fun ds => ?_)
  gi_wp2_with (gi_at_next; refine walk_next rfl rfl rfl hit hne (fun hnil => ?_) (fun pp pre post W' hl' hit' hgr hen => ?_))
  · refine eq_mk (Keep.refl _) ?_
    show Exec _ _ _ _ _ _
    refine exec_seq (exec_cond (b := false) rfl (fun h => by cases h) (fun _ => ?_))
    have hr : rem = [] := by simpa using hnil
    refine exec_exit ⟨rfl, ⟨kx, hx, fun y => ?_⟩, hr ▸ h, ?_⟩
    · rw [hkx y]
      unfold PairsTo
      simp only [hall _, hr, List.not_mem_nil, or_false]
    · exact (by simp only [Slots, Fits, and_self])
  · skip
    have hli : it < V.heap.size := by
      obtain ⟨_, _, _, _, _, _, hi, _⟩ := hit
      exact (Array.getElem?_eq_some_iff.1 hi).1
    obtain ⟨ob, hob⟩ : ∃ ob, V.heap[it]? = some ob ∧ book ob = false := by
      obtain ⟨_, _, _, _, _, _, hi, _⟩ := hit
      exact ⟨_, hi, rfl⟩
    refine eq_mk ((Keep.refl _).grown hgr fun j o e ho => by cases e; rw [hob.1] at ho; cases ho; exact hob.2) ?_
    show Exec _ _ _ _ _ _
    obtain ⟨pre', post', y, rfl, rfl, rfl, rfl⟩ : ∃ pre' post' y, rem = pre' ++ y :: post' ∧ pre = pre'.map (fun x => (x, Value.bool true)) ∧ post = post'.map (fun x => (x, Value.bool true)) ∧ pp = (y, .bool true) := by
      obtain ⟨a, b, e1, e2, e3⟩ := List.map_eq_append_iff.1 hl'
      obtain ⟨y, b', e4, e5, e6⟩ := List.map_eq_cons_iff.1 e3
      exact ⟨a, b', y, by rw [e1, e4], e2.symm, e6.symm, e5.symm⟩
    clear hl' hob
    obtain ⟨a, b⟩ := y
    have hyk : (a, b) ∈ ks := (hall (a, b)).2 (.inr (by simp))
    have hab := hkb _ hyk
    rw [← List.map_append] at hit'
    have hlt3 := h.set.lt
    have hltX := hx.lt
    have o3 := h.o3
    have o5 := h.o5
    have o2 := h.o2
    have o1 := h.o1
    have o4 := h.o4
    have h' : LoopW w.heap.size (some ⟨g, off, none⟩) n c (.func (.func gm) #[] cap) w bN bS b8 bX it st ks (pre' ++ post') W' :=
      ⟨h.can.kept hgr (by omega) (Nat.le_refl _), h.now.kept hgr (by simp; omega), h.set.same (hgr.block bS hlt3 (by simp; omega)), h.cnt.kept hgr (by simp; omega), h.nxt.kept hgr (by simp; omega), hit', o1, o2, o3, o4, o5⟩
    have hx' : SetR W' bX kx := hx.same (hgr.block bX hltX (by simp; omega))
    have hli' : it < W'.heap.size := Nat.lt_of_lt_of_le hli hgr.size
    clear h hx hit hgr hit' hlt3 hltX hli
    clear V
    refine exec_seq (exec_cond (b := true) rfl (fun _ => ?_) (fun h => by cases h))
    refine exec_skip ?_
    show Exec _ _ _ _ _ _
    simp only [encP] at hen ⊢
    refine exec_block (exec_seq (exec_region_o fun ds => ?_))
    gi_wp2
    refine eq_mk ((Keep.refl _).alloc _) ?_
    show Exec _ _ _ _ _ _
    refine exec_scope (exec_seq (exec_label ?_))
    show Exec _ _ _ _ _ _
    have gr := Grow.alloc W'.heap.size W' (.cells #[.int .i64 a, .int .i64 b] 137)
    have p0 := h'.grow gr h'.can.below.size (Nat.le_refl _)
    have p1 := hx'.grow gr
    have p2 := Box2.new W' 137 a b
    have hb10 : it < W'.heap.size := hli'
    have hszA : (W'.alloc (.cells #[.int .i64 a, .int .i64 b] 137)).heap.size = W'.heap.size + 1 := by simp
    generalize hWA : W'.alloc (.cells #[.int .i64 a, .int .i64 b] 137) = WA at *
    clear hWA gr h' hx' hen
    generalize W'.heap.size = b10 at *
    have hbC : b10 < WA.heap.size := by omega
    clear hszA
    clear W'
    have k0 := p0.can.below.cell (p := ⟨g, off + st * 2, none⟩) hg
    have k1 := p0.can.below.cell (p := ⟨g, off + st * 2 + 1, none⟩) hg
    rw [hc0] at k0
    rw [hc1] at k1
    have k2 := p0.can.f.cell
    have k3 := p0.cnt.cell
    refine exec_seq (exec_region_o fun ds => ?_)
    gi_wp2_with fail
    refine ⟨trivial, rfl, (callsIn_wide.2 (all_any _ _ _)).mono ?_⟩
    rintro e w' ⟨rfl, rfl⟩
    gi_wp2_with fail
    refine eq_mk ((Keep.refl _).alloc _) ?_
    show Exec _ _ _ _ _ _
    refine exec_block ?_
    have itB := all_iter WA sn hsn
    have gr := Grow.alloc WA.heap.size WA (.cells #[.int .i64 sn.1, .int .i64 sn.2] 89)
    have q0 := p0.grow gr p0.can.below.size (Nat.le_refl _)
    have q1 := p1.grow gr
    have q2 := gr.box2 p2
    have q3 := Box2.new WA 89 sn.1 sn.2
    have hszB : (WA.alloc (.cells #[.int .i64 sn.1, .int .i64 sn.2] 89)).heap.size = WA.heap.size + 1 := by simp
    have hwC : w.heap.size ≤ WA.heap.size := p0.can.below.size
    generalize hWB : WA.alloc (.cells #[.int .i64 sn.1, .int .i64 sn.2] 89) = WB at *
    clear hWB gr p0 p1 p2 k0 k1 k2 k3
    generalize WA.heap.size = bC at *
    clear WA
    have okN : ∀ a, a ∈ spanL sn → -1000 ≤ a ∧ a ≤ 1000 := fun a ha => by have := (mem_spanL _ _).1 ha; obtain ⟨_, _, _⟩ := hsn; omega
    have HkN := Lib.hid okN
    clear okN
    refine exec_range (L := spanL sn) rfl (enters_of Try.func93 (by kernel_rfl) rfl) itB (fun k hk => by omega) (fun _ => rfl)
      (fun k V => LoopW w.heap.size (some ⟨g, off, none⟩) n c (.func (.func gm) #[] cap) w bN bS b8 bX it st ks (pre' ++ post') V ∧ (∃ kx, SetR V bX kx ∧ KeysAre kx fun y => PairsTo dn sn p st y ∨ (y.1 = b ∧ y.2 ∈ (spanL sn).take k ∧ p ((st : Int) - 1) (bendI a b y.2) = true)) ∧ Box2 V b10 137 a b ∧ Box2 V bC 89 sn.1 sn.2)
      (fun _ _ => False)
      (fun k => Stab.and (fun _ _ h1 hg => h1.grow hg (by omega) (Nat.le_refl _)) (Stab.and (Stab.ex fun ks => Stab.and (Stab.setR _ _ _) (Stab.pure _ _)) (Stab.and (Stab.box2 _ _ _ _ _) (Stab.box2 _ _ _ _ _)))) (fun _ => Stab.pure _ _)
      ⟨q0, ⟨kx, q1, fun x => by rw [hkx x]; simp⟩, q2, q3⟩ ?_ ?_ (fun _ h => h.elim) (fun _ _ h => h.elim)
    · have hltWB := q3.lt
      clear q0 q1 q2 q3 hkx itB hszB
      rintro l1 k hk V hV ⟨h, ⟨kx, hx, hkx⟩, h10, hC⟩
      have ea : (spanL sn).take (k + 1) = (spanL sn).take k ++ [(spanL sn)[k]'hk] := List.take_succ_eq_append_getElem hk
      have ho := HkN.out _ (List.getElem_mem hk)
      have HMK := hkx
      clear hkx
      have HEA := Lib.hid ea
      clear ea
      generalize (spanL sn)[k]'hk = o at *
      refine exec_region_r fun ds => ?_
      gi_wp2
      refine eq_mk (Keep.refl _) ⟨rfl, Same.refl _ _, ?_⟩
      intro V1 hG hsz1
      have r0 := h.grow hG (by omega) (Nat.le_refl _)
      have r1 := hx.grow hG
      have r2 := hG.box2 h10
      have r3 := hG.box2 hC
      refine (can_round hm r0 h2 (by omega) r1 r2 hab.1 hab.2 ho l1 _ (by simp only [Slots, Fits, and_self])).mono ?_
      rintro e t' W3 ⟨rfl, kx3, s1, s2, s3, s4, s5⟩
      have hltC := r3.lt
      refine ⟨fun k hk => by rw [hk]; exact s5 bC hltC (by omega), s3, ⟨kx3, s1, fun y => ?_⟩, s4, (s5 bC hltC (by omega)).trans r3⟩
      rw [s2 y, HMK y]
      show (_ ∨ _) ∨ _ ↔ _ ∨ _
      rw [HEA.out, List.mem_append, List.mem_singleton]
      constructor
      · rintro ((u | ⟨u1, u2, u3⟩) | ⟨rfl, u⟩)
        · exact .inl u
        · exact .inr ⟨u1, .inl u2, u3⟩
        · exact .inr ⟨rfl, .inr rfl, u⟩
      · rintro (u | ⟨u1, (u2 | u2), u3⟩)
        · exact .inl (.inl u)
        · exact .inl (.inr ⟨u1, u2, u3⟩)
        · exact .inr ⟨Prod.ext u1 u2, u2 ▸ u3⟩
    · rintro V ⟨h, ⟨kx', hx', hkx'⟩, h10, hC⟩
      rw [List.take_length] at hkx'
      refine ⟨pre'.length + post'.length, by simp at hlen; omega, pre' ++ post', (a, b) :: dn, kx', by simp, fun z => ?_, h, hx', fun y => ?_, ?_⟩
      · rw [hall z]
        simp only [List.mem_append, List.mem_cons]
        constructor
        · rintro (u | u | u | u)
          · exact .inl (.inr u)
          · exact .inr (.inl u)
          · exact .inl (.inl u)
          · exact .inr (.inr u)
        · rintro ((u | u) | u | u)
          · exact .inr (.inr (.inl u))
          · exact .inl u
          · exact .inr (.inl u)
          · exact .inr (.inr (.inr u))
      · rw [hkx' y]
        unfold PairsTo
        constructor
        · rintro (⟨a', u1, u2, u3⟩ | ⟨u1, u2, u3⟩)
          · exact ⟨a', .tail _ u1, u2, u3⟩
          · refine ⟨a, ?_, u2, u1 ▸ u3⟩
            rw [u1]
            exact .head _
        · rintro ⟨a', u1, u2, u3⟩
          rcases List.mem_cons.1 u1 with u1 | u1
          · simp only [Prod.mk.injEq] at u1
            obtain ⟨rfl, rfl⟩ := u1
            exact .inr ⟨rfl, u2, u3⟩
          · exact .inl ⟨a', u1, u2, u3⟩
      · exact (by simp only [Slots, Fits, and_self])
end Go.Proofs.Ytafmgmaelnpehaa
end

section
namespace Go.Proofs.Ytafmgmaelnpehaa
open Go.RowKit Go.TL Go.Shelf Go.Fu
attribute [local go_sem] Oper.semAt_some



theorem getD_mem (l : List (Int × Int)) (i : Nat) (h : i < l.length) : l.getD i (0, 0) ∈ l := by
  rw [List.getD_eq_getElem?_getD, List.getElem?_eq_getElem h]
  exact List.getElem_mem h
theorem span_ok (l : List (Int × Int)) (hok : ∀ x ∈ l, okSpan x) (i : Nat) (h : i < l.length) (y : Int) (hy : y ∈ spanL (l.getD i (0, 0))) : -1000 ≤ y ∧ y ≤ 1000 := by
  have := (mem_spanL _ _).1 hy
  obtain ⟨_, _, _⟩ := hok _ (getD_mem l i h)
  omega
theorem reach_ok (l : List (Int × Int)) (p : Int → Int → Bool) (hok : ∀ x ∈ l, okSpan x) : ∀ (n : Nat) (h : n < l.length) (x : Int × Int), Fu.Reach l p n x → okP x
  | 0, _, _, hx => hx.elim
  | 1, h, x, hx => ⟨span_ok l hok 0 (by omega) _ hx.1, span_ok l hok 1 h _ hx.2⟩
  | n + 2, h, x, hx => by
    obtain ⟨h1, a, h2, _⟩ := hx
    exact ⟨(reach_ok l p hok (n + 1) (by omega) _ h2).2, span_ok l hok (n + 2) h _ h1⟩
theorem reach_next {l : List (Int × Int)} {p : Int → Int → Bool} {ks kx : List (Int × Int)} {st : Nat} (h2 : 2 ≤ st) (hk : KeysAre ks (Fu.Reach l p (st - 1))) (hx : KeysAre kx (PairsTo ks (l.getD st (0, 0)) p st)) : KeysAre kx (Fu.Reach l p (st + 1 - 1)) := by
  obtain ⟨n, rfl⟩ : ∃ n, st = n + 2 := ⟨st - 2, by omega⟩
  intro y
  rw [hx y]
  have e : ((n + 2 : Nat) : Int) - 1 = (n : Int) + 1 := by omega
  show PairsTo _ _ _ _ _ ↔ y.2 ∈ spanL (l.getD (n + 2) (0, 0)) ∧ ∃ a, Fu.Reach l p (n + 1) (a, y.1) ∧ p ((n : Int) + 1) (bendI a y.1 y.2) = true
  unfold PairsTo
  rw [e]
  constructor
  · rintro ⟨a, h1, h2, h3⟩
    exact ⟨h2, a, (hk _).1 h1, h3⟩
  · rintro ⟨h2, a, h1, h3⟩
    exact ⟨a, (hk _).2 h1, h2, h3⟩
def CanI (g off n c : Nat) (w : World) (bN : Nat) (gm : FuncId) (cap : Array Value) (l : List (Int × Int)) (p : Int → Int → Bool) (m : Nat) (t : Array Value) (W : World) : Prop :=
  ∃ st b8 bS ks, m + st = n ∧ 2 ≤ st ∧ CanB w.heap.size (some ⟨g, off, none⟩) n c (.func (.func gm) #[] cap) w W ∧ SetR W bS ks ∧ KeysAre ks (Fu.Reach l p (st - 1)) ∧ Boxed W (bN + 1) 141 (.map (some bS)) ∧ Boxed W b8 3 (.int .i64 st) ∧ bN + 1 < b8 ∧ Slots [none, none, some (.pointer (some ⟨w.heap.size, 0, none⟩)), some (.pointer (some ⟨w.heap.size + 1, 0, none⟩)), none, some (.pointer (some ⟨bN + 1, 0, none⟩)), none, none, some (.pointer (some ⟨b8, 0, none⟩)), none, none, none, none, none, none, none, none, none, none, none, none, none, none, none, none, none, none, none, none, none, none, none, none, none, none, none, none, none, none, none, none, none, none, none, none, none, none, none, none, none, none, none, none, none, none, none, none, none, none, none, none, none, none, none, none, none, none, none, none, none, none, none, none, none, none, none, none, none, none, none, none] t
def CanEnd (n : Nat) (w : World) (bN : Nat) (l : List (Int × Int)) (p : Int → Int → Bool) (e : Exit) (t : Array Value) (W : World) : Prop :=
  e = .normal ∧ ∃ bS ks, SetR W bS ks ∧ KeysAre ks (Fu.Reach l p (n - 1)) ∧ Boxed W (bN + 1) 141 (.map (some bS)) ∧ Below w.heap.size w W ∧ Slots [none, none, none, none, none, some (.pointer (some ⟨bN + 1, 0, none⟩)), none, none, none, none, none, none, none, none, none, none, none, none, none, none, none, none, none, none, none, none, none, none, none, none, none, none, none, none, none, none, none, none, none, none, none, none, none, none, none, none, none, none, none, none, none, none, none, none, none, none, none, none, none, none, none, none, none, none, none, none, none, none, none, none, none, none, none, none, none, none, none, none, none, none, none] t

set_option maxRecDepth 100000 in
set_option maxHeartbeats 2000000 in
theorem can_loop {g off c : Nat} {w : World} {bN : Nat} {l : List (Int × Int)} {gm : FuncId} {cap : Array Value} {p : Int → Int → Bool} (hm : May gm cap p w) (hg : g < w.heap.size) (hN : w.heap.size + 1 < bN)
    (hc : Hid (∀ i (h : i < l.length), w.cell? ⟨g, off + i * 2, none⟩ = some (.int .i64 (l[i]'h).1) ∧ w.cell? ⟨g, off + i * 2 + 1, none⟩ = some (.int .i64 (l[i]'h).2))) (hok : ∀ x ∈ l, okSpan x) (hn : l.length ≤ 8)
    {V : World} (t : Array Value) (hI : CanI g off l.length c w bN gm cap l p (l.length - 2) t V) :
    Exec Try.prog none (sub (Try.f58.body.getD .skip) [1,1,1,1,0,1]) t V (CanEnd l.length w bN l p) := by
  refine exec_block ?_
  refine exec_loop (CanI g off l.length c w bN gm cap l p) (l.length - 2) hI ?_
  clear hI
  clear V t
  rintro m t V ⟨st, b8, bS, ks, hms, h2, h, hS, hK, hX, h8, hb8, hF⟩
  obtain ⟨x, hx⟩ := Slots.open_ hF; simp only [fill, Nat.reduceAdd] at hx; subst hx; clear hF
  have k1 := h.f.cell
  have k2 := h8.cell
  refine exec_seq (exec_seq (exec_region_o fun ds => ?_))
  gi_wp2
  refine eq_mk (Keep.refl _) ?_
  show Exec _ _ _ _ _ _
  refine exec_cond (b := decide (st < l.length)) rfl (fun hb => ?_) (fun hb => ?_)
  · have hst : st < l.length := of_decide_eq_true hb
    have sst : (l.getD st (0, 0)) = l[st]'hst := by simp [List.getD_eq_getElem?_getD, hst]
    have hsn := hok _ (List.getElem_mem hst)
    have c0 := hc.out st hst
    have hkb : Okay ks := fun x hx => reach_ok l p hok (st - 1) (by omega) x ((hK x).1 hx)
    refine exec_skip ?_
    show Exec _ _ _ _ _ _
    refine exec_seq (exec_block (exec_seq (exec_region_o fun ds => ?_)))
    have hmm := @run_makeMap Try.prog
    gi_wp2
    clear hmm
    refine eq_mk (((Keep.refl _).alloc _).alloc _) ?_
    show Exec _ _ _ _ _ _
    have hs0 := h.below.size
    have hlX := hX.lt
    have hl8 := h8.lt
    have hlS := hS.lt
    have gr : Grow V.heap.size V ((V.alloc (.map #[] 0)).alloc (.cells #[.map (some V.heap.size)] 141)) := (Grow.alloc _ _ _).trans (Grow.alloc _ _ _)
    have p0 := h.grow gr hs0 (Nat.le_refl _)
    have p1 := hS.grow gr
    have p2 := gr.boxed hX
    have p3 := gr.boxed h8
    have p4 : SetR ((V.alloc (.map #[] 0)).alloc (.cells #[.map (some V.heap.size)] 141)) V.heap.size [] := MapR.grow (MapR.new encP okP V) (Grow.alloc 0 _ _)
    have p5 : Boxed ((V.alloc (.map #[] 0)).alloc (.cells #[.map (some V.heap.size)] 141)) (V.heap.size + 1) 141 (.map (some V.heap.size)) := by (simp only [Boxed, Box2, heap_alloc_at, heap_set_at, World.size_alloc, World.size_setCell]; repeat (first | rfl | rw [if_pos (by omega)] | rw [if_neg (by omega)]))
    have hsz : V.heap.size + 1 < ((V.alloc (.map #[] 0)).alloc (.cells #[.map (some V.heap.size)] 141)).heap.size := by simp
    generalize (V.alloc (.map #[] 0)).alloc (.cells #[.map (some V.heap.size)] 141) = W at *
    clear gr h hS hX h8 k1 k2
    generalize V.heap.size = bX at *
    clear V
    have q2 := p2.cell
    refine exec_seq (exec_seq (exec_region_o fun ds => ?_))
    gi_wp2_with (gi_at_range; refine walk_range rfl rfl rfl p1 Try.underlying141 ?_; intro since hit)
    refine eq_mk ((Keep.refl _).alloc _) ?_
    show Exec _ _ _ _ _ _
    have gr := Grow.alloc W.heap.size W (.mapIter (some bS) since #[] since)
    have r0 := p0.grow gr p0.below.size (Nat.le_refl _)
    have r1 := p1.grow gr
    have r2 := gr.boxed p2
    have r3 := gr.boxed p3
    have r4 := p4.grow gr
    have r5 := gr.boxed p5
    generalize W.alloc (.mapIter (some bS) since #[] since) = X at *
    clear gr p0 p1 p2 p3 p4 p5 q2
    generalize W.heap.size = it at *
    clear W
    refine (can_pairs (bX := bX) (it := it) hm hg c0.1 c0.2 hsn h2 hst hn hkb ⟨r0, r2, r1, r3, r5, hit, hN, hb8, by omega, by omega, by omega⟩ r4 _ (by simp only [Slots, Fits, and_self])).mono ?_
    rintro e t' W' ⟨rfl, ⟨kx, hx, hkx⟩, hL, hF⟩
    show Exec _ _ _ _ _ _
    clear r0 r1 r2 r3 r4 r5 hit
    clear X
    obtain ⟨x, hx⟩ := Slots.open_ hF; simp only [fill, Nat.reduceAdd] at hx; subst hx; clear hF
    rw [← sst] at hkx
    have hKx := reach_next h2 hK hkx
    have n1 := hL.nxt.cell
    have n2 := hL.now.cell
    have n3 := hL.now.frozen
    have hlX := hx.lt
    refine exec_region_o fun ds => ?_
    gi_wp2
    refine eq_mk ((Keep.refl _).setCell _ _) ?_
    show Exec _ _ _ _ _ _
    have m0 : CanB w.heap.size (some ⟨g, off, none⟩) l.length c (.func (.func gm) #[] cap) w (W'.setCell ⟨bN + 1, 0, none⟩ (.map (some bX))) :=
      ⟨(Below.heap_setCell _ _ _ _ (by show _ ≠ bN + 1; omega)).trans hL.can.f, (Below.heap_setCell _ _ _ _ (by show _ ≠ bN + 1; omega)).trans hL.can.r, hL.can.below.setCell (by show w.heap.size ≤ bN + 1; omega) _⟩
    have m1 : SetR (W'.setCell ⟨bN + 1, 0, none⟩ (.map (some bX))) bX kx := hx.same (Below.heap_setCell _ _ _ _ (by show _ ≠ bN + 1; omega))
    have m2 : Boxed (W'.setCell ⟨bN + 1, 0, none⟩ (.map (some bX))) (bN + 1) 141 (.map (some bX)) := by have e := hL.now; (simp only [Boxed, Box2, heap_alloc_at, heap_set_at, World.size_alloc, World.size_setCell]; repeat (first | rfl | exact e | rw [if_pos (by omega)] | rw [if_neg (by omega)] | rw [show _ = _ from e]))
    have m3 : Boxed (W'.setCell ⟨bN + 1, 0, none⟩ (.map (some bX))) b8 3 (.int .i64 st) := (Below.heap_setCell _ _ _ _ (by show _ ≠ bN + 1; omega)).trans hL.cnt
    generalize W'.setCell ⟨bN + 1, 0, none⟩ (.map (some bX)) = W at *
    clear n1 n2 n3 hlX hL hx
    clear W'
    have k2 := m3.cell
    refine exec_seq (exec_seq (exec_region_o fun ds => ?_))
    gi_wp2
    refine eq_mk (Keep.refl _) ?_
    show Exec _ _ _ _ _ _
    refine exec_region_o fun ds => ?_
    gi_wp2
    refine eq_mk ((Keep.refl _).alloc _) ?_
    show Exec _ _ _ _ _ _
    have gr := Grow.alloc W.heap.size W (.cells #[.int .i64 st] 3)
    have m4 := Boxed.new W 3 (.int .i64 st)
    have m5 := m0.grow gr m0.below.size (Nat.le_refl _)
    have m6 := m1.grow gr
    have m7 := gr.boxed m2
    have hlt := m2.lt
    have hsw := m0.below.size
    have hlx := m1.lt
    generalize W.alloc (.cells #[.int .i64 st] 3) = X at *
    clear gr m0 m1 m2 m3 k2
    generalize W.heap.size = b8' at *
    clear W
    have k2 := m4.cell
    have k3 := m4.frozen
    refine exec_region_o fun ds => ?_
    gi_wp2
    refine eq_mk ((Keep.refl _).setCell _ _) ?_
    refine ⟨m - 1, by omega, st + 1, b8', bX, kx, by omega, by omega,
      ⟨(Below.heap_setCell _ _ _ _ (by show _ ≠ b8'; omega)).trans m5.f, (Below.heap_setCell _ _ _ _ (by show _ ≠ b8'; omega)).trans m5.r, m5.below.setCell (by show w.heap.size ≤ b8'; omega) _⟩,
      m6.same (Below.heap_setCell _ _ _ _ (by show _ ≠ b8'; omega)), hKx, (Below.heap_setCell _ _ _ _ (by show _ ≠ b8'; omega)).trans m7, ?_, by omega, (by simp only [Slots, Fits, and_self])⟩
    (simp only [Boxed, Box2, heap_alloc_at, heap_set_at, World.size_alloc, World.size_setCell]; repeat (first | rfl | exact m4 | rw [if_pos (by omega)] | rw [if_neg (by omega)] | rw [show _ = _ from m4]))
  · refine exec_exit ?_
    have hst : st = l.length := by have := of_decide_eq_false hb; omega
    exact ⟨rfl, bS, ks, hS, hst ▸ hK, hX, h.below, (by simp only [Slots, Fits, and_self])⟩
end Go.Proofs.Ytafmgmaelnpehaa
end

section
namespace Go.Proofs.Ytafmgmaelnpehaa
open Go.RowKit Go.TL Go.Shelf Go.Fu
attribute [local go_sem] Oper.semAt_some
set_option maxRecDepth 100000 in
set_option maxHeartbeats 2000000 in
theorem can_any (A : Option Addr) (c : Nat) (l : List (Int × Int)) (hl : l.length ≤ 8) (hok : ∀ x ∈ l, okSpan x) (p : Int → Int → Bool) (w : World) (hf : Spans w A l) (gm : FuncId) (cap : Array Value) (hm : May gm cap p w) :
    Calls Try.prog 58 #[.slice A l.length c, .agg #[.func (.func gm) #[] cap]] w fun e w' => e = .returned (.bool (canB l p)) ∧ Below w.heap.size w w' := by
  have h3 : l.length ≤ 100 := by omega
  refine calls_of_exec Try.func58 rfl ?_
  simp only [Try.ntmps58, List.size_toArray, List.length_cons, List.length_nil, Nat.reduceAdd, Nat.reduceSub, Array.replicate_succ, Array.replicate_zero, List.push_toArray, List.append_toArray, List.nil_append, List.cons_append]
  refine exec_seq (exec_region_o fun ds => ?_)
  gi_wp2
  refine eq_mk (((Keep.refl w).alloc _).alloc _) ?_
  show Exec _ _ _ _ _ _
  refine exec_world (fun W => CanB w.heap.size A l.length c (.func (.func gm) #[] cap) w W) ⟨?_, ?_, ?_⟩ ?_
  · (simp only [Boxed, Box2, heap_alloc_at, heap_set_at, World.size_alloc, World.size_setCell]; repeat (first | rfl | rw [if_pos (by omega)] | rw [if_neg (by omega)]))
  · (simp only [Boxed, Box2, heap_alloc_at, heap_set_at, World.size_alloc, World.size_setCell]; repeat (first | rfl | rw [if_pos (by omega)] | rw [if_neg (by omega)]))
  · exact ((Below.refl _ w).alloc (Nat.le_refl _) _).alloc (by simp) _
  intro W hW
  have k1 := hW.f.cell
  refine exec_seq (exec_seq (exec_region_o fun ds => ?_))
  by_cases hlen : l.length < 3
  · have hlt : (l.length : Int) < 3 := by omega
    gi_wp2
    refine eq_mk (Keep.refl _) ?_
    refine exec_cond (b := true) rfl (fun _ => ?_) (fun h => by cases h)
    refine exec_seq (exec_region_o fun ds => ?_)
    gi_wp2
    refine eq_mk (Keep.refl _) ?_
    refine exec_ret ⟨.inr rfl, fun W' hG => ?_⟩
    refine ⟨.bool true, by simp [results, Try.f58, go_sem], ?_, hW.below.trans (hG.below (Nat.le_refl _) hW.below.size)⟩
    rw [show canB l p = true from by unfold canB canP; simp [hlen]]
  have hge : ¬ (l.length : Int) < 3 := by omega
  gi_wp2
  refine eq_mk (Keep.refl _) ?_
  refine exec_cond (b := false) rfl (fun h => by cases h) (fun _ => ?_)
  refine exec_skip ?_
  show Exec _ _ _ _ _ _
  refine exec_seq (exec_region_o fun ds => ?_)
  have hmm := @run_makeMap Try.prog
  gi_wp2
  clear hmm
  refine eq_mk (((Keep.refl _).alloc _).alloc _) ?_
  show Exec _ _ _ _ _ _
  have hs0 := hW.below.size
  have hlt0 := hW.r.lt
  have stab : ∀ (B : Nat), w.heap.size ≤ B → Stab B (fun V => CanB w.heap.size A l.length c (.func (.func gm) #[] cap) w V) := fun B hB => CanB.stab hB (Nat.le_refl _)
  refine exec_world (fun V => CanB w.heap.size A l.length c (.func (.func gm) #[] cap) w V ∧ SetR V W.heap.size [] ∧ Boxed V (W.heap.size + 1) 141 (.map (some W.heap.size)) ∧ W.heap.size + 1 < V.heap.size) ⟨?_, ?_, ?_, ?_⟩ ?_
  · exact stab _ hs0 _ _ (stab W.heap.size hs0 _ _ hW (Grow.alloc _ _ _)) (Grow.alloc _ _ _)
  · exact MapR.grow (MapR.new encP okP W) (Grow.alloc 0 _ _)
  · (simp only [Boxed, Box2, heap_alloc_at, heap_set_at, World.size_alloc, World.size_setCell]; repeat (first | rfl | rw [if_pos (by omega)] | rw [if_neg (by omega)]))
  · simp
  generalize W.heap.size = bN at *
  clear k1 hW
  clear W
  rintro W ⟨hW, hS, hX, hltX⟩
  have hlen0 : 0 < l.length := by omega
  have hlen1 : 1 < l.length := by omega
  obtain ⟨g, off, rfl, hc⟩ := hf.at_ hlen0
  have hg : g < w.heap.size := World.block_lt_of_cell? w _ (hc 0 hlen0).1
  have e0 : l.getD 0 (0, 0) = l[0]'hlen0 := by simp [List.getD_eq_getElem?_getD, hlen0]
  have e1 : l.getD 1 (0, 0) = l[1]'hlen1 := by simp [List.getD_eq_getElem?_getD, hlen1]
  have o0 := hok _ (List.getElem_mem hlen0)
  have o1 := hok _ (List.getElem_mem hlen1)
  have f0 := hc 0 hlen0
  have f1 := hc 1 hlen1
  have HC : Hid (∀ i (h : i < l.length), w.cell? ⟨g, off + i * 2, none⟩ = some (.int .i64 (l[i]'h).1) ∧ w.cell? ⟨g, off + i * 2 + 1, none⟩ = some (.int .i64 (l[i]'h).2)) := hc
  clear hc
  have g0 := hW.below.cell (p := ⟨g, off + 0 * 2, none⟩) hg
  have g0' := hW.below.cell (p := ⟨g, off + 0 * 2 + 1, none⟩) hg
  rw [f0.1] at g0
  rw [f0.2] at g0'
  simp only [Nat.zero_mul, Nat.add_zero] at g0 g0'
  generalize l[0]'hlen0 = s0 at *
  generalize l[1]'hlen1 = s1 at *
  have HE0 := Lib.hid e0
  have HE1 := Lib.hid e1
  clear e0 e1
  have k1 := hW.f.cell
  refine exec_seq (exec_seq (exec_region_o fun ds => ?_))
  gi_wp2_with fail
  refine ⟨trivial, rfl, (callsIn_wide.2 (all_any _ _ _)).mono ?_⟩
  rintro e w' ⟨rfl, rfl⟩
  gi_wp2_with fail
  refine eq_mk ((Keep.refl _).alloc _) ?_
  show Exec _ _ _ _ _ _
  refine exec_block ?_
  have itA := all_iter W s0 o0
  have gr := Grow.alloc W.heap.size W (.cells #[.int .i64 s0.1, .int .i64 s0.2] 89)
  have hs1 := hW.below.size
  have p0 := stab _ (by omega) _ _ hW gr
  have p1 := hS.grow gr
  have p2 := gr.boxed hX
  have p3 := Box2.new W 89 s0.1 s0.2
  have hszA : (W.alloc (.cells #[.int .i64 s0.1, .int .i64 s0.2] 89)).heap.size = W.heap.size + 1 := by simp
  generalize hWA : W.alloc (.cells #[.int .i64 s0.1, .int .i64 s0.2] 89) = WA at *
  clear hWA gr
  generalize hBa : W.heap.size = Ba at *
  clear hBa g0 g0' k1 hW hS hX
  clear W
  have okA : ∀ a, a ∈ spanL s0 → -1000 ≤ a ∧ a ≤ 1000 := fun a ha => by have := (mem_spanL _ _).1 ha; obtain ⟨_, _, _⟩ := o0; omega
  have okB : ∀ a, a ∈ spanL s1 → -1000 ≤ a ∧ a ≤ 1000 := fun a ha => by have := (mem_spanL _ _).1 ha; obtain ⟨_, _, _⟩ := o1; omega
  have HkA := Lib.hid okA
  have HkB := Lib.hid okB
  clear okA okB
  refine exec_range (L := spanL s0) rfl (enters_of Try.func93 (by kernel_rfl) rfl) itA (fun k hk => by omega) (fun _ => rfl)
    (fun k V => CanB w.heap.size (some ⟨g, off, none⟩) l.length c (.func (.func gm) #[] cap) w V ∧ (∃ ks, SetR V bN ks ∧ KeysAre ks fun x => x.1 ∈ (spanL s0).take k ∧ x.2 ∈ spanL s1) ∧ Boxed V (bN + 1) 141 (.map (some bN)) ∧ Box2 V Ba 89 s0.1 s0.2)
    (fun _ _ => False)
    (fun k => Stab.and (stab _ (by omega)) (Stab.and (Stab.ex fun ks => Stab.and (Stab.setR _ _ _) (Stab.pure _ _)) (Stab.and (Stab.boxed _ _ _ _) (Stab.box2 _ _ _ _ _)))) (fun _ => Stab.pure _ _)
    ⟨p0, ⟨[], p1, fun x => by simp⟩, p2, p3⟩ ?roundA ?doneA (fun _ h => h.elim) (fun _ _ h => h.elim)
  case roundA =>
    rintro l1 k hk V hV ⟨hi, ⟨ks, hks, hmem⟩, hiX, bxV⟩
    have ea : (spanL s0).take (k + 1) = (spanL s0).take k ++ [(spanL s0)[k]'hk] := List.take_succ_eq_append_getElem hk
    have ha := HkA.out _ (List.getElem_mem hk)
    have HMK := hmem
    clear hmem
    have HEA := Lib.hid ea
    clear ea
    generalize (spanL s0)[k]'hk = a at *
    refine exec_region_r fun ds => ?_
    gi_wp2
    refine eq_mk ((Keep.refl _).alloc _) ⟨rfl, Same.of_below ((Below.refl _ V).alloc (Nat.le_refl _) _) (fun k hk => by omega), ?_⟩
    intro V1 hG hsz1
    have gr := Grow.alloc WA.heap.size V (.cells #[.int .i64 a] 3)
    have bV := hG.boxed (Boxed.new V 3 (.int .i64 a))
    have q0 := stab _ (by omega) _ _ (stab WA.heap.size (by omega) _ _ hi gr) hG
    have q1 := (hks.grow gr).grow hG
    have q2 := hG.boxed (gr.boxed hiX)
    have q3 := hG.box2 (gr.box2 bxV)
    rw [World.size_alloc] at hsz1
    generalize hVs : V.heap.size = Va at *
    have hlt1 : Va < V1.heap.size := by omega
    clear hG gr hi hks hiX bxV hVs hsz1
    clear V
    refine exec_block ?_
    have gB := q0.below.cell (p := ⟨g, off + 1 * 2, none⟩) hg
    have gB2 := q0.below.cell (p := ⟨g, off + 1 * 2 + 1, none⟩) hg
    rw [f1.1] at gB
    rw [f1.2] at gB2
    simp only [Nat.one_mul] at gB gB2
    have m1 := q0.f.cell
    have hlenI : (1 : Int) < l.length := by omega
    refine exec_seq (exec_region_r fun ds => ?_)
    gi_wp2_with fail
    refine ⟨trivial, rfl, (CallsIn.inRound l1 (callsIn_wide.2 (all_any _ _ _))).mono ?_⟩
    rintro e w' ⟨rfl, rfl⟩
    gi_wp2_with fail
    refine eq_mk ((Keep.refl _).alloc _) ?_
    show Exec _ _ _ _ _ _
    refine exec_block ?_
    have itB := all_iter V1 s1 o1
    have gr := Grow.alloc V1.heap.size V1 (.cells #[.int .i64 s1.1, .int .i64 s1.2] 89)
    have r0 := stab _ (by omega) _ _ q0 gr
    have r1 := q1.grow gr
    have r2 := gr.boxed q2
    have r3 := gr.box2 q3
    have r4 := gr.boxed bV
    have r5 := Box2.new V1 89 s1.1 s1.2
    have hszB : (V1.alloc (.cells #[.int .i64 s1.1, .int .i64 s1.2] 89)).heap.size = V1.heap.size + 1 := by simp
    generalize hWB : V1.alloc (.cells #[.int .i64 s1.1, .int .i64 s1.2] 89) = WB at *
    generalize hBb : V1.heap.size = Bb at *
    clear hWB gB gB2 m1 q0 q1 q2 bV gr
    refine exec_range (L := spanL s1) rfl (enters_of Try.func93 (by kernel_rfl) rfl) itB (fun k hk => by omega) (fun _ => rfl)
      (fun k2 V => CanB w.heap.size (some ⟨g, off, none⟩) l.length c (.func (.func gm) #[] cap) w V ∧ (∃ ks, SetR V bN ks ∧ KeysAre ks fun x => (x.1 ∈ (spanL s0).take k ∧ x.2 ∈ spanL s1) ∨ (x.1 = a ∧ x.2 ∈ (spanL s1).take k2)) ∧ Boxed V (bN + 1) 141 (.map (some bN)) ∧ Box2 V Ba 89 s0.1 s0.2 ∧ Boxed V Va 3 (.int .i64 a) ∧ Box2 V Bb 89 s1.1 s1.2)
      (fun _ _ => False)
      (fun k => Stab.and (stab _ (by omega)) (Stab.and (Stab.ex fun ks => Stab.and (Stab.setR _ _ _) (Stab.pure _ _)) (Stab.and (Stab.boxed _ _ _ _) (Stab.and (Stab.box2 _ _ _ _ _) (Stab.and (Stab.boxed _ _ _ _) (Stab.box2 _ _ _ _ _)))))) (fun _ => Stab.pure _ _)
      ⟨r0, ⟨ks, r1, fun x => by rw [HMK x]; simp⟩, r2, r3, r4, r5⟩ ?roundB ?doneB (fun _ h => h.elim) (fun _ _ h => h.elim)
    case doneB =>
      rintro V2 ⟨h1, ⟨ks, h2, h2m⟩, h3, h4, h5, h6⟩
      refine ⟨fun k hk => by rw [hk, show V2.heap[Ba]? = _ from h4, show V1.heap[Ba]? = _ from q3], h1, ⟨ks, h2, fun x => ?_⟩, h3, h4⟩
      rw [h2m x]
      show (_ ∧ _ ∨ _ ∧ _) ↔ _ ∧ _
      rw [HEA.out, List.take_length, List.mem_append, List.mem_singleton]
      constructor
      · rintro (⟨u, v⟩ | ⟨u, v⟩)
        · exact ⟨.inl u, v⟩
        · exact ⟨.inr u, v⟩
      · rintro ⟨u | u, v⟩
        · exact .inl ⟨u, v⟩
        · exact .inr ⟨u, v⟩
    rintro l2 k2 hk2 V hV ⟨hi, ⟨ks2, hks, hmem⟩, hiX, bxV, bVV, bxVB⟩
    have eb : (spanL s1).take (k2 + 1) = (spanL s1).take k2 ++ [(spanL s1)[k2]'hk2] := List.take_succ_eq_append_getElem hk2
    have hb := HkB.out _ (List.getElem_mem hk2)
    have HMK2 := hmem
    clear hmem
    have HEB := Lib.hid eb
    clear eb
    generalize (spanL s1)[k2]'hk2 = b at *
    refine exec_region_r fun ds => ?_
    gi_wp2
    refine eq_mk (Keep.refl _) ⟨rfl, Same.refl _ _, ?_⟩
    intro V2 hG hsz2
    have t0 := stab _ (by omega) _ _ hi hG
    have t1 := hks.grow hG
    have t2 := hG.boxed hiX
    have t3 := hG.box2 bxV
    have t4 := hG.boxed bVV
    have t5 := hG.box2 bxVB
    clear hG hi hks hiX bxV bVV bxVB hsz2
    have c2 := t2.cell
    have c4 := t4.cell
    refine exec_block (exec_region_r fun ds => ?_)
    gi_wp2_with (gi_at_mapUpdate; refine walk_mapUpdate rfl rfl rfl t1 keyP Try.underlying141 (y := (a, b)) ⟨ha, hb⟩ rfl (u := .bool true) rfl ?_; intro W' hu hgr)
    rw [put_set] at hu
    have hltBb := t5.lt
    refine eq_mk (keep_map (Keep.refl _) t1 hgr) ?_
    refine ⟨fun k hk => by rw [hk]; exact hgr.block Bb hltBb (by simp; omega), t0.kept hgr (by omega) (Nat.le_refl _), ⟨ins ks2 (a, b), hu, fun x => ?_⟩, t2.kept hgr (by simp), box2_kept t3 hgr (by omega), t4.kept hgr (by simp; omega), box2_kept t5 hgr (by omega)⟩
    rw [mem_ins, HMK2 x]
    show ((_ ∧ _ ∨ _ ∧ _) ∨ _) ↔ _ ∧ _ ∨ _ ∧ _
    rw [HEB.out, List.mem_append, List.mem_singleton]
    constructor
    · rintro ((h | h) | rfl)
      · exact .inl h
      · exact .inr ⟨h.1, .inl h.2⟩
      · exact .inr ⟨rfl, .inr rfl⟩
    · rintro (h | ⟨h, (h' | h')⟩)
      · exact .inl (.inl h)
      · exact .inl (.inr ⟨h, h'⟩)
      · exact .inr (Prod.ext h h')
  case doneA =>
    rintro V2 ⟨h1, ⟨ks, h2, h2m⟩, h3, h4⟩
    rw [List.take_length] at h2m
    show Exec _ _ _ _ _ _
    have kR : KeysAre ks (Fu.Reach l p 1) := fun x => by rw [h2m x]; show _ ↔ _ ∧ _; rw [HE0.out, HE1.out]
    have c3 := h3.lt
    clear h2m p0 p1 p2 p3 h4 itA
    -- the counter's first box
    refine exec_seq (exec_seq (exec_region_o fun ds => ?_))
    gi_wp2
    refine eq_mk ((Keep.refl _).alloc _) ?_
    show Exec _ _ _ _ _ _
    have gr := Grow.alloc V2.heap.size V2 (.cells #[.int .i64 2] 3)
    have hs2 := h1.below.size
    have n1 := stab V2.heap.size hs2 _ _ h1 gr
    have n2 := h2.grow gr
    have n3 := gr.boxed h3
    have n4 := Boxed.new V2 3 (.int .i64 2)
    refine (can_loop hm hg (by omega) HC hok hl _ ⟨2, V2.heap.size, bN, ks, by omega, Nat.le_refl _, n1, n2, kR, n3, n4, by omega, (by simp only [Slots, Fits, and_self])⟩).mono ?_
    clear n1 n2 n3 n4 gr hs2 h1 h2 h3 kR c3 ks
    clear V2
    rintro e t W ⟨rfl, bS, ks, hS, hK, hX, hB, hF⟩
    show Exec _ _ _ _ _ _
    obtain ⟨x, hx⟩ := Slots.open_ hF; simp only [fill, Nat.reduceAdd] at hx; subst hx; clear hF
    have k1 := hX.cell
    refine exec_seq (exec_region_o fun ds => ?_)
    gi_wp2_with (gi_at_len; refine walk_len rfl rfl rfl hS Try.underlying141 ?_)
    refine eq_mk (Keep.refl _) ?_
    refine exec_ret ⟨.inr rfl, fun W' hG => ?_⟩
    refine ⟨.bool (canB l p), ?_, rfl, hB.trans (hG.below (Nat.le_refl _) hB.size)⟩
    have e : (0 < ks.length) ↔ canP l p := by
      constructor
      · intro h
        refine .inr ⟨ks[0]'h, (hK _).1 (List.getElem_mem h)⟩
      · rintro (h | ⟨y, hy⟩)
        · omega
        · exact List.length_pos_of_mem ((hK y).2 hy)
    simp [results, Try.f58, go_sem, canB, e]
end Go.Proofs.Ytafmgmaelnpehaa
end

section
namespace Go.Fu
def upP (n : Int) : Int → Int → Bool := fun _ b => decide (b ≤ n)
theorem lo_mem (s : Int × Int) (h : okSpan s) : s.1 ∈ spanL s := (mem_spanL s s.1).2 ⟨Int.le_refl _, h.2.1⟩
theorem getD_mem (l : List (Int × Int)) (i : Nat) (h : i < l.length) : l.getD i (0, 0) ∈ l := by
  rw [List.getD_eq_getElem?_getD, List.getElem?_eq_getElem h]
  exact List.getElem_mem h
theorem span_ok (l : List (Int × Int)) (hok : ∀ x ∈ l, okSpan x) (i : Nat) (h : i < l.length) (y : Int) (hy : y ∈ spanL (l.getD i (0, 0))) : -1000 ≤ y ∧ y ≤ 1000 := by
  have := (mem_spanL _ _).1 hy
  obtain ⟨_, _, _⟩ := hok _ (getD_mem l i h)
  omega
theorem reach_bd (l : List (Int × Int)) (p : Int → Int → Bool) (hok : ∀ x ∈ l, okSpan x) : ∀ (n : Nat) (h : n < l.length) (x : Int × Int), Fu.Reach l p n x → (-1000 ≤ x.1 ∧ x.1 ≤ 1000) ∧ (-1000 ≤ x.2 ∧ x.2 ≤ 1000)
  | 0, _, _, hx => hx.elim
  | 1, h, x, hx => ⟨span_ok l hok 0 (by omega) _ hx.1, span_ok l hok 1 h _ hx.2⟩
  | n + 2, h, x, hx => by
    obtain ⟨h1, a, h2, _⟩ := hx
    exact ⟨(reach_bd l p hok (n + 1) (by omega) _ h2).2, span_ok l hok (n + 2) h _ h1⟩
theorem reach_all (l : List (Int × Int)) (hok : ∀ x ∈ l, okSpan x) : ∀ n : Nat, n + 1 < l.length → ∃ x, Fu.Reach l (upP 4000) (n + 1) x
  | 0, h => ⟨((l.getD 0 (0, 0)).1, (l.getD 1 (0, 0)).1), lo_mem _ (hok _ (getD_mem l 0 (by omega))), lo_mem _ (hok _ (getD_mem l 1 h))⟩
  | n + 1, h => by
    obtain ⟨x, hx⟩ := reach_all l hok n (by omega)
    have hb := reach_bd l _ hok (n + 1) (by omega) x hx
    have hm := lo_mem _ (hok _ (getD_mem l (n + 2) h))
    have hs := span_ok l hok (n + 2) h _ hm
    refine ⟨(x.2, (l.getD (n + 2) (0, 0)).1), hm, x.1, hx, ?_⟩
    exact decide_eq_true (bendI_bd _ _ _ hb.1 hb.2 hs).2
theorem can_4000 (l : List (Int × Int)) (hok : ∀ x ∈ l, okSpan x) : canB l (upP (4000 : Nat)) = true := by
  unfold canB
  simp only [decide_eq_true_eq]
  show l.length < 3 ∨ _
  by_cases h : l.length < 3
  · exact .inl h
  · obtain ⟨n, hn⟩ : ∃ n, l.length = n + 3 := ⟨l.length - 3, by omega⟩
    obtain ⟨x, hx⟩ := reach_all l hok (n + 1) (by omega)
    exact .inr ⟨x, by rw [hn]; exact hx⟩
theorem least_of {p : Nat → Prop} (h : ∃ n, p n) : ∃ n, p n ∧ ∀ m, m < n → ¬ p m := by
  obtain ⟨n, hn⟩ := h
  induction n using Nat.strongRecOn with
  | _ n ih =>
    by_cases hm : ∃ m, m < n ∧ p m
    · obtain ⟨m, h1, h2⟩ := hm
      exact ih m h1 h2
    · exact ⟨n, hn, fun m hlt hp => hm ⟨m, hlt, hp⟩⟩
def IsLeast (l : List (Int × Int)) (m : Nat) : Prop := canB l (upP m) = true ∧ ∀ k : Nat, k < m → canB l (upP k) = false
theorem least_ex (l : List (Int × Int)) (hok : ∀ x ∈ l, okSpan x) : ∃ m : Nat, IsLeast l m ∧ m ≤ 4000 := by
  obtain ⟨m, h1, h2⟩ := least_of (p := fun n : Nat => canB l (upP n) = true) ⟨4000, can_4000 l hok⟩
  refine ⟨m, ⟨h1, fun k hk => by simpa using h2 k hk⟩, ?_⟩
  rcases Nat.lt_or_ge 4000 m with h | h
  · exact absurd (can_4000 l hok) (h2 4000 h)
  · exact h
theorem IsLeast.eq {l : List (Int × Int)} {m n : Nat} (h : IsLeast l m) (k : IsLeast l n) : m = n := by
  rcases Nat.lt_trichotomy m n with h1 | h1 | h1
  · have := k.2 m h1; rw [h.1] at this; cases this
  · exact h1
  · have := h.2 n h1; rw [k.1] at this; cases this
open Classical in
noncomputable def leastN (l : List (Int × Int)) : Nat := if h : ∃ m, IsLeast l m then Classical.choose h else 0
theorem leastN_is (l : List (Int × Int)) (hok : ∀ x ∈ l, okSpan x) : IsLeast l (leastN l) := by
  obtain ⟨m, hm, _⟩ := least_ex l hok
  unfold leastN
  rw [dif_pos ⟨m, hm⟩]
  exact Classical.choose_spec (⟨m, hm⟩ : ∃ m, IsLeast l m)
theorem leastN_eq {l : List (Int × Int)} (hok : ∀ x ∈ l, okSpan x) {m : Nat} (h : IsLeast l m) : leastN l = m := (leastN_is l hok).eq h
theorem leastN_le (l : List (Int × Int)) (hok : ∀ x ∈ l, okSpan x) : leastN l ≤ 4000 := by
  obtain ⟨m, hm, hl⟩ := least_ex l hok
  rw [leastN_eq hok hm]
  exact hl
def hiF (l : List (Int × Int)) : Nat → Int
  | 0 => 0
  | k + 1 => if hiF l k < (atF l (k + 1)).2 then (atF l (k + 1)).2 else hiF l k
end Go.Fu
end

section
namespace Go.Proofs.Ytafmgmaelnpehaa
open Go.RowKit Go.TL Go.Shelf Go.Fu
attribute [local go_sem] Oper.semAt_some
theorem run_store_func (P : Program) (w : World) (a : Addr) (f : Fn) (r c : Array Value) (m : Mode) : (store a (.func f r c) m).run P w = stored P w a (.func f r c) m := run_store P w a _ m rfl
attribute [local go_sem] run_store_func
set_option maxRecDepth 100000 in
theorem may_upTo (b : Nat) (n : Int) (w0 : World) (h : Boxed w0 b 3 (.int .i64 n)) : May 94 #[.pointer (some ⟨b, 0, none⟩)] (upP n) w0 where
  ent := enters_of Try.func94 (by kernel_rfl) rfl
  calls s bd W _ _ _ _ hW := by
    have h1 : W.cell? ⟨b, 0, none⟩ = some (.int .i64 n) := (hW.cell h.lt).trans h.cell
    go_enter Try.func94, Try.ntmps94
    go_wp2
    go_ret
    exact ⟨rfl, Below.refl _ _⟩
set_option maxRecDepth 100000 in
theorem upTo_any (n : Int) (w : World) : Calls Try.prog 59 #[.int .i64 n] w fun e w' => e = .returned (.agg #[.func (.func 94) #[] #[.pointer (some ⟨w.heap.size, 0, none⟩)]]) ∧ Below w.heap.size w w' ∧ Boxed w' w.heap.size 3 (.int .i64 n) := by
  have hmf : ∀ fn first cap w, (Instr.makeFunc fn first cap).run Try.prog w = .ok (.func fn first cap) w := fun _ _ _ _ => rfl
  have b1 : Boxed ((w.alloc (.cells #[.int .i64 n] 3)).alloc (.cells #[.nilFunc] 94)) (w.heap.size + 1) 94 .nilFunc := by (simp only [Boxed, Box2, heap_alloc_at, heap_set_at, World.size_alloc, World.size_setCell]; repeat (first | rfl | rw [if_pos (by omega)] | rw [if_neg (by omega)]))
  have c1 := b1.cell
  have f1 := b1.frozen
  go_enter Try.func59, Try.ntmps59
  go_wp2
  have b2 : Boxed ((w.alloc (.cells #[.int .i64 n] 3)).alloc (.cells #[.func (.func 94) #[] #[.pointer (some ⟨w.heap.size, 0, none⟩)]] 94)) (w.heap.size + 1) 94 (.func (.func 94) #[] #[.pointer (some ⟨w.heap.size, 0, none⟩)]) := by (simp only [Boxed, Box2, heap_alloc_at, heap_set_at, World.size_alloc, World.size_setCell]; repeat (first | rfl | rw [if_pos (by omega)] | rw [if_neg (by omega)]))
  have c2 := b2.cell
  refine ⟨rfl, .agg #[.func (.func 94) #[] #[.pointer (some ⟨w.heap.size, 0, none⟩)]], ?_, rfl, ((Below.refl _ w).alloc (Nat.le_refl _) _).alloc (by simp) _, ?_⟩
  · simp [results, Try.f59, go_sem, c2]
  · (simp only [Boxed, Box2, heap_alloc_at, heap_set_at, World.size_alloc, World.size_setCell]; repeat (first | rfl | rw [if_pos (by omega)] | rw [if_neg (by omega)]))
set_option maxRecDepth 100000 in
theorem first_any (gf : FuncId) (cap : Array Value) (ent : ∀ args w, (callFunc gf args).run Try.prog w = .ok (.enter gf args) w) (p : Nat → Bool) (m : Nat) (hm : p m = true) (hlt : ∀ k, k < m → p k = false) (hb : m ≤ 100000) (w : World)
    (hc : ∀ k, k ≤ m → ∀ W, Below w.heap.size w W → Calls Try.prog gf (#[.int .i64 k] ++ cap) W fun e w' => e = .returned (.bool (p k)) ∧ Below W.heap.size W w') :
    Calls Try.prog 90 #[.func (.func gf) #[] cap] w fun e w' => e = .returned (.int .i64 m) ∧ Below w.heap.size w w' := by
  refine calls_of_exec Try.func90 rfl ?_
  simp only [Try.ntmps90, List.size_toArray, List.length_cons, List.length_nil, Nat.reduceAdd, Nat.reduceSub, Array.replicate_succ, Array.replicate_zero, List.push_toArray, List.append_toArray, List.nil_append, List.cons_append]
  refine exec_seq (exec_region_o fun ds => ?_)
  gi_wp2
  refine eq_mk (Keep.refl w) ?_
  show Exec _ _ _ _ _ _
  refine exec_seq (exec_block ?_)
  refine exec_loop (fun j t W => ∃ k : Nat, k ≤ m ∧ j = m - k ∧ Below w.heap.size w W ∧ Slots [some (.func (.func gf) #[] cap), none, some (.int .i64 k), none, none, none, none, none, none, none] t) m ⟨0, by omega, by omega, Below.refl _ _, ⟨rfl, rfl, trivial⟩⟩ ?_
  rintro j t W ⟨k, hk, hj, hB, hF⟩
  obtain ⟨x, hx⟩ := Slots.open_ hF; simp only [fill, Nat.reduceAdd] at hx; subst hx; clear hF
  refine exec_seq (exec_seq (exec_region_o fun ds => ?_))
  gi_wp2_with fail
  refine ⟨trivial, rfl, (callsIn_wide.2 (hc k hk W hB)).mono ?_⟩
  rintro e w' ⟨rfl, hw'⟩
  gi_wp2_with fail
  refine eq_mk (Keep.of_below hw') ?_
  show Exec _ _ _ _ _ _
  have hB' := hB.trans (hw'.mono hB.size)
  refine exec_cond (b := !p k) rfl (fun hp => ?_) (fun hp => ?_)
  · have hp' : p k = false := by simpa using hp
    have hkm : k < m := by
      rcases Nat.lt_or_ge k m with h | h
      · exact h
      · rw [show k = m by omega, hm] at hp'; cases hp'
    refine exec_skip ?_
    show Exec _ _ _ _ _ _
    refine exec_block (exec_region_o fun ds => ?_)
    gi_wp2
    refine eq_mk (Keep.refl _) ⟨j - 1, by omega, k + 1, by omega, by omega, hB', ?_⟩
    exact ⟨rfl, by simp, trivial⟩
  · have hp' : p k = true := by simpa using hp
    have hkm : k = m := by
      rcases Nat.lt_or_ge k m with h | h
      · rw [hlt k h] at hp'; cases hp'
      · omega
    subst hkm
    refine exec_exit ?_
    show Exec _ _ _ _ _ _
    refine exec_seq (exec_region_o fun ds => ?_)
    gi_wp2
    refine eq_mk (Keep.refl _) ?_
    refine exec_ret ⟨.inr rfl, fun W' hG => ⟨.int .i64 k, by simp [results, Try.f90, go_sem], rfl, hB'.trans (hG.below (Nat.le_refl _) hB'.size)⟩⟩
end Go.Proofs.Ytafmgmaelnpehaa
end

section
namespace Go.Proofs.Ytafmgmaelnpehaa
open Go.RowKit Go.TL Go.Shelf Go.Fu
attribute [local go_sem] Oper.semAt_some
attribute [local go_sem] run_store_func
theorem can_up (A : Option Addr) (c : Nat) (l : List (Int × Int)) (hl : l.length ≤ 8) (hok : ∀ x ∈ l, okSpan x) (n : Int) (W : World) (hf : Spans W A l) (b : Nat) (hb : Boxed W b 3 (.int .i64 n)) :
    Calls Try.prog 58 #[.slice A l.length c, .agg #[.func (.func 94) #[] #[.pointer (some ⟨b, 0, none⟩)]]] W fun e w' => e = .returned (.bool (canB l (upP n))) ∧ Below W.heap.size W w' :=
  can_any A c l hl hok (upP n) W hf 94 _ (may_upTo b n W hb)
set_option maxRecDepth 100000 in
theorem least1_any (A : Option Addr) (c : Nat) (l : List (Int × Int)) (hl : l.length ≤ 8) (hok : ∀ x ∈ l, okSpan x) (n : Int) (w : World) (hf : Spans w A l) (b : Nat) (hb : Boxed w b 91 (.func (.func 58) #[.slice A l.length c] #[])) :
    Calls Try.prog 91 #[.int .i64 n, .pointer (some ⟨b, 0, none⟩)] w fun e w' => e = .returned (.bool (canB l (upP n))) ∧ Below w.heap.size w w' := by
  refine calls_of_exec Try.func91 rfl ?_
  simp only [Try.ntmps91, List.size_toArray, List.length_cons, List.length_nil, Nat.reduceAdd, Nat.reduceSub, Array.replicate_succ, Array.replicate_zero, List.push_toArray, List.append_toArray, List.nil_append, List.cons_append]
  refine exec_seq (exec_region_o fun ds => ?_)
  gi_wp2
  refine eq_mk (Keep.refl w) ?_
  show Exec _ _ _ _ _ _
  refine exec_seq (region_of_tail 5 (by kernel_rfl) (by kernel_rfl) (by kernel_rfl) (fun W' => Below w.heap.size w W') (fun _ _ _ => False) (fun _ _ _ h => h.elim) fun ds => ?_)
  have cb : ∀ W', Below w.heap.size w W' → W'.cell? ⟨b, 0, none⟩ = some (.func (.func 58) #[.slice A l.length c] #[]) := fun W' hw => (hw.cell hb.lt).trans hb.cell
  have hS : Below w.heap.size w w.drew := (Below.refl _ w).drew
  refine held_take 0 (.func (.func 58) #[.slice A l.length c] #[]) rfl (by kernel_rfl) (by kernel_rfl) (by kernel_rfl) (by intro _ _ _ h; first | exact h | (simpa [behind, Act.put] using h)) rfl (by first | exact hS | assumption) (fun wq hq => ?_) ?_; (focus (first | rfl | (simp [go_sem, cb wq hq]; done))); simp only [Act.put, List.setIfInBounds_toArray, List.set_cons_succ, List.set_cons_zero]
  refine held_take 1 (.int .i64 n) rfl (by kernel_rfl) (by kernel_rfl) (by kernel_rfl) (by intro _ _ _ h; first | exact h | (simpa [behind, Act.put] using h)) rfl (by first | exact hS | assumption) (fun wq hq => ?_) ?_; (focus (first | rfl | (simp [go_sem]; done))); simp only [Act.put, List.setIfInBounds_toArray, List.set_cons_succ, List.set_cons_zero]
  refine held_call 2 (f := 59) (args := #[.int .i64 n]) rfl (by kernel_rfl) rfl (by simp [go_sem]) ?_
  refine (upTo_any n w.drew).mono ?_
  rintro e W1 ⟨rfl, hB1, hx1⟩
  have hS1 : Below w.heap.size w W1 := hS.trans hB1
  refine .inl ⟨_, rfl, hS1, ?_⟩
  simp only [Act.put, List.setIfInBounds_toArray, List.set_cons_succ, List.set_cons_zero]
  refine held_call 3 (f := 58) (args := #[.slice A l.length c, .agg #[.func (.func 94) #[] #[.pointer (some ⟨w.heap.size, 0, none⟩)]]]) rfl (by kernel_rfl) rfl (by simp [go_sem]) ?_
  refine (can_up A c l hl hok n W1 (hf.grow (Grow.of_below (B := 0) hS1)) _ hx1).mono ?_
  rintro e W2 ⟨rfl, hB2⟩
  have hS2 : Below w.heap.size w W2 := hS1.trans (hB2.mono hS1.size)
  refine .inl ⟨_, rfl, hS2, ?_⟩
  simp only [Act.put, List.setIfInBounds_toArray, List.set_cons_succ, List.set_cons_zero]
  refine held_take 4 (.bool (canB l (upP n))) rfl (by kernel_rfl) (by kernel_rfl) (by kernel_rfl) (by intro _ _ _ h; first | exact h | (simpa [behind, Act.put] using h)) rfl (by first | exact hS | assumption) (fun wq hq => ?_) ?_; (focus (first | rfl | (simp [go_sem]; done))); simp only [Act.put, List.setIfInBounds_toArray, List.set_cons_succ, List.set_cons_zero]
  refine held_done (by kernel_rfl) ?_
  refine any_done (by kernel_rfl) ⟨rfl, Keep.of_below hS2, ?_⟩
  show Exec _ _ _ _ _ _
  refine exec_ret ⟨.inr rfl, fun W' hG => ⟨.bool (canB l (upP n)), by simp [results, Try.f91, go_sem], rfl, hS2.trans (hG.below (Nat.le_refl _) hS2.size)⟩⟩

noncomputable def upB (l : List (Int × Int)) (n : Nat) : Bool := canB l (upP n)
set_option maxRecDepth 100000 in
theorem least_any (A : Option Addr) (c : Nat) (l : List (Int × Int)) (hl : l.length ≤ 8) (hok : ∀ x ∈ l, okSpan x) (m : Nat) (hm : canB l (upP m) = true) (hlt : ∀ k : Nat, k < m → canB l (upP k) = false) (hb : m ≤ 100000) (w : World) (hf : Spans w A l) :
    Calls Try.prog 49 #[.slice A l.length c] w fun e w' => e = .returned (.int .i64 m) ∧ Below w.heap.size w w' := by
  have hmf : ∀ fn first cap w, (Instr.makeFunc fn first cap).run Try.prog w = .ok (.func fn first cap) w := fun _ _ _ _ => rfl
  refine calls_of_exec Try.func49 rfl ?_
  simp only [Try.ntmps49, List.size_toArray, List.length_cons, List.length_nil, Nat.reduceAdd, Nat.reduceSub, Array.replicate_succ, Array.replicate_zero, List.push_toArray, List.append_toArray, List.nil_append, List.cons_append]
  refine exec_seq (exec_region_o fun ds => ?_)
  gi_wp2
  refine eq_mk (Keep.refl w) ?_
  show Exec _ _ _ _ _ _
  refine exec_seq (exec_region_o fun ds => ?_)
  gi_wp2
  refine eq_mk ((Keep.refl _).alloc _) ?_
  show Exec _ _ _ _ _ _
  have hB := (Below.refl w.heap.size w).alloc (Nat.le_refl _) (.cells #[.func (.func 58) #[.slice A l.length c] #[]] 91)
  have hX := Boxed.new w 91 (.func (.func 58) #[.slice A l.length c] #[])
  have hf' := hf.grow (Grow.of_below (B := 0) hB)
  generalize w.alloc (.cells #[.func (.func 58) #[.slice A l.length c] #[]] 91) = W at *
  refine exec_seq (exec_region_o fun ds => ?_)
  gi_wp2_with fail
  refine ⟨trivial, rfl, (callsIn_wide.2 (first_any 91 #[.pointer (some ⟨w.heap.size, 0, none⟩)] (enters_of Try.func91 (by kernel_rfl) rfl) (upB l) m hm hlt hb W ?_)).mono ?_⟩
  · intro k _ W' hW'
    exact least1_any A c l hl hok k W' (hf'.grow (Grow.of_below (B := 0) hW')) _ ((hW'.block _ hX.lt).trans hX)
  rintro e w' ⟨rfl, hw'⟩
  gi_wp2_with fail
  refine eq_mk (Keep.of_below hw') ?_
  have hB' := hB.trans (hw'.mono hB.size)
  refine exec_ret ⟨.inr rfl, fun W' hG => ⟨.int .i64 m, by simp [results, Try.f49, go_sem], rfl, hB'.trans (hG.below (Nat.le_refl _) hB'.size)⟩⟩
end Go.Proofs.Ytafmgmaelnpehaa
end

section
namespace Go.Proofs.Ytafmgmaelnpehaa
open Go.RowKit Go.TL Go.Shelf Go.Fu
attribute [local go_sem] Oper.semAt_some
open PFurrowAsks
noncomputable def atV (b : Bool) (l : List (Int × Int)) (s : Int) : (Int × Int) × Int := if b then if 0 < s ∧ s + 1 < l.length then (atF l s.toNat, 0) else ((0, 0), 2) else ((0, 0), 1)
def Fur.pl (F : Fur) : List (Int × Int) := F.l0.map toP
theorem Fur.pl_len (F : Fur) : F.pl.length = F.l0.length := by simp [Fur.pl]
theorem boxed_set {W : World} {b : Nat} {t : TypeId} {x : Value} (h : Boxed W b t x) (v : Value) : Boxed (W.setCell ⟨b, 0, none⟩ v) b t v := by (simp only [Boxed, Box2, heap_alloc_at, heap_set_at, World.size_alloc, World.size_setCell]; repeat (first | rfl | exact h | rw [if_pos (by omega)] | rw [if_neg (by omega)] | rw [show _ = _ from h]))
theorem box2_far {W : World} {b k : Nat} {t : TypeId} {x y : Int} (h : Box2 W k t x y) (v : Value) (hne : k ≠ b) : Box2 (W.setCell ⟨b, 0, none⟩ v) k t x y := (Below.heap_setCell W _ v k hne).trans h
theorem boxed_far {W : World} {b k : Nat} {t : TypeId} {x : Value} (h : Boxed W k t x) (v : Value) (hne : k ≠ b) : Boxed (W.setCell ⟨b, 0, none⟩ v) k t x := (Below.heap_setCell W _ v k hne).trans h
theorem results_span {fn : Func} {p q : Tmp} (hr : fn.results = #[.cell p 28, .cell q 29]) {t : Array Value} {x y : Nat} (hp : t[p]? = some (.pointer (some ⟨x, 0, none⟩))) (hq : t[q]? = some (.pointer (some ⟨y, 0, none⟩))) {W : World} {a b e : Int}
    (hx : Box2 W x 28 a b) (hy : Boxed W y 29 (.int .i64 e)) : (results fn t).run Try.prog W = .ok (.tuple #[.agg #[.int .i64 a, .int .i64 b], .int .i64 e]) W := by
  have h0 := hx.cell0
  have h1 := hx.cell1
  have h2 := hy.cell
  simp [results, hr, hp, hq, go_sem, h0, h1, h2]
set_option maxRecDepth 100000 in
set_option maxHeartbeats 2000000 in
theorem At_any (F : Fur) (b : Bool) (s : Int) (w : World) (h : F.At w) (hi : F.Is b) (hl : F.l0.length ≤ 40) (h8 : b = true → F.l0.length ≤ 8 ∧ ∀ x ∈ F.pl, okSpan x) :
    Calls Try.prog 17 #[F.val, .int .i64 s] w fun e w' => e = .returned (.tuple #[.agg #[.int .i64 (atV b F.pl s).1.1, .int .i64 (atV b F.pl s).1.2], .int .i64 (atV b F.pl s).2]) ∧ Below w.heap.size w w' := by
  have hmf : ∀ fn first cap w, (Instr.makeFunc fn first cap).run Try.prog w = .ok (.func fn first cap) w := fun _ _ _ _ => rfl
  refine (callsIn_wide (n := 0)).1 (callsIn_of_wp_marks Try.func17 rfl trivial ?_)
  simp only [Try.ntmps17, List.size_toArray, List.length_cons, List.length_nil, Nat.reduceAdd, Nat.reduceSub, Array.replicate_succ, Array.replicate_zero, List.push_toArray, List.append_toArray, List.nil_append, List.cons_append]
  simp only [Fur.val]
  refine split_rest fun rest hR => ?_
  gi_wp2
  have hB := (((Below.refl w.heap.size w).alloc (Nat.le_refl _) (.cells #[F.s0, F.s1, F.s2] 24)).alloc (by simp) (.cells #[.int .i64 0, .int .i64 0] 28)).alloc (by simp; omega) (.cells #[.int .i64 0] 29)
  have b1 : Box3 (((w.alloc (.cells #[F.s0, F.s1, F.s2] 24)).alloc (.cells #[.int .i64 0, .int .i64 0] 28)).alloc (.cells #[.int .i64 0] 29)) w.heap.size 24 F.s0 F.s1 F.s2 := ((Box3.new w 24 F.s0 F.s1 F.s2).grow (Grow.alloc 0 _ _)).grow (Grow.alloc 0 _ _)
  have b2 : Box2 (((w.alloc (.cells #[F.s0, F.s1, F.s2] 24)).alloc (.cells #[.int .i64 0, .int .i64 0] 28)).alloc (.cells #[.int .i64 0] 29)) (w.heap.size + 1) 28 0 0 := by (simp only [Boxed, Box2, heap_alloc_at, heap_set_at, World.size_alloc, World.size_setCell]; repeat (first | rfl | rw [if_pos (by omega)] | rw [if_neg (by omega)]))
  have b3 : Boxed (((w.alloc (.cells #[F.s0, F.s1, F.s2] 24)).alloc (.cells #[.int .i64 0, .int .i64 0] 28)).alloc (.cells #[.int .i64 0] 29)) (w.heap.size + 1 + 1) 29 (.int .i64 0) := by (simp only [Boxed, Box2, heap_alloc_at, heap_set_at, World.size_alloc, World.size_setCell]; repeat (first | rfl | rw [if_pos (by omega)] | rw [if_neg (by omega)]))
  refine guard_rest (lo := w.heap.size) (T := 132) (b := w.heap.size + 1 + 1) catches52 ⟨_, _, rfl⟩ (fun W => by simp [go_sem]) hB.size ?_
  subst hR
  generalize ((w.alloc (.cells #[F.s0, F.s1, F.s2] 24)).alloc (.cells #[.int .i64 0, .int .i64 0] 28)).alloc (.cells #[.int .i64 0] 29) = V at *
  clear hmf
  have hF := h.below hB
  refine exec_seq (region_of_tail 7 (by kernel_rfl) (by kernel_rfl) (by kernel_rfl) (fun W' => Below V.heap.size V W')
    (fun c t W => ∃ code, c = misfit code ∧ atV b F.pl s = ((0, 0), code) ∧ (t[4]? = some (.pointer (some ⟨w.heap.size + 1, 0, none⟩)) ∧ t[5]? = some (.pointer (some ⟨w.heap.size + 1 + 1, 0, none⟩))) ∧ Below V.heap.size V W) ?_ fun ds => ?_)
  · rintro c t W ⟨code, rfl, hv, ⟨ht4, ht5⟩, hW⟩
    refine .inr ⟨code, 29, 0, rfl, (hW.block _ b3.lt).trans b3, ?_⟩
    rintro W' W'' hG rfl
    have hB2 := hB.trans (hW.mono hB.size)
    have c2 := hG.box2 (show Box2 W (w.heap.size + 1) 28 0 0 from (hW.block _ b2.lt).trans b2)
    have c3 := hG.boxed (show Boxed W (w.heap.size + 1 + 1) 29 (.int .i64 0) from (hW.block _ b3.lt).trans b3)
    refine ⟨_, results_span rfl ht4 ht5 (box2_far c2 _ (by omega)) (boxed_set c3 _), by rw [hv], (hB2.trans (hG.below (Nat.le_refl _) hB2.size)).setCell (by show w.heap.size ≤ w.heap.size + 1 + 1; omega) _⟩
  have hS : Below V.heap.size V V.drew := (Below.refl _ V).drew
  have c0 : ∀ W', Below V.heap.size V W' → W'.cell? ⟨w.heap.size, 0, none⟩ = some F.s0 ∧ W'.cell? ⟨w.heap.size, 1, none⟩ = some F.s1 ∧ W'.cell? ⟨w.heap.size, 2, none⟩ = some F.s2 := fun W' hw =>
    ⟨(hw.cell b1.lt).trans b1.cell0, (hw.cell b1.lt).trans b1.cell1, (hw.cell b1.lt).trans b1.cell2⟩
  refine held_take 0 (.agg #[F.s0, F.s1, F.s2]) rfl (by kernel_rfl) (by kernel_rfl) (by kernel_rfl) (by intro _ _ _ h; first | exact h | (simpa [behind, Act.put] using h)) rfl (by first | exact hS | assumption) (fun wq hq => ?_) ?_; (focus (first | rfl | (simp [go_sem, (c0 wq hq).1, (c0 wq hq).2.1, (c0 wq hq).2.2]; done))); simp only [Act.put, List.setIfInBounds_toArray, List.set_cons_succ, List.set_cons_zero]
  refine held_take 1 (.agg #[F.s0, F.s1, F.s2]) rfl (by kernel_rfl) (by kernel_rfl) (by kernel_rfl) (by intro _ _ _ h; first | exact h | (simpa [behind, Act.put] using h)) rfl (by first | exact hS | assumption) (fun wq hq => ?_) ?_; (focus (first | rfl | (simp [go_sem, (c0 wq hq).1, (c0 wq hq).2.1, (c0 wq hq).2.2]; done))); simp only [Act.put, List.setIfInBounds_toArray, List.set_cons_succ, List.set_cons_zero]
  refine held_take 2 (.int .i64 s) rfl (by kernel_rfl) (by kernel_rfl) (by kernel_rfl) (by intro _ _ _ h; first | exact h | (simpa [behind, Act.put] using h)) rfl (by first | exact hS | assumption) (fun wq hq => ?_) ?_; (focus (first | rfl | (simp [go_sem]; done))); simp only [Act.put, List.setIfInBounds_toArray, List.set_cons_succ, List.set_cons_zero]
  refine held_take 5 (.int .i64 s) rfl (by kernel_rfl) (by kernel_rfl) (by kernel_rfl) (by intro _ _ _ h; first | exact h | (simpa [behind, Act.put] using h)) rfl (by first | exact hS | assumption) (fun wq hq => ?_) ?_; (focus (first | rfl | (simp [go_sem]; done))); simp only [Act.put, List.setIfInBounds_toArray, List.set_cons_succ, List.set_cons_zero]
  refine held_call 3 (f := 53) (args := #[.agg #[F.s0, F.s1, F.s2], .int .i64 s]) rfl (by kernel_rfl) rfl (by simp [go_sem]) ?_
  refine (isInner_any F s V.drew (hF.below hS) (by omega)).mono ?_
  rintro e W1 ⟨rfl, hw1⟩
  have hS1 : Below V.heap.size V W1 := hS.trans hw1
  refine .inl ⟨_, rfl, hS1, ?_⟩
  simp only [Act.put, List.setIfInBounds_toArray, List.set_cons_succ, List.set_cons_zero]
  refine held_call 4 (f := 47) (args := #[.agg #[F.s0, F.s1, F.s2], .bool (decide (0 < s ∧ s + 1 < F.l0.length))]) rfl (by kernel_rfl) rfl (by simp [go_sem]) ?_
  by_cases hb : b = false
  · subst hb
    refine (open_no1 F _ W1 (hF.below hS1) hi).mono ?_
    rintro e W2 ⟨rfl, hw2⟩
    exact .inr ⟨_, rfl, rfl, Keep.of_below (hS1.trans (hw2.mono hS1.size)), 1, rfl, by simp [atV], ⟨rfl, rfl⟩, hS1.trans (hw2.mono hS1.size)⟩
  have hb' : b = true := by simpa using hb
  subst hb'
  obtain ⟨hl8, hok⟩ := h8 rfl
  by_cases hin : 0 < s ∧ s + 1 < F.l0.length
  · simp only [hin, and_self, decide_true]
    refine (open_yes F W1 (hF.below hS1) hi hl8).mono ?_
    rintro e W2 ⟨A, c, rfl, hc, hsp, hw2, hAb⟩
    have hS2 : Below V.heap.size V W2 := hS1.trans (hw2.mono hS1.size)
    refine .inl ⟨_, rfl, hS2, ?_⟩
    simp only [Act.put, List.setIfInBounds_toArray, List.set_cons_succ, List.set_cons_zero]
    obtain ⟨n, rfl⟩ : ∃ n : Nat, s = n := ⟨s.toNat, by omega⟩
    refine held_call 6 (f := 48) (args := #[.slice A F.l0.length c, .int .i64 n]) rfl (by kernel_rfl) rfl (by simp [go_sem]) ?_
    have hat := at_any A c F.pl n (by omega) (by have := F.pl_len; omega) (by have := F.pl_len; omega) hok W2 hsp
    rw [F.pl_len] at hat
    refine hat.mono ?_
    rintro e W3 ⟨rfl, hw3⟩
    have hS3 : Below V.heap.size V W3 := hS2.trans (hw3.mono hS2.size)
    refine .inl ⟨_, rfl, hS3, ?_⟩
    simp only [Act.put, List.setIfInBounds_toArray, List.set_cons_succ, List.set_cons_zero]
    refine held_done (by kernel_rfl) ?_
    have d2 : Box2 W3 (w.heap.size + 1) 28 0 0 := (hS3.block _ b2.lt).trans b2
    have d3 : Boxed W3 (w.heap.size + 1 + 1) 29 (.int .i64 0) := (hS3.block _ b3.lt).trans b3
    have f1 := d2.cell0
    have f2 := d2.cell1
    have f3 := d2.frozen
    have f4 := d3.cell
    have f5 := d3.frozen
    refine behind_normal 2 (by kernel_rfl) ?_
    refine any_skip 7 ((W3.setCell ⟨w.heap.size + 1, 0, none⟩ (.int .i64 (atF F.pl n).1)).setCell ⟨w.heap.size + 1, 1, none⟩ (.int .i64 (atF F.pl n).2)) rfl (by kernel_rfl) rfl (by simp [go_sem, f1, f2, f3]) ?_; simp only [Act.put, List.setIfInBounds_toArray, List.set_cons_succ, List.set_cons_zero]
    have g2 : Box2 ((W3.setCell ⟨w.heap.size + 1, 0, none⟩ (.int .i64 (atF F.pl n).1)).setCell ⟨w.heap.size + 1, 1, none⟩ (.int .i64 (atF F.pl n).2)) (w.heap.size + 1) 28 (atF F.pl n).1 (atF F.pl n).2 := by (simp only [Boxed, Box2, heap_alloc_at, heap_set_at, World.size_alloc, World.size_setCell]; repeat (first | rfl | exact d2 | rw [if_pos (by omega)] | rw [if_neg (by omega)] | rw [show _ = _ from d2]))
    have g3 : Boxed ((W3.setCell ⟨w.heap.size + 1, 0, none⟩ (.int .i64 (atF F.pl n).1)).setCell ⟨w.heap.size + 1, 1, none⟩ (.int .i64 (atF F.pl n).2)) (w.heap.size + 1 + 1) 29 (.int .i64 0) := by (simp only [Boxed, Box2, heap_alloc_at, heap_set_at, World.size_alloc, World.size_setCell]; repeat (first | rfl | exact d3 | rw [if_pos (by omega)] | rw [if_neg (by omega)] | rw [show _ = _ from d3]))
    have hK : Keep V ((W3.setCell ⟨w.heap.size + 1, 0, none⟩ (.int .i64 (atF F.pl n).1)).setCell ⟨w.heap.size + 1, 1, none⟩ (.int .i64 (atF F.pl n).2)) := ((Keep.of_below hS3).setCell _ _).setCell _ _
    have hB4 : Below w.heap.size w ((W3.setCell ⟨w.heap.size + 1, 0, none⟩ (.int .i64 (atF F.pl n).1)).setCell ⟨w.heap.size + 1, 1, none⟩ (.int .i64 (atF F.pl n).2)) := ((hB.trans (hS3.mono hB.size)).setCell (by show w.heap.size ≤ w.heap.size + 1; omega) _).setCell (by show w.heap.size ≤ w.heap.size + 1; omega) _
    generalize (W3.setCell ⟨w.heap.size + 1, 0, none⟩ (.int .i64 (atF F.pl n).1)).setCell ⟨w.heap.size + 1, 1, none⟩ (.int .i64 (atF F.pl n).2) = W4 at *
    have f4 := g3.cell
    have f5 := g3.frozen
    refine any_skip 8 (W4.setCell ⟨w.heap.size + 1 + 1, 0, none⟩ (.int .i64 0)) rfl (by kernel_rfl) rfl (by simp [go_sem, f4, f5]) ?_; simp only [Act.put, List.setIfInBounds_toArray, List.set_cons_succ, List.set_cons_zero]
    have g4 := boxed_set g3 (.int .i64 0)
    have g5 := box2_far g2 (b := w.heap.size + 1 + 1) (.int .i64 0) (by omega)
    have hB5 := hB4.setCell (p := ⟨w.heap.size + 1 + 1, 0, none⟩) (by show w.heap.size ≤ w.heap.size + 1 + 1; omega) (.int .i64 0)
    have hv : atV true F.pl n = (atF F.pl n, 0) := by
      unfold atV
      rw [if_pos rfl, if_pos ⟨hin.1, by have := F.pl_len; omega⟩]
      rfl
    refine any_done (by kernel_rfl) ⟨rfl, hK.setCell _ _, ?_⟩
    show Exec _ _ _ _ _ _
    refine exec_ret (.inl ⟨.inr rfl, g4.lt, fun W' hG => ⟨_, results_span rfl rfl rfl (hG.box2 g5) (hG.boxed g4), by rw [hv], hB5.trans (hG.below (Nat.le_refl _) hB5.size)⟩⟩)
  · have hd : decide (0 < s ∧ s + 1 < (F.l0.length : Int)) = false := decide_eq_false hin
    rw [hd]
    refine (open_no2 F W1 (hF.below hS1) hi).mono ?_
    rintro e W2 ⟨rfl, hw2⟩
    refine .inr ⟨_, rfl, rfl, Keep.of_below (hS1.trans (hw2.mono hS1.size)), 2, rfl, ?_, ⟨rfl, rfl⟩, hS1.trans (hw2.mono hS1.size)⟩
    unfold atV
    rw [if_pos rfl, if_neg (by rw [F.pl_len]; exact hin)]
end Go.Proofs.Ytafmgmaelnpehaa
end

section
namespace Go.Proofs.Ytafmgmaelnpehaa
open Go.RowKit Go.TL Go.Shelf Go.Fu
attribute [local go_sem] Oper.semAt_some
open PFurrowAsks
theorem Spans.far {W : World} {A : Option Addr} {l : List (Int × Int)} (h : Spans W A l) {p : Addr} {v : Value} (hne : ∀ a, A = some a → a.block ≠ p.block) : Spans (W.setCell p v) A l := by
  rcases h with rfl | ⟨g, off, rfl, hc⟩
  · exact .inl rfl
  · have hb : (W.setCell p v).heap[g]? = W.heap[g]? := Below.heap_setCell W p v g (hne _ rfl)
    have e : ∀ o, (W.setCell p v).cell? ⟨g, o, none⟩ = W.cell? ⟨g, o, none⟩ := fun o => by unfold World.cell?; simp only [hb]
    exact .inr ⟨g, off, rfl, fun i hi => by rw [e, e]; exact hc i hi⟩
noncomputable def bendV (b : Bool) (l : List (Int × Int)) : (Int × Int) × Int := if b then ((leastN l, hiF l (l.length - 2)), 0) else ((0, 0), 1)
set_option maxRecDepth 100000 in
set_option maxHeartbeats 600000 in
theorem Bend_any (F : Fur) (b : Bool) (w : World) (h : F.At w) (hi : F.Is b) (h8 : b = true → F.l0.length ≤ 8 ∧ ∀ x ∈ F.pl, okSpan x) :
    Calls Try.prog 15 #[F.val] w fun e w' => e = .returned (.tuple #[.agg #[.int .i64 (bendV b F.pl).1.1, .int .i64 (bendV b F.pl).1.2], .int .i64 (bendV b F.pl).2]) ∧ Below w.heap.size w w' := by
  have hmf : ∀ fn first cap w, (Instr.makeFunc fn first cap).run Try.prog w = .ok (.func fn first cap) w := fun _ _ _ _ => rfl
  refine (callsIn_wide (n := 0)).1 (callsIn_of_wp_marks Try.func15 rfl trivial ?_)
  simp only [Try.ntmps15, List.size_toArray, List.length_cons, List.length_nil, Nat.reduceAdd, Nat.reduceSub, Array.replicate_succ, Array.replicate_zero, List.push_toArray, List.append_toArray, List.nil_append, List.cons_append]
  simp only [Fur.val]
  refine split_rest fun rest hR => ?_
  gi_wp2
  have hB := (((Below.refl w.heap.size w).alloc (Nat.le_refl _) (.cells #[F.s0, F.s1, F.s2] 24)).alloc (by simp) (.cells #[.int .i64 0, .int .i64 0] 28)).alloc (by simp; omega) (.cells #[.int .i64 0] 29)
  have b1 : Box3 (((w.alloc (.cells #[F.s0, F.s1, F.s2] 24)).alloc (.cells #[.int .i64 0, .int .i64 0] 28)).alloc (.cells #[.int .i64 0] 29)) w.heap.size 24 F.s0 F.s1 F.s2 := ((Box3.new w 24 F.s0 F.s1 F.s2).grow (Grow.alloc 0 _ _)).grow (Grow.alloc 0 _ _)
  have b2 : Box2 (((w.alloc (.cells #[F.s0, F.s1, F.s2] 24)).alloc (.cells #[.int .i64 0, .int .i64 0] 28)).alloc (.cells #[.int .i64 0] 29)) (w.heap.size + 1) 28 0 0 := by (simp only [Boxed, Box2, heap_alloc_at, heap_set_at, World.size_alloc, World.size_setCell]; repeat (first | rfl | rw [if_pos (by omega)] | rw [if_neg (by omega)]))
  have b3 : Boxed (((w.alloc (.cells #[F.s0, F.s1, F.s2] 24)).alloc (.cells #[.int .i64 0, .int .i64 0] 28)).alloc (.cells #[.int .i64 0] 29)) (w.heap.size + 1 + 1) 29 (.int .i64 0) := by (simp only [Boxed, Box2, heap_alloc_at, heap_set_at, World.size_alloc, World.size_setCell]; repeat (first | rfl | rw [if_pos (by omega)] | rw [if_neg (by omega)]))
  refine guard_rest (lo := w.heap.size) (T := 132) (b := w.heap.size + 1 + 1) catches45 ⟨_, _, rfl⟩ (fun W => by simp [go_sem]) hB.size ?_
  subst hR
  generalize ((w.alloc (.cells #[F.s0, F.s1, F.s2] 24)).alloc (.cells #[.int .i64 0, .int .i64 0] 28)).alloc (.cells #[.int .i64 0] 29) = V at *
  clear hmf
  have hF := h.below hB
  have c0 := b1.cell0
  have c1 := b1.cell1
  have c2 := b1.cell2
  refine exec_seq (exec_region_o fun ds => ?_)
  gi_wp2_with fail
  by_cases hb : b = false
  · subst hb
    refine ⟨trivial, rfl, (callsIn_wide.2 (open_no1 F _ V hF hi)).mono ?_⟩
    rintro e W2 ⟨rfl, hw2⟩
    refine eq_mk (Keep.of_below hw2) ?_
    refine .inr ⟨1, 29, 0, rfl, (hw2.block _ b3.lt).trans b3, ?_⟩
    rintro W' W'' hG rfl
    have hB2 := hB.trans (hw2.mono hB.size)
    have d2 := hG.box2 (show Box2 W2 (w.heap.size + 1) 28 0 0 from (hw2.block _ b2.lt).trans b2)
    have d3 := hG.boxed (show Boxed W2 (w.heap.size + 1 + 1) 29 (.int .i64 0) from (hw2.block _ b3.lt).trans b3)
    exact ⟨_, results_span rfl rfl rfl (box2_far d2 _ (by omega)) (boxed_set d3 _), by simp [bendV], (hB2.trans (hG.below (Nat.le_refl _) hB2.size)).setCell (by show w.heap.size ≤ w.heap.size + 1 + 1; omega) _⟩
  have hb' : b = true := by simpa using hb
  subst hb'
  obtain ⟨hl8, hok⟩ := h8 rfl
  refine ⟨trivial, rfl, (callsIn_wide.2 (open_yes F V hF hi hl8)).mono ?_⟩
  rintro e W2 ⟨A, c, rfl, hc, hsp, hw2, hAb⟩
  gi_wp2_with fail
  refine eq_mk (Keep.of_below hw2) ?_
  show Exec _ _ _ _ _ _
  have d2 : Box2 W2 (w.heap.size + 1) 28 0 0 := (hw2.block _ b2.lt).trans b2
  have d3 : Boxed W2 (w.heap.size + 1 + 1) 29 (.int .i64 0) := (hw2.block _ b3.lt).trans b3
  have hB2 := hB.trans (hw2.mono hB.size)
  have hpl : F.l0.length = F.pl.length := F.pl_len.symm
  rw [hpl] at hl8 hc ⊢
  have hsp' : Spans W2 A F.pl := hsp
  clear hsp
  have hAc : ∀ a, A = some a → w.heap.size + 1 + 1 < a.block := fun a ha => Nat.lt_of_lt_of_le b3.lt (hAb a ha)
  clear b1 b2 b3 c0 c1 c2 hF hw2 hB hAb
  clear V
  generalize F.pl = l at *
  refine exec_seq (exec_seq (exec_region_o fun ds => ?_))
  gi_wp2
  refine eq_mk (Keep.refl _) ?_
  show Exec _ _ _ _ _ _
  refine exec_block ?_
  refine exec_loop (fun j t W => ∃ k : Nat, k ≤ l.length - 2 ∧ j = l.length - 2 - k ∧ Box2 W (w.heap.size + 1) 28 0 (hiF l k) ∧ Boxed W (w.heap.size + 1 + 1) 29 (.int .i64 0) ∧ Below w.heap.size w W ∧ Spans W A l ∧
      Slots [none, none, some (.pointer (some ⟨w.heap.size + 1, 0, none⟩)), some (.pointer (some ⟨w.heap.size + 1 + 1, 0, none⟩)), some (.slice A l.length c), some (.int .i64 ((k : Int) + 1)), none, none, none, none, none, none, none, none, none, none, none, none, none, none, none, none, none, none, none, none, none, none] t) (l.length - 2)
    ⟨0, by omega, by omega, d2, d3, hB2, hsp', ⟨rfl, rfl, rfl, rfl, trivial⟩⟩ ?_
  clear d2 d3 hB2 hsp'
  clear W2
  rintro j t W ⟨k, hk, hj, d2, d3, hB, hsp, hSl⟩
  obtain ⟨x, hx⟩ := Slots.open_ hSl; simp only [fill, Nat.reduceAdd] at hx; subst hx; clear hSl
  refine exec_seq (exec_seq (exec_region_o fun ds => ?_))
  gi_wp2
  refine eq_mk (Keep.refl _) ?_
  show Exec _ _ _ _ _ _
  refine exec_cond (b := decide ((k : Int) + 1 + 1 < l.length)) rfl (fun hp => ?_) (fun hp => ?_)
  · have hkl : k + 2 < l.length := by have := of_decide_eq_true hp; omega
    refine exec_skip ?_
    show Exec _ _ _ _ _ _
    have hst : (if hiF l k < (atF l (k + 1)).2 then (atF l (k + 1)).2 else hiF l k) = hiF l (k + 1) := rfl
    obtain ⟨u, hu⟩ : ∃ u, hiF l (k + 1) = u := ⟨_, rfl⟩
    obtain ⟨x0, hx0⟩ : ∃ u, hiF l k = u := ⟨_, rfl⟩
    obtain ⟨y0, hy0⟩ : ∃ u, (atF l (k + 1)).2 = u := ⟨_, rfl⟩
    rw [hu, hx0, hy0] at hst
    rw [hx0] at d2
    refine exec_seq (exec_block ?_)
    have e1 : ((k : Int) + 1) = ((k + 1 : Nat) : Int) := by omega
    refine region_of_tail 7 (by kernel_rfl) (by kernel_rfl) (by kernel_rfl) (fun W' => Below W.heap.size W W') (fun _ _ _ => False) (fun _ _ _ h => h.elim) fun ds => ?_
    have hS : Below W.heap.size W W.drew := (Below.refl _ W).drew
    have cH : ∀ W', Below W.heap.size W W' → W'.cell? ⟨w.heap.size + 1, 1, none⟩ = some (.int .i64 (x0)) := fun W' hw => (hw.cell d2.lt).trans d2.cell1
    have cL : ∀ W', Below W.heap.size W W' → W'.cell? ⟨w.heap.size + 1, 0, none⟩ = some (.int .i64 0) := fun W' hw => (hw.cell d2.lt).trans d2.cell0
    refine held_take 0 (.pointer (some ⟨w.heap.size + 1, 1, none⟩)) rfl (by kernel_rfl) (by kernel_rfl) (by kernel_rfl) (by intro _ _ _ h; first | exact h | (simpa [behind, Act.put] using h)) rfl (by first | exact hS | assumption) (fun wq hq => ?_) ?_; (focus (first | rfl | (simp [go_sem, cL wq hq]; done))); simp only [Act.put, List.setIfInBounds_toArray, List.set_cons_succ, List.set_cons_zero]
    refine held_take 1 (.int .i64 (x0)) rfl (by kernel_rfl) (by kernel_rfl) (by kernel_rfl) (by intro _ _ _ h; first | exact h | (simpa [behind, Act.put] using h)) rfl (by first | exact hS | assumption) (fun wq hq => ?_) ?_; (focus (first | rfl | (simp [go_sem, cH wq hq]; done))); simp only [Act.put, List.setIfInBounds_toArray, List.set_cons_succ, List.set_cons_zero]
    refine held_take 2 (.slice A l.length c) rfl (by kernel_rfl) (by kernel_rfl) (by kernel_rfl) (by intro _ _ _ h; first | exact h | (simpa [behind, Act.put] using h)) rfl (by first | exact hS | assumption) (fun wq hq => ?_) ?_; (focus (first | rfl | (simp [go_sem]; done))); simp only [Act.put, List.setIfInBounds_toArray, List.set_cons_succ, List.set_cons_zero]
    refine held_take 3 (.int .i64 ((k : Int) + 1)) rfl (by kernel_rfl) (by kernel_rfl) (by kernel_rfl) (by intro _ _ _ h; first | exact h | (simpa [behind, Act.put] using h)) rfl (by first | exact hS | assumption) (fun wq hq => ?_) ?_; (focus (first | rfl | (simp [go_sem]; done))); simp only [Act.put, List.setIfInBounds_toArray, List.set_cons_succ, List.set_cons_zero]
    refine held_call 4 (f := 48) (args := #[.slice A l.length c, .int .i64 ((k : Int) + 1)]) rfl (by kernel_rfl) rfl (by simp [go_sem]) ?_
    rw [e1]
    refine (at_any A c l (k + 1) (by omega) (by omega) hl8 hok W.drew (hsp.grow (Grow.of_below (B := 0) hS))).mono ?_
    rintro e W3 ⟨rfl, hw3⟩
    have hS3 : Below W.heap.size W W3 := hS.trans hw3
    refine .inl ⟨_, rfl, hS3, ?_⟩
    simp only [Act.put, List.setIfInBounds_toArray, List.set_cons_succ, List.set_cons_zero]
    rw [hy0]
    refine held_take 5 (.int .i64 y0) rfl (by kernel_rfl) (by kernel_rfl) (by kernel_rfl) (by intro _ _ _ h; first | exact h | (simpa [behind, Act.put] using h)) rfl (by first | exact hS | assumption) (fun wq hq => ?_) ?_; (focus (first | rfl | (simp [go_sem]; done))); simp only [Act.put, List.setIfInBounds_toArray, List.set_cons_succ, List.set_cons_zero]
    refine held_take 6 (.int .i64 (u)) rfl (by kernel_rfl) (by kernel_rfl) (by kernel_rfl) (by intro _ _ _ h; first | exact h | (simpa [behind, Act.put] using h)) rfl (by first | exact hS | assumption) (fun wq hq => ?_) ?_; (focus (simp [go_sem, hst]; done)); simp only [Act.put, List.setIfInBounds_toArray, List.set_cons_succ, List.set_cons_zero]
    refine held_done (by kernel_rfl) ?_
    refine behind_normal 2 (by kernel_rfl) ?_
    have g2 : Box2 W3 (w.heap.size + 1) 28 0 (x0) := (hS3.block _ d2.lt).trans d2
    have g3 : Boxed W3 (w.heap.size + 1 + 1) 29 (.int .i64 0) := (hS3.block _ d3.lt).trans d3
    have f1 := g2.cell0
    have f2 := g2.cell1
    have f3 := g2.frozen
    refine any_val 7 (.pointer (some ⟨w.heap.size + 1, 1, none⟩)) rfl (by kernel_rfl) rfl (by first | (simp [go_sem, f1]; done) | rfl) ?_; simp only [Act.put, List.setIfInBounds_toArray, List.set_cons_succ, List.set_cons_zero]
    refine any_skip 8 (W3.setCell ⟨w.heap.size + 1, 1, none⟩ (.int .i64 (u))) rfl (by kernel_rfl) rfl (by simp [go_sem, f2, f3]) ?_; simp only [Act.put, List.setIfInBounds_toArray, List.set_cons_succ, List.set_cons_zero]
    refine any_done (by kernel_rfl) ⟨rfl, (Keep.of_below hS3).setCell _ _, ?_⟩
    show Exec _ _ _ _ _ _
    have g4 : Box2 (W3.setCell ⟨w.heap.size + 1, 1, none⟩ (.int .i64 (u))) (w.heap.size + 1) 28 0 (u) := by (simp only [Boxed, Box2, heap_alloc_at, heap_set_at, World.size_alloc, World.size_setCell]; repeat (first | rfl | exact g2 | rw [if_pos (by omega)] | rw [if_neg (by omega)] | rw [show _ = _ from g2]))
    have g5 : Boxed (W3.setCell ⟨w.heap.size + 1, 1, none⟩ (.int .i64 (u))) (w.heap.size + 1 + 1) 29 (.int .i64 0) := by (simp only [Boxed, Box2, heap_alloc_at, heap_set_at, World.size_alloc, World.size_setCell]; repeat (first | rfl | exact g3 | rw [if_pos (by omega)] | rw [if_neg (by omega)] | rw [show _ = _ from g3]))
    have g6 : Spans (W3.setCell ⟨w.heap.size + 1, 1, none⟩ (.int .i64 (u))) A l := (hsp.grow (Grow.of_below (B := 0) hS3)).far (fun a ha => by have := hAc a ha; show a.block ≠ w.heap.size + 1; omega)
    have hB4 := (hB.trans (hS3.mono hB.size)).setCell (p := ⟨w.heap.size + 1, 1, none⟩) (by show w.heap.size ≤ w.heap.size + 1; omega) (.int .i64 (u))
    generalize W3.setCell ⟨w.heap.size + 1, 1, none⟩ (.int .i64 (u)) = W4 at *
    clear f1 f2 f3 g2 g3 cH cL hS hS3 e1 hst hw3 hx0 hy0 d2 d3 hB hsp
    have HU := Lib.hid hu
    clear hu
    refine exec_region_o fun ds => ?_
    gi_wp2
    refine eq_mk (Keep.refl _) ⟨j - 1, by omega, k + 1, by omega, by omega, HU.out ▸ g4, g5, hB4, g6, ⟨rfl, rfl, rfl, by simp, trivial⟩⟩
  · have hkl : k = l.length - 2 := by have := of_decide_eq_false hp; omega
    subst hkl
    refine exec_exit ?_
    show Exec _ _ _ _ _ _
    have hls := leastN_is l hok
    have hll := leastN_le l hok
    refine exec_seq (exec_region_o fun ds => ?_)
    gi_wp2_with fail
    refine ⟨trivial, rfl, (callsIn_wide.2 (least_any A c l hl8 hok (leastN l) hls.1 hls.2 (by omega) W hsp)).mono ?_⟩
    rintro e W3 ⟨rfl, hw3⟩
    have g2 : Box2 W3 (w.heap.size + 1) 28 0 (hiF l (l.length - 2)) := (hw3.block _ d2.lt).trans d2
    have g3 : Boxed W3 (w.heap.size + 1 + 1) 29 (.int .i64 0) := (hw3.block _ d3.lt).trans d3
    have hB3 := hB.trans (hw3.mono hB.size)
    clear d2 d3 hB hsp
    have f1 := g2.cell0
    have f2 := g2.cell1
    have f3 := g2.frozen
    gi_wp2
    refine eq_mk ((Keep.of_below hw3).setCell _ _) ?_
    show Exec _ _ _ _ _ _
    have g4 : Box2 (W3.setCell ⟨w.heap.size + 1, 0, none⟩ (.int .i64 (leastN l))) (w.heap.size + 1) 28 (leastN l) (hiF l (l.length - 2)) := by (simp only [Boxed, Box2, heap_alloc_at, heap_set_at, World.size_alloc, World.size_setCell]; repeat (first | rfl | exact g2 | rw [if_pos (by omega)] | rw [if_neg (by omega)] | rw [show _ = _ from g2]))
    have g5 : Boxed (W3.setCell ⟨w.heap.size + 1, 0, none⟩ (.int .i64 (leastN l))) (w.heap.size + 1 + 1) 29 (.int .i64 0) := by (simp only [Boxed, Box2, heap_alloc_at, heap_set_at, World.size_alloc, World.size_setCell]; repeat (first | rfl | exact g3 | rw [if_pos (by omega)] | rw [if_neg (by omega)] | rw [show _ = _ from g3]))
    have hB4 := hB3.setCell (p := ⟨w.heap.size + 1, 0, none⟩) (by show w.heap.size ≤ w.heap.size + 1; omega) (.int .i64 (leastN l))
    generalize W3.setCell ⟨w.heap.size + 1, 0, none⟩ (.int .i64 (leastN l)) = W4 at *
    clear g2 g3 f1 f2 f3 hw3 hB3
    have f1 := g4.cell0
    have f2 := g4.cell1
    have f3 := g4.frozen
    have f4 := g5.cell
    have f5 := g5.frozen
    refine exec_seq (exec_region_o fun ds => ?_)
    gi_wp2
    refine eq_mk ((((Keep.refl _).setCell _ _).setCell _ _).setCell _ _) ?_
    have g6 : Box2 (((W4.setCell ⟨w.heap.size + 1, 0, none⟩ (.int .i64 (leastN l))).setCell ⟨w.heap.size + 1, 1, none⟩ (.int .i64 (hiF l (l.length - 2)))).setCell ⟨w.heap.size + 1 + 1, 0, none⟩ (.int .i64 0)) (w.heap.size + 1) 28 (leastN l) (hiF l (l.length - 2)) := by (simp only [Boxed, Box2, heap_alloc_at, heap_set_at, World.size_alloc, World.size_setCell]; repeat (first | rfl | exact g4 | rw [if_pos (by omega)] | rw [if_neg (by omega)] | rw [show _ = _ from g4]))
    have g7 : Boxed (((W4.setCell ⟨w.heap.size + 1, 0, none⟩ (.int .i64 (leastN l))).setCell ⟨w.heap.size + 1, 1, none⟩ (.int .i64 (hiF l (l.length - 2)))).setCell ⟨w.heap.size + 1 + 1, 0, none⟩ (.int .i64 0)) (w.heap.size + 1 + 1) 29 (.int .i64 0) := boxed_set (t := 29) (x := .int .i64 0) ((Below.heap_setCell _ _ _ _ (by show w.heap.size + 1 + 1 ≠ w.heap.size + 1; omega)).trans ((Below.heap_setCell _ _ _ _ (by show w.heap.size + 1 + 1 ≠ w.heap.size + 1; omega)).trans g5)) _
    have hB5 : Below w.heap.size w (((W4.setCell ⟨w.heap.size + 1, 0, none⟩ (.int .i64 (leastN l))).setCell ⟨w.heap.size + 1, 1, none⟩ (.int .i64 (hiF l (l.length - 2)))).setCell ⟨w.heap.size + 1 + 1, 0, none⟩ (.int .i64 0)) := ((hB4.setCell (by show w.heap.size ≤ w.heap.size + 1; omega) _).setCell (by show w.heap.size ≤ w.heap.size + 1; omega) _).setCell (by show w.heap.size ≤ w.heap.size + 1 + 1; omega) _
    exact exec_ret (.inl ⟨.inr rfl, g7.lt, fun W' hG => ⟨_, results_span rfl rfl rfl (hG.box2 g6) (hG.boxed g7), rfl, hB5.trans (hG.below (Nat.le_refl _) hB5.size)⟩⟩)
end Go.Proofs.Ytafmgmaelnpehaa
end

section
namespace Go.Proofs.Ytafmgmaelnpehaa
open Go.RowKit Go.TL Go.Shelf Go.Fu
attribute [local go_sem] Oper.semAt_some
section
variable {F : Fence} {n : Nat} {P : Program} {ops : Array Oper} {rest : List Oper} {o : Oper} {a : Act} {Q : Exit → Act → World → Prop} {w : World}
end
end Go.Proofs.Ytafmgmaelnpehaa
end

section
namespace Go.Proofs.Ytafmgmaelnpehaa
open Go.RowKit Go.TL Go.Shelf Go.Fu
attribute [local go_sem] Oper.semAt_some
open PFurrowAsks
theorem own_grow {w w' : World} {B base size n : Nat} {e : TypeId} {v : Value} {xs : List Value} (h : w.ownsRow base e size v n xs) (hg : Grow B w w') : w'.ownsRow base e size v n xs := by
  refine ⟨h.1, ?_⟩
  rcases h.2 with hn | ⟨g, cap, cur, rfl, hb, hh, r⟩
  · exact .inl hn
  · exact .inr ⟨g, cap, cur, rfl, hb, hg.same _ _ hh (.inr rfl), r⟩
end Go.Proofs.Ytafmgmaelnpehaa
end

section
namespace Go.Proofs.Ytafmgmaelnpehaa
open Go.RowKit Go.TL Go.Shelf Go.Fu
attribute [local go_sem] Oper.semAt_some
open PFurrowAsks
theorem Spans.far' {W : World} {A : Option Addr} {l : List (Int × Int)} (h : Spans W A l) {p : Addr} {v : Value} (hne : l ≠ [] → ∀ a, A = some a → a.block ≠ p.block) : Spans (W.setCell p v) A l := by
  by_cases hl : l = []
  · exact .inl hl
  · exact h.far (hne hl)
theorem Spans.lt {W : World} {A : Option Addr} {l : List (Int × Int)} (h : Spans W A l) (hl : l ≠ []) : ∀ a, A = some a → a.block < W.heap.size := by
  intro a ha
  rcases h with rfl | ⟨g, off, rfl, hc⟩
  · exact absurd rfl hl
  · cases ha
    exact World.block_lt_of_cell? W _ (hc 0 (List.length_pos_iff.2 hl)).1
structure StrB (w : World) (A : Option Addr) (l : List (Int × Int)) (c : Nat) (most : Nat) (b4 b5 : Nat) (v : Value) (out : List Int) (W : World) : Prop where
  f : Boxed W b4 79 (.slice A l.length c)
  sp : Spans W A l
  far : l ≠ [] → ∀ a, A = some a → a.block ≠ w.heap.size + 1 ∧ a.block ≠ w.heap.size + 1 + 1 ∧ a.block ≠ b4 ∧ a.block ≠ b5
  m : Boxed W b5 3 (.int .i64 most)
  o : Boxed W (w.heap.size + 1) 33 v
  own : W.ownsRow (b5 + 1) 3 1 v out.length (out.map (Value.int .i64))
  e : Boxed W (w.heap.size + 1 + 1) 29 (.int .i64 0)
  below : Below w.heap.size w W
  o4 : w.heap.size + 1 + 1 < b4
  o5 : b4 < b5
theorem StrB.grow {w : World} {A : Option Addr} {l : List (Int × Int)} {c most b4 b5 : Nat} {v : Value} {out : List Int} {W W' : World} {B : Nat} (h : StrB w A l c most b4 b5 v out W) (hg : Grow B W W') (hB : w.heap.size ≤ B) : StrB w A l c most b4 b5 v out W' :=
  ⟨hg.boxed h.f, h.sp.grow hg, h.far, hg.boxed h.m, hg.boxed h.o, own_grow h.own hg, hg.boxed h.e, h.below.trans (hg.below hB h.below.size), h.o4, h.o5⟩

end Go.Proofs.Ytafmgmaelnpehaa
end

section
namespace Go.Proofs.Ytafmgmaelnpehaa
open Go.RowKit Go.TL Go.Shelf Go.Fu
attribute [local go_sem] Oper.semAt_some
open PFurrowAsks
end Go.Proofs.Ytafmgmaelnpehaa
end

section
namespace Go.Proofs.Ytafmgmaelnpehaa
open Go.RowKit Go.TL Go.Shelf Go.Fu
attribute [local go_sem] Oper.semAt_some
open PFurrowAsks

def freeK (s : Nat) (l : List (Int × Int)) : Nat → List (Int × Int)
  | 0 => l
  | k + 1 => if s / 2 ^ k % 2 = 1 then (freeK s l k).set k (-12, 12) else freeK s l k
def freeS (s : Nat) (l : List (Int × Int)) : List (Int × Int) := freeK s l l.length
theorem bit_all : (List.range 256).all (fun s => (List.range 8).all fun k => (bits .and .u64 ((s : Int) / 2 ^ k) 1 == 1) == decide (s / 2 ^ k % 2 = 1)) = true := by kernel_rfl
end Go.Proofs.Ytafmgmaelnpehaa
end

section
namespace Go.Proofs.Ytafmgmaelnpehaa
open Go.RowKit Go.TL Go.Shelf Go.Fu
attribute [local go_sem] Oper.semAt_some
open PFurrowAsks


def ones : Nat → Nat → Nat
  | 0, _ => 0
  | k + 1, s => s % 2 + ones k (s / 2)
structure WrB (w : World) (A : Option Addr) (l : List (Int × Int)) (W : World) : Prop where
  sp : Spans W A l
  nil : A = none → l = []
  e : Boxed W (w.heap.size + 1) 29 (.int .i64 0)
  below : Below w.heap.size w W
theorem WrB.grow {w : World} {A : Option Addr} {l : List (Int × Int)} {W W' : World} {B : Nat} (h : WrB w A l W) (hg : Grow B W W') (hB : w.heap.size ≤ B) : WrB w A l W' := ⟨h.sp.grow hg, h.nil, hg.boxed h.e, h.below.trans (hg.below hB h.below.size)⟩
end Go.Proofs.Ytafmgmaelnpehaa
end

section
namespace Go.Proofs.Ytafmgmaelnpehaa
open Go.RowKit Go.TL Go.Shelf Go.Fu
attribute [local go_sem] Oper.semAt_some
open PFurrowAsks



end Go.Proofs.Ytafmgmaelnpehaa
end

section
namespace Go.Proofs.Ytafmgmaelnpehaa
open Go.RowKit Go.TL Go.Shelf Go.Fu
attribute [local go_sem] Oper.semAt_some
open PFurrowAsks




end Go.Proofs.Ytafmgmaelnpehaa
end

section
namespace Go.Proofs.Ytafmgmaelnpehaa
open Go.RowKit Go.TL Go.Shelf Go.Fu
attribute [local go_sem] Oper.semAt_some
open PFurrowAsks





def Box4 (W : World) (B : Nat) (t : TypeId) (a b c d : Int) : Prop := W.heap[B]? = some (.cells #[.int .i64 a, .int .i64 b, .int .i64 c, .int .i64 d] t (0, 0))
theorem Box4.cells {W : World} {B : Nat} {t : TypeId} {a b c d : Int} (h : Box4 W B t a b c d) : W.cell? ⟨B, 0, none⟩ = some (.int .i64 a) ∧ W.cell? ⟨B, 1, none⟩ = some (.int .i64 b) ∧ W.cell? ⟨B, 2, none⟩ = some (.int .i64 c) ∧ W.cell? ⟨B, 3, none⟩ = some (.int .i64 d) := by
  refine ⟨?_, ?_, ?_, ?_⟩ <;> simp [World.cell?, show W.heap[B]? = _ from h]
def FBox (F : Fur) (b : Nat) (W : World) : Prop := Box3 W b 24 F.s0 F.s1 F.s2 ∧ F.At W
theorem FBox.below {F : Fur} {b : Nat} {W W' : World} (h : FBox F b W) (hb : Below W.heap.size W W') : FBox F b W' := ⟨h.1.grow (Grow.of_below (B := 0) hb), h.2.below hb⟩
end Go.Proofs.Ytafmgmaelnpehaa
end

section
namespace Go.Proofs.Ytafmgmaelnpehaa
open Go.RowKit Go.TL Go.Shelf Go.Fu
attribute [local go_sem] Oper.semAt_some
open PFurrowAsks






theorem info28' : ∃ i0, Try.prog.info? 28 = some i0 ∧ i0.zero = some (.agg #[.int .i64 0, .int .i64 0]) ∧ i0.size = 2 ∧ i0.bytes = 16 := by
  have := info28
  cases h : Try.prog.info? 28 with
  | none => rw [h] at this; cases this
  | some i0 =>
    rw [h] at this
    have hz := Option.some.inj this
    simp only [Prod.mk.injEq] at hz
    exact ⟨i0, rfl, hz⟩
end Go.Proofs.Ytafmgmaelnpehaa
end

section
namespace Go.Proofs.Ytafmgmaelnpehaa
open Go.RowKit Go.TL Go.Shelf Go.Fu
attribute [local go_sem] Oper.semAt_some
open PFurrowAsks







section
variable {P : Program} {md : Region.Mode} {ops : Array Oper} {Q : Exit → Act → World → Prop} {S : World → Prop} {o : Oper} {fuel : Nat} {listed : Array Bool} {a : Act} {w : World}
end
end Go.Proofs.Ytafmgmaelnpehaa
end

section
namespace Go.Proofs.Ytafmgmaelnpehaa
open Go.RowKit Go.TL Go.Shelf Go.Fu
attribute [local go_sem] Oper.semAt_some
open PFurrowAsks








def z28' : S28 := ⟨0, 0⟩
def Fur.d (F : Fur) (k : Nat) : Int × Int := toP (F.l2.getD k z28')
end Go.Proofs.Ytafmgmaelnpehaa
end

section
namespace Go.Proofs.Ytafmgmaelnpehaa
open Go.RowKit Go.TL Go.Shelf Go.Fu
attribute [local go_sem] Oper.semAt_some
open PFurrowAsks









end Go.Proofs.Ytafmgmaelnpehaa
end

section
namespace Go.Proofs.Ytafmgmaelnpehaa
open Go.RowKit Go.TL Go.Shelf Go.Fu
attribute [local go_sem] Oper.semAt_some
open PFurrowAsks
end Go.Proofs.Ytafmgmaelnpehaa
end

section
namespace Go.Proofs.Ytafmgmaelnpehaa
open Go.RowKit Go.TL Go.Shelf Go.Fu
attribute [local go_sem] Oper.semAt_some
open PFurrowAsks
structure WoB (w : World) (A : Option Addr) (l : List (Int × Int)) (c b5 b6 n : Nat) (W : World) : Prop where
  f : Boxed W b5 79 (.slice A l.length c)
  sp : Spans W A l
  far : l ≠ [] → ∀ a, A = some a → a.block < b5
  n : Boxed W b6 3 (.int .i64 n)
  e : Boxed W (w.heap.size + 1) 29 (.int .i64 0)
  below : Below w.heap.size w W
  o5 : w.heap.size + 1 < b5
  o6 : b5 < b6
theorem WoB.grow {w : World} {A : Option Addr} {l : List (Int × Int)} {c b5 b6 n : Nat} {W W' : World} {B : Nat} (h : WoB w A l c b5 b6 n W) (hg : Grow B W W') (hB : w.heap.size ≤ B) : WoB w A l c b5 b6 n W' :=
  ⟨hg.boxed h.f, h.sp.grow hg, h.far, hg.boxed h.n, hg.boxed h.e, h.below.trans (hg.below hB h.below.size), h.o5, h.o6⟩
theorem WoB.set {w : World} {A : Option Addr} {l : List (Int × Int)} {c b5 b6 n : Nat} {W : World} (h : WoB w A l c b5 b6 n W) (b : Nat) (v : Value) (hb : b6 < b) : WoB w A l c b5 b6 n (W.setCell ⟨b, 0, none⟩ v) := by
  obtain ⟨h1, h2, h3, h4, h5, h6, h7, h8⟩ := h
  exact ⟨boxed_far h1 _ (by omega), h2.far' (fun hl a ha => by have := h3 hl a ha; show _ ≠ b; omega), h3, boxed_far h4 _ (by omega), boxed_far h5 _ (by omega), h6.setCell (by show w.heap.size ≤ b; omega) _, h7, h8⟩
structure WoR (w : World) (A : Option Addr) (l : List (Int × Int)) (c b5 b6 n b8 b9 bC : Nat) (s : Int × Int) (m ls : Bool) (W : World) : Prop where
  b : WoB w A l c b5 b6 n W
  m : Boxed W b8 4 (.bool m)
  ls : Boxed W b9 4 (.bool ls)
  it : Box2 W bC 89 s.1 s.2
  o8 : b6 < b8
  o9 : b8 < b9
  oC : b9 < bC
section
variable {w : World} {A : Option Addr} {l : List (Int × Int)} {c b5 b6 n b8 b9 bC : Nat} {s : Int × Int} {m ls : Bool} {W W' : World}
theorem WoR.grow {B : Nat} (h : WoR w A l c b5 b6 n b8 b9 bC s m ls W) (hg : Grow B W W') (hB : w.heap.size ≤ B) : WoR w A l c b5 b6 n b8 b9 bC s m ls W' :=
  ⟨h.b.grow hg hB, hg.boxed h.m, hg.boxed h.ls, hg.box2 h.it, h.o8, h.o9, h.oC⟩
theorem WoR.set (h : WoR w A l c b5 b6 n b8 b9 bC s m ls W) (b : Nat) (v : Value) (hb : bC < b) : WoR w A l c b5 b6 n b8 b9 bC s m ls (W.setCell ⟨b, 0, none⟩ v) := by
  obtain ⟨h1, h2, h3, h4, h5, h6, h7⟩ := h
  exact ⟨h1.set b v (by omega), boxed_far h2 _ (by omega), boxed_far h3 _ (by omega), box2_far h4 _ (by omega), h5, h6, h7⟩
end
end Go.Proofs.Ytafmgmaelnpehaa
end

section
namespace Go.Proofs.Ytafmgmaelnpehaa
open Go.RowKit Go.TL Go.Shelf Go.Fu
attribute [local go_sem] Oper.semAt_some
open PFurrowAsks
end Go.Proofs.Ytafmgmaelnpehaa
end

section
namespace Go.Proofs.Ytafmgmaelnpehaa
open Go.RowKit Go.TL Go.Shelf Go.Fu
attribute [local go_sem] Oper.semAt_some
open PFurrowAsks
end Go.Proofs.Ytafmgmaelnpehaa
end

section
namespace Go.Fu
def InS (l : List (Int × Int)) (i : Nat) (a : Int) : Prop := (l.getD i (0, 0)).1 ≤ a ∧ a ≤ (l.getD i (0, 0)).2
def Truth (l : List (Int × Int)) (x : Nat → Int) : Prop := ∀ i, i < l.length → InS l i (x i)
def bnd (x : Nat → Int) (n : Nat) : Int := bendI (x (n - 1)) (x n) (x (n + 1))
theorem mem_in (l : List (Int × Int)) (i : Nat) (a : Int) : a ∈ spanL (l.getD i (0, 0)) ↔ InS l i a := mem_spanL _ _
theorem bnd_congr {x y : Nat → Int} {n : Nat} (h1 : x (n - 1) = y (n - 1)) (h2 : x n = y n) (h3 : x (n + 1) = y (n + 1)) : bnd x n = bnd y n := by unfold bnd; rw [h1, h2, h3]
theorem reach_iff (l : List (Int × Int)) (p : Int → Int → Bool) : ∀ (m : Nat) (q : Int × Int), Reach l p (m + 1) q ↔
    ∃ y : Nat → Int, (∀ i, i ≤ m + 1 → InS l i (y i)) ∧ y m = q.1 ∧ y (m + 1) = q.2 ∧ ∀ n, 1 ≤ n → n ≤ m → p n (bnd y n) = true
  | 0, q => by
    show (_ ∧ _) ↔ _
    rw [mem_in, mem_in]
    constructor
    · rintro ⟨h1, h2⟩
      refine ⟨fun i => if i = 0 then q.1 else q.2, fun i hi => ?_, rfl, rfl, fun n h1 h2 => by omega⟩
      by_cases e : i = 0
      · subst e; exact h1
      · obtain rfl : i = 1 := by omega
        exact h2
    · rintro ⟨y, h, e1, e2, _⟩
      rw [← e1, ← e2]
      exact ⟨h 0 (by omega), h 1 (by omega)⟩
  | m + 1, q => by
    show (_ ∧ ∃ a, Reach l p (m + 1) (a, q.1) ∧ _) ↔ _
    rw [mem_in]
    constructor
    · rintro ⟨h1, a, h2, h3⟩
      obtain ⟨y, hy, e1, e2, hp⟩ := (reach_iff l p m _).1 h2
      simp only at e1 e2
      refine ⟨fun i => if i = m + 2 then q.2 else y i, fun i hi => ?_, ?_, ?_, fun n hn1 hn2 => ?_⟩
      · by_cases e : i = m + 2
        · subst e; simpa using h1
        · simp only [e, if_false]; exact hy i (by omega)
      · simp only [show m + 1 ≠ m + 2 by omega, if_false]; exact e2
      · simp
      · by_cases e : n = m + 1
        · subst e
          have : bnd (fun i => if i = m + 2 then q.2 else y i) (m + 1) = bendI a q.1 q.2 := by
            unfold bnd
            simp only [Nat.add_sub_cancel, show m ≠ m + 2 by omega, show m + 1 ≠ m + 2 by omega, if_false, if_true, e1, e2]
          rw [this]
          exact_mod_cast h3
        · rw [bnd_congr (y := y) (by simp only [show n - 1 ≠ m + 2 by omega, if_false]) (by simp only [show n ≠ m + 2 by omega, if_false]) (by simp only [show n + 1 ≠ m + 2 by omega, if_false])]
          exact hp n hn1 (by omega)
    · rintro ⟨y, h, e1, e2, hp⟩
      refine ⟨e2 ▸ h (m + 2) (by omega), y m, (reach_iff l p m _).2 ⟨y, fun i hi => h i (by omega), rfl, e1, fun n h1 h2 => hp n h1 (by omega)⟩, ?_⟩
      have := hp (m + 1) (by omega) (by omega)
      unfold bnd at this
      rw [Nat.add_sub_cancel, e1, e2] at this
      exact_mod_cast this
theorem lo_in {l : List (Int × Int)} (hok : ∀ x ∈ l, okSpan x) (i : Nat) (h : i < l.length) : InS l i (l.getD i (0, 0)).1 := by
  obtain ⟨_, h2, _⟩ := hok _ (getD_mem l i h)
  exact ⟨Int.le_refl _, h2⟩
theorem canB_iff (l : List (Int × Int)) (p : Int → Int → Bool) (hok : ∀ x ∈ l, okSpan x) : canB l p = true ↔ ∃ x, Truth l x ∧ ∀ n, 1 ≤ n → n + 1 < l.length → p n (bnd x n) = true := by
  unfold canB
  simp only [decide_eq_true_eq]
  unfold canP
  by_cases h : l.length < 3
  · exact ⟨fun _ => ⟨fun i => (l.getD i (0, 0)).1, fun i hi => lo_in hok i hi, fun n h1 h2 => by omega⟩, fun _ => .inl h⟩
  · obtain ⟨m, hm⟩ : ∃ m, l.length = m + 3 := ⟨l.length - 3, by omega⟩
    rw [hm]
    constructor
    · rintro (h' | ⟨q, hq⟩)
      · omega
      · obtain ⟨y, h1, _, _, h2⟩ := (reach_iff l p (m + 1) q).1 hq
        exact ⟨y, fun i hi => h1 i (by omega), fun n h1 h3 => h2 n h1 (by omega)⟩
    · rintro ⟨x, h1, h2⟩
      exact .inr ⟨(x (m + 1), x (m + 2)), (reach_iff l p (m + 1) _).2 ⟨x, fun i hi => h1 i (by omega), rfl, rfl, fun n h3 h4 => h2 n h3 (by omega)⟩⟩
/-! ### Computing it -/
def reachD (l : List (Int × Int)) (p : Int → Int → Bool) : Nat → List (Int × Int)
  | 0 => []
  | 1 => (spanL (l.getD 0 (0, 0))).flatMap fun a => (spanL (l.getD 1 (0, 0))).map fun b => (a, b)
  | n + 2 => (reachD l p (n + 1)).flatMap fun x => ((spanL (l.getD (n + 2) (0, 0))).filter fun c => p ((n : Int) + 1) (bendI x.1 x.2 c)).map fun c => (x.2, c)
theorem mem_reachD (l : List (Int × Int)) (p : Int → Int → Bool) : ∀ (n : Nat) (q : Int × Int), q ∈ reachD l p n ↔ Reach l p n q
  | 0, q => by simp [reachD, Reach]
  | 1, q => by
    simp only [reachD, Reach, List.mem_flatMap, List.mem_map]
    constructor
    · rintro ⟨a, ha, b, hb, rfl⟩; exact ⟨ha, hb⟩
    · rintro ⟨h1, h2⟩; exact ⟨q.1, h1, q.2, h2, rfl⟩
  | n + 2, q => by
    simp only [reachD, Reach, List.mem_flatMap, List.mem_map, List.mem_filter]
    constructor
    · rintro ⟨x, hx, c, ⟨hc, hp⟩, rfl⟩
      exact ⟨hc, x.1, (mem_reachD l p (n + 1) _).1 hx, hp⟩
    · rintro ⟨h1, a, h2, h3⟩
      exact ⟨(a, q.1), (mem_reachD l p (n + 1) _).2 h2, q.2, ⟨h1, h3⟩, rfl⟩
def canD (l : List (Int × Int)) (p : Int → Int → Bool) : Bool := decide (l.length < 3) || !(reachD l p (l.length - 1)).isEmpty
theorem canB_eq (l : List (Int × Int)) (p : Int → Int → Bool) : canB l p = canD l p := by
  unfold canB canD canP
  rw [Bool.eq_iff_iff]
  simp only [decide_eq_true_eq, Bool.or_eq_true, Bool.not_eq_true', ← mem_reachD]
  constructor
  · rintro (h | ⟨x, hx⟩)
    · exact .inl h
    · refine .inr ?_
      cases hr : reachD l p (l.length - 1) with
      | nil => rw [hr] at hx; cases hx
      | cons a r => rfl
  · rintro (h | h)
    · exact .inl h
    · cases hr : reachD l p (l.length - 1) with
      | nil => rw [hr] at h; cases h
      | cons a r => exact .inr ⟨a, by simp⟩
end Go.Fu
end

section
namespace Go.Proofs.Ytafmgmaelnpehaa.PFurrowAsks
open Go.RowKit Go.Proofs.YtafmgmaelnpehaaW.PrintWords Go.Proofs.YtafmgmaelnpehaaW.PrintLast Go.Proofs.YtafmgmaelnpehaaW.PrintMore
attribute [local go_sem] max2_int min2_int max_two min_two max_three min_three max_four min_four   -- for this text's walks alone

/-! ### furrowworkslaw04_span: function 31 -/
def furrowworkslaw04_span.f (a0 : Int) (a1 : Int) : Option (Int × Int) := some (a0, a1)
set_option maxHeartbeats 8000000 in
set_option maxRecDepth 100000 in
theorem furrowworkslaw04_span.calls (a0 : Int) (a1 : Int) (r1 : Int) (r2 : Int) (w : World) (h : furrowworkslaw04_span.f a0 a1 = some (r1, r2)) :
    Calls Try.prog 31 #[.int .i64 a0, .int .i64 a1] w fun e w' => e = .returned (.agg #[.int .i64 r1, .int .i64 r2]) ∧ Below w.heap.size w w' := by
  have hu28 := Try.underlying28
  have HB := Aside0.mk (Below.refl w.heap.size w)
  have H : (some (a0, a1)) = some (r1, r2) := h
  clear h
  simp only [Option.some.injEq, Prod.mk.injEq] at H
  obtain ⟨rfl, rfl⟩ := H
  go_enter Try.func31, Try.ntmps31
  go_wp2_with (first | ((with_reducible refine gate_dst (N := 4) rfl ?_); refine box_event ?hg (N := 4) ?hd (cs := #[.int .i64 0, .int .i64 0]) (t := 28) ?hr ?_; (case hd => rfl); (case hg => rfl); (case hr => first | (go_simp; done) | (go_simp; rfl)); intro gb130 hg w3 hbox hb; have n0_ := Aside0.mk (below_step (by repeat (first | (with_reducible first | exact HB.out | apply below_alloc | apply pw_below_drewN | apply below_drew1) | exact HB.out)) hb); have n1_ := Aside0.mk (hbox); have n2_ := Aside0.mk ((by rw [hg]; exact (below_size (by repeat (first | (with_reducible first | exact HB.out | apply below_alloc | apply pw_below_drewN | apply below_drew1) | exact HB.out))) : w.heap.size ≤ gb130)); have n3_ := Aside0.mk ((by rw [hg]; exact (below_size (by repeat (first | (with_reducible first | exact HB.out | apply below_alloc | apply pw_below_drewN | apply below_drew1) | exact HB.out))) : w.heap.size ≤ gb130)); clear HB; have HB := n0_; have BK130 := n1_; have GW130 := n2_; have GE130 := n3_; clear n0_ n1_ n2_ n3_; clear hb hbox hg; have hcz4_0 : w3.cell? ⟨gb130, 0, none⟩ = some (.int .i64 0) := (blk_cell BK130.out 0).trans rfl; have hcz4_1 : w3.cell? ⟨gb130, 1, none⟩ = some (.int .i64 0) := (blk_cell BK130.out 1).trans rfl; have hfz4_0 := blk_frozen BK130.out 0; have hfz4_1 := blk_frozen BK130.out 1))
  refine bodyPost_ret (results_cell_row rfl _ _ gb130 28 #[.int .i64 a0, .int .i64 a1] (0, 0) _ rfl (by (with_reducible repeat (first | refine blk_drewN ?_ _ | refine blk_drew ?_ | refine blk_alloc ?_ _)); refine blk_put (cs := #[.int .i64 a0, .int .i64 0]) ?_ 1 _ rfl; (with_reducible repeat (first | refine blk_drewN ?_ _ | refine blk_drew ?_ | refine blk_alloc ?_ _)); refine blk_put (cs := #[.int .i64 0, .int .i64 0]) ?_ 0 _ rfl; (with_reducible repeat (first | refine blk_drewN ?_ _ | refine blk_drew ?_ | refine blk_alloc ?_ _)); exact BK130.out) Try.underlying28 rfl (by kernel_rfl)) rfl ?_
  exact ⟨by first | rfl | (simp [errW_none, errW_some] <;> rfl) | (simp [*, errW_none, errW_some] <;> rfl), by repeat (first | (with_reducible first | exact HB.out | apply below_alloc | apply pw_below_drewN | apply below_drew1 | refine below_set ?_ GE130.out) | exact HB.out)⟩

end Go.Proofs.Ytafmgmaelnpehaa.PFurrowAsks
end

section
namespace Go.Proofs.Ytafmgmaelnpehaa.PFurrowAsks
open Go.RowKit Go.Proofs.YtafmgmaelnpehaaW.PrintWords Go.Proofs.YtafmgmaelnpehaaW.PrintLast Go.Proofs.YtafmgmaelnpehaaW.PrintMore
attribute [local go_sem] max2_int min2_int max_two min_two max_three min_three max_four min_four   -- for this text's walks alone

/-! ### furrowworkslaw04_sample: function 30 -/
def furrowworkslaw04_sample.l0 : Nat → Int → Int → List (S28) → List (S28) → List (S28) → Option ((List (S28)) × (List (S28)) × (List (S28)))
  | 0, _, _, _, _, _ => none
  | k + 1, x17, x18, x159000, x159001, x159002 => if x18 < x17 then ((furrowworkslaw04_span.f 30 30).bind fun bt159 => (if x159001.length < 8796093022208 then (furrowworkslaw04_sample.l0 k x17 (wrap64 (x18 + 1)) x159000 (x159001 ++ [(⟨bt159.1, bt159.2⟩ : S28)]) x159002) else (none))) else (some (x159000, x159001, x159002))
def furrowworkslaw04_sample.f (k : Nat)  : Option ((List (S28)) × (List (S28)) × (List (S28))) := (furrowworkslaw04_span.f 0 1).bind fun bt132 => ((furrowworkslaw04_span.f 2 3).bind fun bt134 => ((furrowworkslaw04_span.f 0 0).bind fun bt136 => ((furrowworkslaw04_span.f 1 1).bind fun bt138 => ((furrowworkslaw04_span.f 5 6).bind fun bt140 => ((some (([(⟨bt132.1, bt132.2⟩ : S28), (⟨bt134.1, bt134.2⟩ : S28), (⟨bt136.1, bt136.2⟩ : S28), (⟨bt138.1, bt138.2⟩ : S28), (⟨bt140.1, bt140.2⟩ : S28)] : List (S28)) : List (S28))).bind fun y142 => ((furrowworkslaw04_span.f 15 16).bind fun bt145 => ((furrowworkslaw04_span.f 14 18).bind fun bt147 => ((furrowworkslaw04_span.f 15 15).bind fun bt149 => ((furrowworkslaw04_span.f 12 14).bind fun bt151 => ((furrowworkslaw04_span.f 16 17).bind fun bt153 => (furrowworkslaw04_sample.l0 k (y142.length : Int) 0 y142 ([] : List (S28)) (([(⟨bt145.1, bt145.2⟩ : S28), (⟨bt147.1, bt147.2⟩ : S28), (⟨bt149.1, bt149.2⟩ : S28), (⟨bt151.1, bt151.2⟩ : S28), (⟨bt153.1, bt153.2⟩ : S28)] : List (S28))))))))))))))
theorem furrowworkslaw04_sample.mono_l : ∀ k, (∀ y0 y1 y2 y3 y4, LeO (furrowworkslaw04_sample.l0 k y0 y1 y2 y3 y4) (furrowworkslaw04_sample.l0 (k + 1) y0 y1 y2 y3 y4))
  | 0 => fun _ _ _ _ _ r h => by simp [furrowworkslaw04_sample.l0] at h
  | k + 1 => by
    have ih0 := furrowworkslaw04_sample.mono_l k
    · intro y0 y1 y2 y3 y4
      unfold furrowworkslaw04_sample.l0
      repeat' first
      | (with_reducible exact ih0 _ _ _ _ _)
      | (with_reducible exact LeO.refl _)
      | (with_reducible exact LeO.none _)
      | (with_reducible refine LeO.ite ?_ ?_)
      | (with_reducible refine LeO.bind ?_ (fun _ => ?_))
      | exact ih0 _ _ _ _ _
      | exact LeO.none _
      | refine LeO.ite ?_ ?_
      | refine LeO.bind ?_ (fun _ => ?_)
theorem furrowworkslaw04_sample.mono : ∀ k, LeO (furrowworkslaw04_sample.f k ) (furrowworkslaw04_sample.f (k + 1) ) := by
  intro  k
  have ih0 := furrowworkslaw04_sample.mono_l k
  unfold furrowworkslaw04_sample.f
  repeat' first
      | (with_reducible exact ih0 _ _ _ _ _)
      | (with_reducible exact LeO.refl _)
      | (with_reducible exact LeO.none _)
      | (with_reducible refine LeO.ite ?_ ?_)
      | (with_reducible refine LeO.bind ?_ (fun _ => ?_))
      | exact ih0 _ _ _ _ _
      | exact LeO.none _
      | refine LeO.ite ?_ ?_
      | refine LeO.bind ?_ (fun _ => ?_)
set_option maxHeartbeats 8000000 in
set_option maxRecDepth 100000 in
theorem furrowworkslaw04_sample.calls (k : Nat)  (r1 : List (S28)) (r2 : List (S28)) (r3 : List (S28)) (w : World) (h : furrowworkslaw04_sample.f k  = some (r1, r2, r3)) :
    Calls Try.prog 30 #[] w fun e w' => ∃ v0_ v1_ v2_ : Value, e = .returned (.agg #[v0_, v1_, v2_]) ∧ Kd.R k28 28 w' w.heap.size (fun k_ => some k_ ≠ (v1_ : Value).ownBlock ∧ some k_ ≠ (v2_ : Value).ownBlock) v0_ r1 ∧ Kd.R k28 28 w' w.heap.size (fun k_ => some k_ ≠ (v0_ : Value).ownBlock ∧ some k_ ≠ (v2_ : Value).ownBlock) v1_ r2 ∧ Kd.R k28 28 w' w.heap.size (fun k_ => some k_ ≠ (v0_ : Value).ownBlock ∧ some k_ ≠ (v1_ : Value).ownBlock) v2_ r3 ∧ Below w.heap.size w w' := by
  have hu24 := Try.underlying24
  have HB := Aside0.mk (Below.refl w.heap.size w)
  have H : ((furrowworkslaw04_span.f 0 1).bind fun bt132 => ((furrowworkslaw04_span.f 2 3).bind fun bt134 => ((furrowworkslaw04_span.f 0 0).bind fun bt136 => ((furrowworkslaw04_span.f 1 1).bind fun bt138 => ((furrowworkslaw04_span.f 5 6).bind fun bt140 => ((some (([(⟨bt132.1, bt132.2⟩ : S28), (⟨bt134.1, bt134.2⟩ : S28), (⟨bt136.1, bt136.2⟩ : S28), (⟨bt138.1, bt138.2⟩ : S28), (⟨bt140.1, bt140.2⟩ : S28)] : List (S28)) : List (S28))).bind fun y142 => ((furrowworkslaw04_span.f 15 16).bind fun bt145 => ((furrowworkslaw04_span.f 14 18).bind fun bt147 => ((furrowworkslaw04_span.f 15 15).bind fun bt149 => ((furrowworkslaw04_span.f 12 14).bind fun bt151 => ((furrowworkslaw04_span.f 16 17).bind fun bt153 => (furrowworkslaw04_sample.l0 k (y142.length : Int) 0 y142 ([] : List (S28)) (([(⟨bt145.1, bt145.2⟩ : S28), (⟨bt147.1, bt147.2⟩ : S28), (⟨bt149.1, bt149.2⟩ : S28), (⟨bt151.1, bt151.2⟩ : S28), (⟨bt153.1, bt153.2⟩ : S28)] : List (S28))))))))))))))) = some (r1, r2, r3) := h
  clear h
  replace H := Option.bind_eq_some_iff.mp H
  obtain ⟨⟨t132, t133⟩, A10, H⟩ := H
  replace H : ((furrowworkslaw04_span.f 2 3).bind fun bt134 => ((furrowworkslaw04_span.f 0 0).bind fun bt136 => ((furrowworkslaw04_span.f 1 1).bind fun bt138 => ((furrowworkslaw04_span.f 5 6).bind fun bt140 => ((some (([(⟨t132, t133⟩ : S28), (⟨bt134.1, bt134.2⟩ : S28), (⟨bt136.1, bt136.2⟩ : S28), (⟨bt138.1, bt138.2⟩ : S28), (⟨bt140.1, bt140.2⟩ : S28)] : List (S28)) : List (S28))).bind fun y142 => ((furrowworkslaw04_span.f 15 16).bind fun bt145 => ((furrowworkslaw04_span.f 14 18).bind fun bt147 => ((furrowworkslaw04_span.f 15 15).bind fun bt149 => ((furrowworkslaw04_span.f 12 14).bind fun bt151 => ((furrowworkslaw04_span.f 16 17).bind fun bt153 => (furrowworkslaw04_sample.l0 k (y142.length : Int) 0 y142 ([] : List (S28)) (([(⟨bt145.1, bt145.2⟩ : S28), (⟨bt147.1, bt147.2⟩ : S28), (⟨bt149.1, bt149.2⟩ : S28), (⟨bt151.1, bt151.2⟩ : S28), (⟨bt153.1, bt153.2⟩ : S28)] : List (S28)))))))))))))) = some (r1, r2, r3) := H
  have A1 := Aside0.mk A10
  clear A10
  replace H := Option.bind_eq_some_iff.mp H
  obtain ⟨⟨t134, t135⟩, A20, H⟩ := H
  replace H : ((furrowworkslaw04_span.f 0 0).bind fun bt136 => ((furrowworkslaw04_span.f 1 1).bind fun bt138 => ((furrowworkslaw04_span.f 5 6).bind fun bt140 => ((some (([(⟨t132, t133⟩ : S28), (⟨t134, t135⟩ : S28), (⟨bt136.1, bt136.2⟩ : S28), (⟨bt138.1, bt138.2⟩ : S28), (⟨bt140.1, bt140.2⟩ : S28)] : List (S28)) : List (S28))).bind fun y142 => ((furrowworkslaw04_span.f 15 16).bind fun bt145 => ((furrowworkslaw04_span.f 14 18).bind fun bt147 => ((furrowworkslaw04_span.f 15 15).bind fun bt149 => ((furrowworkslaw04_span.f 12 14).bind fun bt151 => ((furrowworkslaw04_span.f 16 17).bind fun bt153 => (furrowworkslaw04_sample.l0 k (y142.length : Int) 0 y142 ([] : List (S28)) (([(⟨bt145.1, bt145.2⟩ : S28), (⟨bt147.1, bt147.2⟩ : S28), (⟨bt149.1, bt149.2⟩ : S28), (⟨bt151.1, bt151.2⟩ : S28), (⟨bt153.1, bt153.2⟩ : S28)] : List (S28))))))))))))) = some (r1, r2, r3) := H
  have A2 := Aside0.mk A20
  clear A20
  replace H := Option.bind_eq_some_iff.mp H
  obtain ⟨⟨t136, t137⟩, A30, H⟩ := H
  replace H : ((furrowworkslaw04_span.f 1 1).bind fun bt138 => ((furrowworkslaw04_span.f 5 6).bind fun bt140 => ((some (([(⟨t132, t133⟩ : S28), (⟨t134, t135⟩ : S28), (⟨t136, t137⟩ : S28), (⟨bt138.1, bt138.2⟩ : S28), (⟨bt140.1, bt140.2⟩ : S28)] : List (S28)) : List (S28))).bind fun y142 => ((furrowworkslaw04_span.f 15 16).bind fun bt145 => ((furrowworkslaw04_span.f 14 18).bind fun bt147 => ((furrowworkslaw04_span.f 15 15).bind fun bt149 => ((furrowworkslaw04_span.f 12 14).bind fun bt151 => ((furrowworkslaw04_span.f 16 17).bind fun bt153 => (furrowworkslaw04_sample.l0 k (y142.length : Int) 0 y142 ([] : List (S28)) (([(⟨bt145.1, bt145.2⟩ : S28), (⟨bt147.1, bt147.2⟩ : S28), (⟨bt149.1, bt149.2⟩ : S28), (⟨bt151.1, bt151.2⟩ : S28), (⟨bt153.1, bt153.2⟩ : S28)] : List (S28)))))))))))) = some (r1, r2, r3) := H
  have A3 := Aside0.mk A30
  clear A30
  replace H := Option.bind_eq_some_iff.mp H
  obtain ⟨⟨t138, t139⟩, A40, H⟩ := H
  replace H : ((furrowworkslaw04_span.f 5 6).bind fun bt140 => ((some (([(⟨t132, t133⟩ : S28), (⟨t134, t135⟩ : S28), (⟨t136, t137⟩ : S28), (⟨t138, t139⟩ : S28), (⟨bt140.1, bt140.2⟩ : S28)] : List (S28)) : List (S28))).bind fun y142 => ((furrowworkslaw04_span.f 15 16).bind fun bt145 => ((furrowworkslaw04_span.f 14 18).bind fun bt147 => ((furrowworkslaw04_span.f 15 15).bind fun bt149 => ((furrowworkslaw04_span.f 12 14).bind fun bt151 => ((furrowworkslaw04_span.f 16 17).bind fun bt153 => (furrowworkslaw04_sample.l0 k (y142.length : Int) 0 y142 ([] : List (S28)) (([(⟨bt145.1, bt145.2⟩ : S28), (⟨bt147.1, bt147.2⟩ : S28), (⟨bt149.1, bt149.2⟩ : S28), (⟨bt151.1, bt151.2⟩ : S28), (⟨bt153.1, bt153.2⟩ : S28)] : List (S28))))))))))) = some (r1, r2, r3) := H
  have A4 := Aside0.mk A40
  clear A40
  replace H := Option.bind_eq_some_iff.mp H
  obtain ⟨⟨t140, t141⟩, A50, H⟩ := H
  replace H : ((some (([(⟨t132, t133⟩ : S28), (⟨t134, t135⟩ : S28), (⟨t136, t137⟩ : S28), (⟨t138, t139⟩ : S28), (⟨t140, t141⟩ : S28)] : List (S28)) : List (S28))).bind fun y142 => ((furrowworkslaw04_span.f 15 16).bind fun bt145 => ((furrowworkslaw04_span.f 14 18).bind fun bt147 => ((furrowworkslaw04_span.f 15 15).bind fun bt149 => ((furrowworkslaw04_span.f 12 14).bind fun bt151 => ((furrowworkslaw04_span.f 16 17).bind fun bt153 => (furrowworkslaw04_sample.l0 k (y142.length : Int) 0 y142 ([] : List (S28)) (([(⟨bt145.1, bt145.2⟩ : S28), (⟨bt147.1, bt147.2⟩ : S28), (⟨bt149.1, bt149.2⟩ : S28), (⟨bt151.1, bt151.2⟩ : S28), (⟨bt153.1, bt153.2⟩ : S28)] : List (S28)))))))))) = some (r1, r2, r3) := H
  have A5 := Aside0.mk A50
  clear A50
  obtain ⟨y142, hy142⟩ : ∃ y_ : List (S28), y_ = (([(⟨t132, t133⟩ : S28), (⟨t134, t135⟩ : S28), (⟨t136, t137⟩ : S28), (⟨t138, t139⟩ : S28), (⟨t140, t141⟩ : S28)] : List (S28))) := ⟨_, rfl⟩
  replace H : ((furrowworkslaw04_span.f 15 16).bind fun bt145 => ((furrowworkslaw04_span.f 14 18).bind fun bt147 => ((furrowworkslaw04_span.f 15 15).bind fun bt149 => ((furrowworkslaw04_span.f 12 14).bind fun bt151 => ((furrowworkslaw04_span.f 16 17).bind fun bt153 => (furrowworkslaw04_sample.l0 k (y142.length : Int) 0 y142 ([] : List (S28)) (([(⟨bt145.1, bt145.2⟩ : S28), (⟨bt147.1, bt147.2⟩ : S28), (⟨bt149.1, bt149.2⟩ : S28), (⟨bt151.1, bt151.2⟩ : S28), (⟨bt153.1, bt153.2⟩ : S28)] : List (S28))))))))) = some (r1, r2, r3) := by first | (rw [hy142]; with_reducible exact H) | (have H2_ := (Option.bind_some _ _).symm.trans H; rw [hy142]; with_reducible exact H2_) | (have H2_ := (Option.bind_some _ _).symm.trans H; with_reducible exact H2_) | with_reducible exact H | (rw [hy142]; exact H) | exact H
  have Ny142 := Aside0.mk hy142
  clear hy142
  replace H := Option.bind_eq_some_iff.mp H
  obtain ⟨⟨t145, t146⟩, A60, H⟩ := H
  replace H : ((furrowworkslaw04_span.f 14 18).bind fun bt147 => ((furrowworkslaw04_span.f 15 15).bind fun bt149 => ((furrowworkslaw04_span.f 12 14).bind fun bt151 => ((furrowworkslaw04_span.f 16 17).bind fun bt153 => (furrowworkslaw04_sample.l0 k (y142.length : Int) 0 y142 ([] : List (S28)) (([(⟨t145, t146⟩ : S28), (⟨bt147.1, bt147.2⟩ : S28), (⟨bt149.1, bt149.2⟩ : S28), (⟨bt151.1, bt151.2⟩ : S28), (⟨bt153.1, bt153.2⟩ : S28)] : List (S28)))))))) = some (r1, r2, r3) := H
  have A6 := Aside0.mk A60
  clear A60
  replace H := Option.bind_eq_some_iff.mp H
  obtain ⟨⟨t147, t148⟩, A70, H⟩ := H
  replace H : ((furrowworkslaw04_span.f 15 15).bind fun bt149 => ((furrowworkslaw04_span.f 12 14).bind fun bt151 => ((furrowworkslaw04_span.f 16 17).bind fun bt153 => (furrowworkslaw04_sample.l0 k (y142.length : Int) 0 y142 ([] : List (S28)) (([(⟨t145, t146⟩ : S28), (⟨t147, t148⟩ : S28), (⟨bt149.1, bt149.2⟩ : S28), (⟨bt151.1, bt151.2⟩ : S28), (⟨bt153.1, bt153.2⟩ : S28)] : List (S28))))))) = some (r1, r2, r3) := H
  have A7 := Aside0.mk A70
  clear A70
  replace H := Option.bind_eq_some_iff.mp H
  obtain ⟨⟨t149, t150⟩, A80, H⟩ := H
  replace H : ((furrowworkslaw04_span.f 12 14).bind fun bt151 => ((furrowworkslaw04_span.f 16 17).bind fun bt153 => (furrowworkslaw04_sample.l0 k (y142.length : Int) 0 y142 ([] : List (S28)) (([(⟨t145, t146⟩ : S28), (⟨t147, t148⟩ : S28), (⟨t149, t150⟩ : S28), (⟨bt151.1, bt151.2⟩ : S28), (⟨bt153.1, bt153.2⟩ : S28)] : List (S28)))))) = some (r1, r2, r3) := H
  have A8 := Aside0.mk A80
  clear A80
  replace H := Option.bind_eq_some_iff.mp H
  obtain ⟨⟨t151, t152⟩, A90, H⟩ := H
  replace H : ((furrowworkslaw04_span.f 16 17).bind fun bt153 => (furrowworkslaw04_sample.l0 k (y142.length : Int) 0 y142 ([] : List (S28)) (([(⟨t145, t146⟩ : S28), (⟨t147, t148⟩ : S28), (⟨t149, t150⟩ : S28), (⟨t151, t152⟩ : S28), (⟨bt153.1, bt153.2⟩ : S28)] : List (S28))))) = some (r1, r2, r3) := H
  have A9 := Aside0.mk A90
  clear A90
  replace H := Option.bind_eq_some_iff.mp H
  obtain ⟨⟨t153, t154⟩, A100, H⟩ := H
  replace H : (furrowworkslaw04_sample.l0 k (y142.length : Int) 0 y142 ([] : List (S28)) (([(⟨t145, t146⟩ : S28), (⟨t147, t148⟩ : S28), (⟨t149, t150⟩ : S28), (⟨t151, t152⟩ : S28), (⟨t153, t154⟩ : S28)] : List (S28)))) = some (r1, r2, r3) := H
  have A10 := Aside0.mk A100
  clear A100
  obtain ⟨y155, hy155⟩ : ∃ y_ : List (S28), y_ = (([(⟨t145, t146⟩ : S28), (⟨t147, t148⟩ : S28), (⟨t149, t150⟩ : S28), (⟨t151, t152⟩ : S28), (⟨t153, t154⟩ : S28)] : List (S28))) := ⟨_, rfl⟩
  replace H : (furrowworkslaw04_sample.l0 k (y142.length : Int) 0 y142 ([] : List (S28)) y155) = some (r1, r2, r3) := by first | (rw [hy155]; with_reducible exact H) | (have H2_ := (Option.bind_some _ _).symm.trans H; rw [hy155]; with_reducible exact H2_) | (have H2_ := (Option.bind_some _ _).symm.trans H; with_reducible exact H2_) | with_reducible exact H | (rw [hy155]; exact H) | exact H
  have Ny155 := Aside0.mk hy155
  clear hy155
  have H' := Aside0.mk H
  clear H
  go_enter Try.func30, Try.ntmps30
  go_wp2_with (first | ((with_reducible refine gate_dst (N := 0) rfl ?_); refine box_event ?hg (N := 0) ?hd (cs := #[.slice none 0 0, .slice none 0 0, .slice none 0 0]) (t := 24) ?hr ?_; (case hd => rfl); (case hg => rfl); (case hr => first | (go_simp; done) | (go_simp; rfl)); intro gb131 hg w11 hbox hb; have n0_ := Aside0.mk (below_step (by repeat (first | (with_reducible first | exact HB.out | apply below_alloc | apply pw_below_drewN | apply below_drew1) | exact HB.out)) hb); have n1_ := Aside0.mk (hbox); have n2_ := Aside0.mk ((by rw [hg]; exact (below_size (by repeat (first | (with_reducible first | exact HB.out | apply below_alloc | apply pw_below_drewN | apply below_drew1) | exact HB.out))) : w.heap.size ≤ gb131)); have n3_ := Aside0.mk ((by rw [hg]; exact (below_size (by repeat (first | (with_reducible first | exact HB.out | apply below_alloc | apply pw_below_drewN | apply below_drew1) | exact HB.out))) : w.heap.size ≤ gb131)); clear HB; have HB := n0_; have BK131 := n1_; have GW131 := n2_; have GE131 := n3_; clear n0_ n1_ n2_ n3_; clear hb hbox hg) | ((with_reducible refine gate_callee (f := 31) rfl ?_); refine goesL_ (some 2) rfl rfl Try.func31 (by kernel_rfl) rfl #[.int .i64 0, .int .i64 1] rfl (by (try simp only [List.map_toArray, List.map_cons, List.map_nil]); first | done | rfl | (simp only [List.length_drop, List.length_take]; rfl)) ?_; (with_reducible refine (furrowworkslaw04_span.calls 0 1 t132 t133 _ A1.out).mono ?_); rintro e w12 ⟨rfl, hb⟩; refine ⟨_, rfl, ?_⟩; have n0_ := Aside0.mk (blk_below (g := gb131) (o := .cells #[.slice none 0 0, .slice none 0 0, .slice none 0 0] 24 (0, 0)) (by (with_reducible repeat (first | refine blk_drewN ?_ _ | refine blk_drew ?_ | refine blk_alloc ?_ _)); exact BK131.out) hb); have n1_ := Aside0.mk (below_step (by repeat (first | (with_reducible first | exact HB.out | apply below_alloc | apply pw_below_drewN | apply below_drew1 | refine below_set ?_ GE131.out) | exact HB.out)) hb); clear BK131; clear HB; have BK131 := n0_; have HB := n1_; clear n0_ n1_; (try clear hb); (try clear hb2); (try clear hk); (try clear hi)) | ((with_reducible refine gate_callee (f := 31) rfl ?_); refine goesL_ (some 3) rfl rfl Try.func31 (by kernel_rfl) rfl #[.int .i64 2, .int .i64 3] rfl (by (try simp only [List.map_toArray, List.map_cons, List.map_nil]); first | done | rfl | (simp only [List.length_drop, List.length_take]; rfl)) ?_; (with_reducible refine (furrowworkslaw04_span.calls 2 3 t134 t135 _ A2.out).mono ?_); rintro e w13 ⟨rfl, hb⟩; refine ⟨_, rfl, ?_⟩; have n0_ := Aside0.mk (blk_below (g := gb131) (o := .cells #[.slice none 0 0, .slice none 0 0, .slice none 0 0] 24 (0, 0)) (by (with_reducible repeat (first | refine blk_drewN ?_ _ | refine blk_drew ?_ | refine blk_alloc ?_ _)); exact BK131.out) hb); have n1_ := Aside0.mk (below_step (by repeat (first | (with_reducible first | exact HB.out | apply below_alloc | apply pw_below_drewN | apply below_drew1 | refine below_set ?_ GE131.out) | exact HB.out)) hb); clear BK131; clear HB; have BK131 := n0_; have HB := n1_; clear n0_ n1_; (try clear hb); (try clear hb2); (try clear hk); (try clear hi)) | ((with_reducible refine gate_callee (f := 31) rfl ?_); refine goesL_ (some 4) rfl rfl Try.func31 (by kernel_rfl) rfl #[.int .i64 0, .int .i64 0] rfl (by (try simp only [List.map_toArray, List.map_cons, List.map_nil]); first | done | rfl | (simp only [List.length_drop, List.length_take]; rfl)) ?_; (with_reducible refine (furrowworkslaw04_span.calls 0 0 t136 t137 _ A3.out).mono ?_); rintro e w14 ⟨rfl, hb⟩; refine ⟨_, rfl, ?_⟩; have n0_ := Aside0.mk (blk_below (g := gb131) (o := .cells #[.slice none 0 0, .slice none 0 0, .slice none 0 0] 24 (0, 0)) (by (with_reducible repeat (first | refine blk_drewN ?_ _ | refine blk_drew ?_ | refine blk_alloc ?_ _)); exact BK131.out) hb); have n1_ := Aside0.mk (below_step (by repeat (first | (with_reducible first | exact HB.out | apply below_alloc | apply pw_below_drewN | apply below_drew1 | refine below_set ?_ GE131.out) | exact HB.out)) hb); clear BK131; clear HB; have BK131 := n0_; have HB := n1_; clear n0_ n1_; (try clear hb); (try clear hb2); (try clear hk); (try clear hi)) | ((with_reducible refine gate_callee (f := 31) rfl ?_); refine goesL_ (some 5) rfl rfl Try.func31 (by kernel_rfl) rfl #[.int .i64 1, .int .i64 1] rfl (by (try simp only [List.map_toArray, List.map_cons, List.map_nil]); first | done | rfl | (simp only [List.length_drop, List.length_take]; rfl)) ?_; (with_reducible refine (furrowworkslaw04_span.calls 1 1 t138 t139 _ A4.out).mono ?_); rintro e w15 ⟨rfl, hb⟩; refine ⟨_, rfl, ?_⟩; have n0_ := Aside0.mk (blk_below (g := gb131) (o := .cells #[.slice none 0 0, .slice none 0 0, .slice none 0 0] 24 (0, 0)) (by (with_reducible repeat (first | refine blk_drewN ?_ _ | refine blk_drew ?_ | refine blk_alloc ?_ _)); exact BK131.out) hb); have n1_ := Aside0.mk (below_step (by repeat (first | (with_reducible first | exact HB.out | apply below_alloc | apply pw_below_drewN | apply below_drew1 | refine below_set ?_ GE131.out) | exact HB.out)) hb); clear BK131; clear HB; have BK131 := n0_; have HB := n1_; clear n0_ n1_; (try clear hb); (try clear hb2); (try clear hk); (try clear hi)) | ((with_reducible refine gate_callee (f := 31) rfl ?_); refine goesL_ (some 6) rfl rfl Try.func31 (by kernel_rfl) rfl #[.int .i64 5, .int .i64 6] rfl (by (try simp only [List.map_toArray, List.map_cons, List.map_nil]); first | done | rfl | (simp only [List.length_drop, List.length_take]; rfl)) ?_; (with_reducible refine (furrowworkslaw04_span.calls 5 6 t140 t141 _ A5.out).mono ?_); rintro e w16 ⟨rfl, hb⟩; refine ⟨_, rfl, ?_⟩; have n0_ := Aside0.mk (blk_below (g := gb131) (o := .cells #[.slice none 0 0, .slice none 0 0, .slice none 0 0] 24 (0, 0)) (by (with_reducible repeat (first | refine blk_drewN ?_ _ | refine blk_drew ?_ | refine blk_alloc ?_ _)); exact BK131.out) hb); have n1_ := Aside0.mk (below_step (by repeat (first | (with_reducible first | exact HB.out | apply below_alloc | apply pw_below_drewN | apply below_drew1 | refine below_set ?_ GE131.out) | exact HB.out)) hb); clear BK131; clear HB; have BK131 := n0_; have HB := n1_; clear n0_ n1_; (try clear hb); (try clear hb2); (try clear hk); (try clear hi)) | ((with_reducible refine gate_dst (N := 7) rfl ?_); refine Kd.R_lit k28 _ 28 ?hg (N := 7) ?hd (xs := ([(⟨t132, t133⟩ : S28), (⟨t134, t135⟩ : S28), (⟨t136, t137⟩ : S28), (⟨t138, t139⟩ : S28), (⟨t140, t141⟩ : S28)] : List (S28))) (inner := [.int .i64 t132, .int .i64 t133, .int .i64 t134, .int .i64 t135, .int .i64 t136, .int .i64 t137, .int .i64 t138, .int .i64 t139, .int .i64 t140, .int .i64 t141]) (ok := fun _ => True) (okp := fun _ => True) ?hr ?hp (fun _ hk => hk) trivial (Below.refl _ _) (Nat.le_refl _) (by simp) ?_; (case hd => rfl); (case hg => rfl); (case hr => first | (go_simp; done) | (go_simp; rfl)); (case hp => exact (Reps.c2 (show Kd.M k28 _ _ _ (⟨t132, t133⟩ : S28) [.int .i64 t132, .int .i64 t133] from (k28_mkM _ _ _ (⟨t132, t133⟩ : S28) )) (Reps.c2 (show Kd.M k28 _ _ _ (⟨t134, t135⟩ : S28) [.int .i64 t134, .int .i64 t135] from (k28_mkM _ _ _ (⟨t134, t135⟩ : S28) )) (Reps.c2 (show Kd.M k28 _ _ _ (⟨t136, t137⟩ : S28) [.int .i64 t136, .int .i64 t137] from (k28_mkM _ _ _ (⟨t136, t137⟩ : S28) )) (Reps.c2 (show Kd.M k28 _ _ _ (⟨t138, t139⟩ : S28) [.int .i64 t138, .int .i64 t139] from (k28_mkM _ _ _ (⟨t138, t139⟩ : S28) )) (Reps.c2 (show Kd.M k28 _ _ _ (⟨t140, t141⟩ : S28) [.int .i64 t140, .int .i64 t141] from (k28_mkM _ _ _ (⟨t140, t141⟩ : S28) )) (Reps.none _ _))))))); intro v143 w17 ho18 hb hg_ hnew_; clear hg_ hnew_; (first | rw [← Ny142.out] at ho18 | (simp only [Int.reduceToNat] at ho18; rw [← Ny142.out] at ho18)); have n0_ := Aside0.mk (Kd.R_lower ho18 (below_size (by repeat (first | (with_reducible first | exact HB.out | apply below_alloc | apply pw_below_drewN | apply below_drew1 | refine below_set ?_ GE131.out) | exact HB.out)))); have n1_ := Aside0.mk (blk_below (g := gb131) (o := .cells #[.slice none 0 0, .slice none 0 0, .slice none 0 0] 24 (0, 0)) (by (with_reducible repeat (first | refine blk_drewN ?_ _ | refine blk_drew ?_ | refine blk_alloc ?_ _)); exact BK131.out) hb); have n2_ := Aside0.mk (below_step (by repeat (first | (with_reducible first | exact HB.out | apply below_alloc | apply pw_below_drewN | apply below_drew1 | refine below_set ?_ GE131.out) | exact HB.out)) hb); clear BK131; clear HB; have HO144 := n0_; have BK131 := n1_; have HB := n2_; clear n0_ n1_ n2_; clear hb ho18) | ((with_reducible refine gate_callee (f := 31) rfl ?_); refine goesL_ (some 8) rfl rfl Try.func31 (by kernel_rfl) rfl #[.int .i64 15, .int .i64 16] rfl (by (try simp only [List.map_toArray, List.map_cons, List.map_nil]); first | done | rfl | (simp only [List.length_drop, List.length_take]; rfl)) ?_; (with_reducible refine (furrowworkslaw04_span.calls 15 16 t145 t146 _ A6.out).mono ?_); rintro e w19 ⟨rfl, hb⟩; refine ⟨_, rfl, ?_⟩; have n0_ := Aside0.mk (Kd.R_below (by (with_reducible repeat (first | apply Kd.R_alloc | apply Kd.R_drewN | apply Kd.R_drew)); exact HO144.out) hb); have n1_ := Aside0.mk (blk_below (g := gb131) (o := .cells #[.slice none 0 0, .slice none 0 0, .slice none 0 0] 24 (0, 0)) (by (with_reducible repeat (first | refine blk_drewN ?_ _ | refine blk_drew ?_ | refine blk_alloc ?_ _)); exact BK131.out) hb); have n2_ := Aside0.mk (below_step (by repeat (first | (with_reducible first | exact HB.out | apply below_alloc | apply pw_below_drewN | apply below_drew1 | refine below_set ?_ GE131.out) | exact HB.out)) hb); clear HO144; clear BK131; clear HB; have HO144 := n0_; have BK131 := n1_; have HB := n2_; clear n0_ n1_ n2_; (try clear hb); (try clear hb2); (try clear hk); (try clear hi)) | ((with_reducible refine gate_callee (f := 31) rfl ?_); refine goesL_ (some 9) rfl rfl Try.func31 (by kernel_rfl) rfl #[.int .i64 14, .int .i64 18] rfl (by (try simp only [List.map_toArray, List.map_cons, List.map_nil]); first | done | rfl | (simp only [List.length_drop, List.length_take]; rfl)) ?_; (with_reducible refine (furrowworkslaw04_span.calls 14 18 t147 t148 _ A7.out).mono ?_); rintro e w20 ⟨rfl, hb⟩; refine ⟨_, rfl, ?_⟩; have n0_ := Aside0.mk (Kd.R_below (by (with_reducible repeat (first | apply Kd.R_alloc | apply Kd.R_drewN | apply Kd.R_drew)); exact HO144.out) hb); have n1_ := Aside0.mk (blk_below (g := gb131) (o := .cells #[.slice none 0 0, .slice none 0 0, .slice none 0 0] 24 (0, 0)) (by (with_reducible repeat (first | refine blk_drewN ?_ _ | refine blk_drew ?_ | refine blk_alloc ?_ _)); exact BK131.out) hb); have n2_ := Aside0.mk (below_step (by repeat (first | (with_reducible first | exact HB.out | apply below_alloc | apply pw_below_drewN | apply below_drew1 | refine below_set ?_ GE131.out) | exact HB.out)) hb); clear HO144; clear BK131; clear HB; have HO144 := n0_; have BK131 := n1_; have HB := n2_; clear n0_ n1_ n2_; (try clear hb); (try clear hb2); (try clear hk); (try clear hi)) | ((with_reducible refine gate_callee (f := 31) rfl ?_); refine goesL_ (some 10) rfl rfl Try.func31 (by kernel_rfl) rfl #[.int .i64 15, .int .i64 15] rfl (by (try simp only [List.map_toArray, List.map_cons, List.map_nil]); first | done | rfl | (simp only [List.length_drop, List.length_take]; rfl)) ?_; (with_reducible refine (furrowworkslaw04_span.calls 15 15 t149 t150 _ A8.out).mono ?_); rintro e w21 ⟨rfl, hb⟩; refine ⟨_, rfl, ?_⟩; have n0_ := Aside0.mk (Kd.R_below (by (with_reducible repeat (first | apply Kd.R_alloc | apply Kd.R_drewN | apply Kd.R_drew)); exact HO144.out) hb); have n1_ := Aside0.mk (blk_below (g := gb131) (o := .cells #[.slice none 0 0, .slice none 0 0, .slice none 0 0] 24 (0, 0)) (by (with_reducible repeat (first | refine blk_drewN ?_ _ | refine blk_drew ?_ | refine blk_alloc ?_ _)); exact BK131.out) hb); have n2_ := Aside0.mk (below_step (by repeat (first | (with_reducible first | exact HB.out | apply below_alloc | apply pw_below_drewN | apply below_drew1 | refine below_set ?_ GE131.out) | exact HB.out)) hb); clear HO144; clear BK131; clear HB; have HO144 := n0_; have BK131 := n1_; have HB := n2_; clear n0_ n1_ n2_; (try clear hb); (try clear hb2); (try clear hk); (try clear hi)) | ((with_reducible refine gate_callee (f := 31) rfl ?_); refine goesL_ (some 11) rfl rfl Try.func31 (by kernel_rfl) rfl #[.int .i64 12, .int .i64 14] rfl (by (try simp only [List.map_toArray, List.map_cons, List.map_nil]); first | done | rfl | (simp only [List.length_drop, List.length_take]; rfl)) ?_; (with_reducible refine (furrowworkslaw04_span.calls 12 14 t151 t152 _ A9.out).mono ?_); rintro e w22 ⟨rfl, hb⟩; refine ⟨_, rfl, ?_⟩; have n0_ := Aside0.mk (Kd.R_below (by (with_reducible repeat (first | apply Kd.R_alloc | apply Kd.R_drewN | apply Kd.R_drew)); exact HO144.out) hb); have n1_ := Aside0.mk (blk_below (g := gb131) (o := .cells #[.slice none 0 0, .slice none 0 0, .slice none 0 0] 24 (0, 0)) (by (with_reducible repeat (first | refine blk_drewN ?_ _ | refine blk_drew ?_ | refine blk_alloc ?_ _)); exact BK131.out) hb); have n2_ := Aside0.mk (below_step (by repeat (first | (with_reducible first | exact HB.out | apply below_alloc | apply pw_below_drewN | apply below_drew1 | refine below_set ?_ GE131.out) | exact HB.out)) hb); clear HO144; clear BK131; clear HB; have HO144 := n0_; have BK131 := n1_; have HB := n2_; clear n0_ n1_ n2_; (try clear hb); (try clear hb2); (try clear hk); (try clear hi)) | ((with_reducible refine gate_callee (f := 31) rfl ?_); refine goesL_ (some 12) rfl rfl Try.func31 (by kernel_rfl) rfl #[.int .i64 16, .int .i64 17] rfl (by (try simp only [List.map_toArray, List.map_cons, List.map_nil]); first | done | rfl | (simp only [List.length_drop, List.length_take]; rfl)) ?_; (with_reducible refine (furrowworkslaw04_span.calls 16 17 t153 t154 _ A10.out).mono ?_); rintro e w23 ⟨rfl, hb⟩; refine ⟨_, rfl, ?_⟩; have n0_ := Aside0.mk (Kd.R_below (by (with_reducible repeat (first | apply Kd.R_alloc | apply Kd.R_drewN | apply Kd.R_drew)); exact HO144.out) hb); have n1_ := Aside0.mk (blk_below (g := gb131) (o := .cells #[.slice none 0 0, .slice none 0 0, .slice none 0 0] 24 (0, 0)) (by (with_reducible repeat (first | refine blk_drewN ?_ _ | refine blk_drew ?_ | refine blk_alloc ?_ _)); exact BK131.out) hb); have n2_ := Aside0.mk (below_step (by repeat (first | (with_reducible first | exact HB.out | apply below_alloc | apply pw_below_drewN | apply below_drew1 | refine below_set ?_ GE131.out) | exact HB.out)) hb); clear HO144; clear BK131; clear HB; have HO144 := n0_; have BK131 := n1_; have HB := n2_; clear n0_ n1_ n2_; (try clear hb); (try clear hb2); (try clear hk); (try clear hi)) | ((with_reducible refine gate_dst (N := 13) rfl ?_); refine Kd.R_lit k28 _ 28 ?hg (N := 13) ?hd (xs := ([(⟨t145, t146⟩ : S28), (⟨t147, t148⟩ : S28), (⟨t149, t150⟩ : S28), (⟨t151, t152⟩ : S28), (⟨t153, t154⟩ : S28)] : List (S28))) (inner := [.int .i64 t145, .int .i64 t146, .int .i64 t147, .int .i64 t148, .int .i64 t149, .int .i64 t150, .int .i64 t151, .int .i64 t152, .int .i64 t153, .int .i64 t154]) (ok := fun _ => True) (okp := fun _ => True) ?hr ?hp (fun _ hk => hk) trivial (Below.refl _ _) (Nat.le_refl _) (by simp) ?_; (case hd => rfl); (case hg => rfl); (case hr => first | (go_simp; done) | (go_simp; rfl)); (case hp => exact (Reps.c2 (show Kd.M k28 _ _ _ (⟨t145, t146⟩ : S28) [.int .i64 t145, .int .i64 t146] from (k28_mkM _ _ _ (⟨t145, t146⟩ : S28) )) (Reps.c2 (show Kd.M k28 _ _ _ (⟨t147, t148⟩ : S28) [.int .i64 t147, .int .i64 t148] from (k28_mkM _ _ _ (⟨t147, t148⟩ : S28) )) (Reps.c2 (show Kd.M k28 _ _ _ (⟨t149, t150⟩ : S28) [.int .i64 t149, .int .i64 t150] from (k28_mkM _ _ _ (⟨t149, t150⟩ : S28) )) (Reps.c2 (show Kd.M k28 _ _ _ (⟨t151, t152⟩ : S28) [.int .i64 t151, .int .i64 t152] from (k28_mkM _ _ _ (⟨t151, t152⟩ : S28) )) (Reps.c2 (show Kd.M k28 _ _ _ (⟨t153, t154⟩ : S28) [.int .i64 t153, .int .i64 t154] from (k28_mkM _ _ _ (⟨t153, t154⟩ : S28) )) (Reps.none _ _))))))); intro v156 w24 ho25 hb hg_ hnew_; clear hg_ hnew_; (first | rw [← Ny155.out] at ho25 | (simp only [Int.reduceToNat] at ho25; rw [← Ny155.out] at ho25)); have n0_ := Aside0.mk (Kd.R_elder' (by (with_reducible repeat (first | apply Kd.R_alloc | apply Kd.R_drewN | apply Kd.R_drew)); exact HO144.out) (Kd.R_base ho25) hb); have n1_ := Aside0.mk (Kd.R_lower (Kd.R_new' ho25 (Kd.R_lt (by (with_reducible repeat (first | apply Kd.R_alloc | apply Kd.R_drewN | apply Kd.R_drew)); exact HO144.out))) (below_size (by repeat (first | (with_reducible first | exact HB.out | apply below_alloc | apply pw_below_drewN | apply below_drew1 | refine below_set ?_ GE131.out) | exact HB.out)))); have n2_ := Aside0.mk (blk_below (g := gb131) (o := .cells #[.slice none 0 0, .slice none 0 0, .slice none 0 0] 24 (0, 0)) (by (with_reducible repeat (first | refine blk_drewN ?_ _ | refine blk_drew ?_ | refine blk_alloc ?_ _)); exact BK131.out) hb); have n3_ := Aside0.mk (below_step (by repeat (first | (with_reducible first | exact HB.out | apply below_alloc | apply pw_below_drewN | apply below_drew1 | refine below_set ?_ GE131.out) | exact HB.out)) hb); clear HO144; clear BK131; clear HB; have HO144 := n0_; have HO157 := n1_; have BK131 := n2_; have HB := n3_; clear n0_ n1_ n2_ n3_; clear hb ho25; obtain ⟨Ao26, co26, eo26⟩ := Kd.R_slice HO157.out; subst eo26; obtain ⟨Ao27, co27, eo27⟩ := Kd.R_slice HO144.out; subst eo27) | ((with_reducible refine gate_dst (N := 1) rfl ?_); refine box_event ?hg (N := 1) ?hd (cs := #[.slice none 0 0, .slice none 0 0, .slice none 0 0]) (t := 24) ?hr ?_; (case hd => rfl); (case hg => rfl); (case hr => first | (go_simp; done) | (go_simp; rfl)); intro gb158 hg w28 hbox hb; have n0_ := Aside0.mk (Kd.R_below (by (with_reducible repeat (first | apply Kd.R_alloc | apply Kd.R_drewN | apply Kd.R_drew)); exact HO144.out) hb); have n1_ := Aside0.mk (Kd.R_below (by (with_reducible repeat (first | apply Kd.R_alloc | apply Kd.R_drewN | apply Kd.R_drew)); exact HO157.out) hb); have n2_ := Aside0.mk (blk_below (g := gb131) (o := .cells #[.slice none 0 0, .slice none 0 0, .slice none 0 0] 24 (0, 0)) (by (with_reducible repeat (first | refine blk_drewN ?_ _ | refine blk_drew ?_ | refine blk_alloc ?_ _)); exact BK131.out) hb); have n3_ := Aside0.mk (below_step (by repeat (first | (with_reducible first | exact HB.out | apply below_alloc | apply pw_below_drewN | apply below_drew1 | refine below_set ?_ GE131.out) | exact HB.out)) hb); have n4_ := Aside0.mk (hbox); have n5_ := Aside0.mk ((by rw [hg]; exact (below_size (by repeat (first | (with_reducible first | exact HB.out | apply below_alloc | apply pw_below_drewN | apply below_drew1 | refine below_set ?_ GE131.out) | exact HB.out))) : w.heap.size ≤ gb158)); have n6_ := Aside0.mk ((by rw [hg]; exact (below_size (by repeat (first | (with_reducible first | exact HB.out | apply below_alloc | apply pw_below_drewN | apply below_drew1 | refine below_set ?_ GE131.out) | exact HB.out))) : w.heap.size ≤ gb158)); have n7_ := Aside0.mk ((by rw [hg]; exact Nat.ne_of_lt (blk_lt (g := gb131) (o := .cells #[.slice none 0 0, .slice none 0 0, .slice none 0 0] 24 (0, 0)) (by (with_reducible repeat (first | refine blk_drewN ?_ _ | refine blk_drew ?_ | refine blk_alloc ?_ _)); exact BK131.out)) : gb131 ≠ gb158)); have n8_ := Aside0.mk ((by rw [hg]; exact Nat.ne_of_gt (blk_lt (g := gb131) (o := .cells #[.slice none 0 0, .slice none 0 0, .slice none 0 0] 24 (0, 0)) (by (with_reducible repeat (first | refine blk_drewN ?_ _ | refine blk_drew ?_ | refine blk_alloc ?_ _)); exact BK131.out)) : gb158 ≠ gb131)); clear HO144; clear HO157; clear BK131; clear HB; have HO144 := n0_; have HO157 := n1_; have BK131 := n2_; have HB := n3_; have BK158 := n4_; have GW158 := n5_; have GE158 := n6_; have NB131_158 := n7_; have NB158_131 := n8_; clear n0_ n1_ n2_ n3_ n4_ n5_ n6_ n7_ n8_; clear hb hbox hg; have hnb29 := NB158_131.out; have hnc29 := NB131_158.out; have hcz30_0 : w28.cell? ⟨gb158, 0, none⟩ = some (.slice none 0 0) := (blk_cell BK158.out 0).trans rfl; have hcz30_1 : w28.cell? ⟨gb158, 1, none⟩ = some (.slice none 0 0) := (blk_cell BK158.out 1).trans rfl; have hcz30_2 : w28.cell? ⟨gb158, 2, none⟩ = some (.slice none 0 0) := (blk_cell BK158.out 2).trans rfl; have hfz30_0 := blk_frozen BK158.out 0; have hfz30_1 := blk_frozen BK158.out 1; have hfz30_2 := blk_frozen BK158.out 2))
  go_loopg [18] k (fun kq v18 w' => ∃ (x18_1 : Int) (x159001_1 : List (S28)) (u159001 : Value), v18 = .int .i64 x18_1 ∧ Aside0 (furrowworkslaw04_sample.l0 kq (y142.length : Int) x18_1 y142 x159001_1 y155 = some (r1, r2, r3)) ∧ Aside0 (kq ≤ k) ∧ Aside0 (Kd.R k28 28 w' w.heap.size (fun k_ => some k_ ≠ (u159001 : Value).ownBlock ∧ some k_ ≠ ((.slice Ao26 y155.length co26) : Value).ownBlock) (.slice Ao27 y142.length co27) y142) ∧ Aside0 (Kd.R k28 28 w' w.heap.size (fun k_ => some k_ ≠ ((.slice Ao27 y142.length co27) : Value).ownBlock ∧ some k_ ≠ ((.slice Ao26 y155.length co26) : Value).ownBlock) u159001 x159001_1) ∧ Aside0 (Kd.R k28 28 w' w.heap.size (fun k_ => some k_ ≠ ((.slice Ao27 y142.length co27) : Value).ownBlock ∧ some k_ ≠ (u159001 : Value).ownBlock) (.slice Ao26 y155.length co26) y155) ∧ Aside0 (w'.heap[gb131]? = some (.cells #[(.slice none 0 0), (.slice none 0 0), (.slice none 0 0)] 24 (0, 0))) ∧ Aside0 (w'.heap[gb158]? = some (.cells #[(.slice Ao27 y142.length co27), u159001, (.slice Ao26 y155.length co26)] 24 (0, 0))) ∧ Aside0 (Below w.heap.size w w'))
  case atStart => exact ⟨(0), (([] : List (S28))), (.slice none 0 0), (by first | rfl | (simp; done) | (simp [*]; done)), H', ⟨Nat.le_refl _⟩, ⟨by (with_reducible repeat (first | apply Kd.R_alloc | apply Kd.R_drewN | apply Kd.R_drew)); exact Kd.R_mono (Kd.R_far (p := ⟨gb158, 2, none⟩) (Kd.R_far (p := ⟨gb158, 1, none⟩) (Kd.R_far (p := ⟨gb158, 0, none⟩) (Kd.R_types HO144.out BK158.out (by decide)) (fun _ hk => hk.2) (.slice Ao27 y142.length co27)) (fun _ hk => hk.2) (.slice none 0 0)) (fun _ hk => hk.2) (.slice Ao26 y155.length co26)) (fun _ hk => ⟨(by simp [Value.ownBlock]), hk.1.2⟩)⟩, ⟨by first | exact Kd.R_nil _ _ _ _ _ | exact Kd.N_nil _ _ _ _ _ | exact Kd.V_nil _ _ _ _ _ | exact Kd.Q_nil _ _ _ _ _ | exact Kd.S_nil _ _ _ _ _⟩, ⟨by (with_reducible repeat (first | apply Kd.R_alloc | apply Kd.R_drewN | apply Kd.R_drew)); exact Kd.R_mono (Kd.R_far (p := ⟨gb158, 2, none⟩) (Kd.R_far (p := ⟨gb158, 1, none⟩) (Kd.R_far (p := ⟨gb158, 0, none⟩) (Kd.R_types HO157.out BK158.out (by decide)) (fun _ hk => hk.2) (.slice Ao27 y142.length co27)) (fun _ hk => hk.2) (.slice none 0 0)) (fun _ hk => hk.2) (.slice Ao26 y155.length co26)) (fun _ hk => ⟨hk.1.2, (by simp [Value.ownBlock])⟩)⟩, ⟨by (with_reducible repeat (first | refine blk_drewN ?_ _ | refine blk_drew ?_ | refine blk_alloc ?_ _)); refine blk_far ?_ NB131_158.out _; (with_reducible repeat (first | refine blk_drewN ?_ _ | refine blk_drew ?_ | refine blk_alloc ?_ _)); refine blk_far ?_ NB131_158.out _; (with_reducible repeat (first | refine blk_drewN ?_ _ | refine blk_drew ?_ | refine blk_alloc ?_ _)); refine blk_far ?_ NB131_158.out _; (with_reducible repeat (first | refine blk_drewN ?_ _ | refine blk_drew ?_ | refine blk_alloc ?_ _)); exact BK131.out⟩, ⟨by (with_reducible repeat (first | refine blk_drewN ?_ _ | refine blk_drew ?_ | refine blk_alloc ?_ _)); refine blk_put (cs := #[.slice Ao27 y142.length co27, .slice none 0 0, .slice none 0 0]) ?_ 2 _ rfl; (with_reducible repeat (first | refine blk_drewN ?_ _ | refine blk_drew ?_ | refine blk_alloc ?_ _)); refine blk_put (cs := #[.slice Ao27 y142.length co27, .slice none 0 0, .slice none 0 0]) ?_ 1 _ rfl; (with_reducible repeat (first | refine blk_drewN ?_ _ | refine blk_drew ?_ | refine blk_alloc ?_ _)); refine blk_put (cs := #[.slice none 0 0, .slice none 0 0, .slice none 0 0]) ?_ 0 _ rfl; (with_reducible repeat (first | refine blk_drewN ?_ _ | refine blk_drew ?_ | refine blk_alloc ?_ _)); exact BK158.out⟩, ⟨by repeat (first | (with_reducible first | exact HB.out | apply below_alloc | apply pw_below_drewN | apply below_drew1 | refine below_set ?_ GE131.out | refine below_set ?_ GE158.out) | exact HB.out)⟩⟩
  case round =>
    clear H'
    try clear c2
    try clear p2
    try clear c3
    try clear c29
    try clear c30
    try clear hcz30_0
    try clear hcz30_1
    try clear hcz30_2
    try clear hfz30_0
    try clear hfz30_1
    try clear hfz30_2
    obtain ⟨x18_1, x159001_1, u159001, rfl, HA, HK1, HO_159000, HO_159001, HO_159002, BK131, BK158, HB⟩ := hrel
    cases gk with
    | zero => exact absurd HA.out (by simp [furrowworkslaw04_sample.l0])
    | succ k1 =>
      have H := HA.out
      clear HA
      simp only [furrowworkslaw04_sample.l0] at H
      by_cases c31 : x18_1 < (y142.length : Int)
      · rw [if_pos c31] at H
        have c31b0 : decide (x18_1 < (y142.length : Int)) = true := decide_eq_true c31
        clear c31
        replace H := Option.bind_eq_some_iff.mp H
        obtain ⟨⟨t159, t160⟩, A320, H⟩ := H
        replace H : (if x159001_1.length < 8796093022208 then (furrowworkslaw04_sample.l0 k1 (y142.length : Int) (wrap64 (x18_1 + 1)) y142 (x159001_1 ++ [(⟨t159, t160⟩ : S28)]) y155) else (none)) = some (r1, r2, r3) := H
        have A32 := Aside0.mk A320
        clear A320
        by_cases c33 : x159001_1.length < 8796093022208
        · rw [if_pos c33] at H
          have LMc33 := Aside0.mk c33
          clear c33
          obtain ⟨y161, hy161⟩ : ∃ y_ : List (S28), y_ = (x159001_1 ++ [(⟨t159, t160⟩ : S28)]) := ⟨_, rfl⟩
          replace H : (furrowworkslaw04_sample.l0 k1 (y142.length : Int) (wrap64 (x18_1 + 1)) y142 y161 y155) = some (r1, r2, r3) := by first | (rw [hy161]; with_reducible exact H) | (have H2_ := (Option.bind_some _ _).symm.trans H; rw [hy161]; with_reducible exact H2_) | (have H2_ := (Option.bind_some _ _).symm.trans H; with_reducible exact H2_) | with_reducible exact H | (rw [hy161]; exact H) | exact H
          have Ny161 := Aside0.mk hy161
          clear hy161
          have H' := Aside0.mk H
          clear H
          try go_wp2
          have n0_ := Aside0.mk (Kd.R_drew HO_159000.out)
          have n1_ := Aside0.mk (Kd.R_drew HO_159001.out)
          have n2_ := Aside0.mk (Kd.R_drew HO_159002.out)
          have n3_ := Aside0.mk (blk_drew BK131.out)
          have n4_ := Aside0.mk (blk_drew BK158.out)
          have n5_ := Aside0.mk (below_drew1 HB.out)
          clear HO_159000
          clear HO_159001
          clear HO_159002
          clear BK131
          clear BK158
          clear HB
          have HO_159000 := n0_
          have HO_159001 := n1_
          have HO_159002 := n2_
          have BK131 := n3_
          have BK158 := n4_
          have HB := n5_
          clear n0_ n1_ n2_ n3_ n4_ n5_
          refine start_ (n := 7) (S := fun w' => w'.cell? ⟨gb158, 0, none⟩ = some (.slice Ao27 y142.length co27) ∧ w'.cell? ⟨gb158, 1, none⟩ = some (u159001) ∧ w'.cell? ⟨gb158, 2, none⟩ = some (.slice Ao26 y155.length co26)) (ds := [6]) #[false, false, false, false, false, false, false] (by kernel_rfl) rfl rfl ⟨(blk_cell BK158.out 0).trans rfl, (blk_cell BK158.out 1).trans rfl, (blk_cell BK158.out 2).trans rfl⟩ (fun hHeld => ?_)
          generalize wr.drew = w34 at HO_159000 HO_159001 HO_159002 BK131 BK158 HB hHeld ⊢
          refine pure_ (i := 0) (N := some 20) (v := ?_) (a' := ?_) #[true, false, false, false, false, false, false] rfl rfl (by kernel_rfl) (fun _ _ _ h => h) (Or.inl ⟨by rfl, ?_⟩) ?_ ?_
          rotate_left
          · intro w'
            go_simp
            with_reducible rfl
          rotate_left
          · simp only [Act.put, List.setIfInBounds_toArray, List.set_cons_zero, List.set_cons_succ, i64_w, i32_w]
            rfl
          refine take_ (i := 1) (N := some 21) (v := ?_) (a' := ?_) #[true, true, false, false, false, false, false] rfl rfl (by kernel_rfl) (fun _ _ _ h => h) (Or.inl ⟨by rfl, ?_⟩) hHeld ?_ ?_
          rotate_left
          · rintro w' ⟨s0, s1, s2⟩
            go_simp
            with_reducible rfl
          rotate_left
          · simp only [Act.put, List.setIfInBounds_toArray, List.set_cons_zero, List.set_cons_succ, i64_w, i32_w]
            rfl
          refine one_ (i := 2) (N := some 22) #[true, true, true, false, false, false, false] rfl rfl (by kernel_rfl) (by decide) (fun K hK => ?_)
          refine goes_ Try.func31 (by kernel_rfl) rfl #[.int .i64 30, .int .i64 30] (by rfl) rfl rfl (by (try simp only [List.map_toArray, List.map_cons, List.map_nil]); first | done | rfl | (simp only [List.length_drop, List.length_take]; rfl)) ?_
          with_reducible refine (furrowworkslaw04_span.calls 30 30 t159 t160 _ A32.out).mono ?_
          rintro e w35 ⟨rfl, hb⟩
          refine ⟨_, rfl, ?_⟩
          have n0_ := Aside0.mk (Kd.R_below (by (with_reducible repeat (first | apply Kd.R_alloc | apply Kd.R_drewN | apply Kd.R_drew)); exact HO_159000.out) hb)
          have n1_ := Aside0.mk (Kd.R_below (by (with_reducible repeat (first | apply Kd.R_alloc | apply Kd.R_drewN | apply Kd.R_drew)); exact HO_159001.out) hb)
          have n2_ := Aside0.mk (Kd.R_below (by (with_reducible repeat (first | apply Kd.R_alloc | apply Kd.R_drewN | apply Kd.R_drew)); exact HO_159002.out) hb)
          have n3_ := Aside0.mk (blk_below (g := gb131) (o := .cells #[.slice none 0 0, .slice none 0 0, .slice none 0 0] 24 (0, 0)) (by (with_reducible repeat (first | refine blk_drewN ?_ _ | refine blk_drew ?_ | refine blk_alloc ?_ _)); exact BK131.out) hb)
          have n4_ := Aside0.mk (blk_below (g := gb158) (o := .cells #[.slice Ao27 y142.length co27, u159001, .slice Ao26 y155.length co26] 24 (0, 0)) (by (with_reducible repeat (first | refine blk_drewN ?_ _ | refine blk_drew ?_ | refine blk_alloc ?_ _)); exact BK158.out) hb)
          have n5_ := Aside0.mk (below_step (by repeat (first | (with_reducible first | exact HB.out | apply below_alloc | apply pw_below_drewN | apply below_drew1 | refine below_set ?_ GE131.out | refine below_set ?_ GE158.out) | exact HB.out)) hb)
          clear HO_159000
          clear HO_159001
          clear HO_159002
          clear BK131
          clear BK158
          clear HB
          have HO_159000 := n0_
          have HO_159001 := n1_
          have HO_159002 := n2_
          have BK131 := n3_
          have BK158 := n4_
          have HB := n5_
          clear n0_ n1_ n2_ n3_ n4_ n5_
          (try clear hb)
          (try clear hb2)
          (try clear hk)
          (try clear hi)
          refine hK.out _ _ ⟨(blk_cell BK158.out 0).trans rfl, (blk_cell BK158.out 1).trans rfl, (blk_cell BK158.out 2).trans rfl⟩ (fun hHeld => ?_)
          clear hK K
          refine norm_ (a' := ?_) ?_ ?_
          rotate_left
          · show Act.put _ (some 22) _ = _
            simp only [Act.put, List.setIfInBounds_toArray, List.set_cons_zero, List.set_cons_succ, i64_w, i32_w]
            rfl
          refine one_ (i := 3) (N := some 23) #[true, true, true, true, false, false, false] rfl rfl (by kernel_rfl) (by decide) (fun K hK => ?_)
          refine value_ (w1 := ?_) (v := ?_) (by rfl) rfl ?_ ?_
          rotate_left 2
          · go_simp
            constructor
            · rfl
            · rfl
          refine hK.out _ _ ⟨(blk_cell (blk_alloc BK158.out _) 0).trans rfl, (blk_cell (blk_alloc BK158.out _) 1).trans rfl, (blk_cell (blk_alloc BK158.out _) 2).trans rfl⟩ (fun hHeld => ?_)
          clear hK K
          refine norm_ (a' := ?_) ?_ ?_
          rotate_left
          · show Act.put _ (some 23) _ = _
            simp only [Act.put, List.setIfInBounds_toArray, List.set_cons_zero, List.set_cons_succ, i64_w, i32_w]
            rfl
          refine one_ (i := 4) (N := some 24) #[true, true, true, true, true, false, false] rfl rfl (by kernel_rfl) (by decide) (fun K hK => ?_)
          refine Kd.R_append_step k28 (w0 := w) w.heap.size (by rfl) (.tmp 21) (.tmp 23) 22 28 (.agg #[(.int .i64 0), (.int .i64 0)]) 16 rfl Try.underlying22 info28 rfl (by decide) (by omega) u159001 x159001_1 (⟨t159, t160⟩ : S28) [.int .i64 t159, .int .i64 t160] (fun k_ => some k_ ≠ (.slice Ao27 y142.length co27 : Value).ownBlock ∧ some k_ ≠ (.slice Ao26 y155.length co26 : Value).ownBlock) (fun _ => False) rfl rfl ?aP (fun _ hk => hk.elim) ?aF ?aO ?aB ?aS ?aL ?_
          (case aP => exact k28_mkM _ _ _ (⟨t159, t160⟩ : S28))
          (case aB => exact (by repeat (first | (with_reducible first | exact HB.out | apply below_alloc | apply pw_below_drewN | apply below_drew1 | refine below_set ?_ GE131.out | refine below_set ?_ GE158.out) | exact HB.out)))
          (case aF => exact (fun k_ hk => ⟨Kd.fresh' (Kd.R_lt (by (with_reducible repeat (first | apply Kd.R_alloc | apply Kd.R_drewN | apply Kd.R_drew)); exact HO_159000.out)) k_ hk, Kd.fresh' (Kd.R_lt (by (with_reducible repeat (first | apply Kd.R_alloc | apply Kd.R_drewN | apply Kd.R_drew)); exact HO_159002.out)) k_ hk⟩))
          (case aO => exact (by (with_reducible repeat (first | apply Kd.R_alloc | apply Kd.R_drewN | apply Kd.R_drew)); exact HO_159001.out))
          (case aS => exact (below_size (by repeat (first | (with_reducible first | exact HB.out | apply below_alloc | apply pw_below_drewN | apply below_drew1 | refine below_set ?_ GE131.out | refine below_set ?_ GE158.out) | exact HB.out))))
          (case aL => have := LMc33.out; omega)
          intro v162 w36 ho hb hg hat
          rw [← Ny161.out] at ho
          have n0_ := Aside0.mk (Kd.R_after (ok := (fun k_ => some k_ ≠ (.slice Ao26 y155.length co26 : Value).ownBlock)) (by (with_reducible repeat (first | apply Kd.R_alloc | apply Kd.R_drewN | apply Kd.R_drew)); exact Kd.R_mono HO_159000.out (fun _ hk => ⟨hk.2, hk.1⟩)) hg hat)
          have n1_ := Aside0.mk (Kd.R_after (ok := (fun k_ => some k_ ≠ (.slice Ao27 y142.length co27 : Value).ownBlock)) (by (with_reducible repeat (first | apply Kd.R_alloc | apply Kd.R_drewN | apply Kd.R_drew)); exact HO_159002.out) hg hat)
          have n2_ := Aside0.mk (blk_grown (g := gb131) (o := .cells #[.slice none 0 0, .slice none 0 0, .slice none 0 0] 24 (0, 0)) (by (with_reducible repeat (first | refine blk_drewN ?_ _ | refine blk_drew ?_ | refine blk_alloc ?_ _)); exact BK131.out) hg (Kd.R_ne HO_159001.out BK131.out (by decide)))
          have n3_ := Aside0.mk (blk_grown (g := gb158) (o := .cells #[.slice Ao27 y142.length co27, u159001, .slice Ao26 y155.length co26] 24 (0, 0)) (by (with_reducible repeat (first | refine blk_drewN ?_ _ | refine blk_drew ?_ | refine blk_alloc ?_ _)); exact BK158.out) hg (Kd.R_ne HO_159001.out BK158.out (by decide)))
          have n4_ := Aside0.mk (hb)
          have n5_ := Aside0.mk (ho)
          clear HO_159000
          clear HO_159002
          clear BK131
          clear BK158
          clear HB
          clear HO_159001
          have HO_159000 := n0_
          have HO_159002 := n1_
          have BK131 := n2_
          have BK158 := n3_
          have HB := n4_
          have HO163 := n5_
          clear n0_ n1_ n2_ n3_ n4_ n5_
          clear ho hb hg hat
          obtain ⟨Ao37, co37, eo37⟩ := Kd.R_slice HO163.out
          (first | subst eo37 | (injection eo37 with f1_ f2_ f3_; have f4_ := f1_.symm; have f5_ := f3_.symm; clear f1_ f2_ f3_; subst f4_; subst f5_))
          refine hK.out _ _ ⟨(blk_cell BK158.out 0).trans rfl, (blk_cell BK158.out 1).trans rfl, (blk_cell BK158.out 2).trans rfl⟩ (fun hHeld => ?_)
          clear hK K
          refine norm_ (a' := ?_) ?_ ?_
          rotate_left
          · show Act.put _ (some 24) _ = _
            simp only [Act.put, List.setIfInBounds_toArray, List.set_cons_zero, List.set_cons_succ, i64_w, i32_w]
            rfl
          refine pure_ (i := 5) (N := some 25) (v := ?_) (a' := ?_) #[true, true, true, true, true, true, false] rfl rfl (by kernel_rfl) (fun _ _ _ h => h) (Or.inl ⟨by rfl, ?_⟩) ?_ ?_
          rotate_left
          · intro w'
            go_simp
            with_reducible rfl
          rotate_left
          · simp only [Act.put, List.setIfInBounds_toArray, List.set_cons_zero, List.set_cons_succ, i64_w, i32_w]
            rfl
          refine last_ (i := 6) (N := none) #[true, true, true, true, true, true, true] rfl rfl (by kernel_rfl) (by decide) (fun K hK => ?_)
          have hs38 : w36.cell? ⟨gb158, 1, none⟩ = some (u159001) := (blk_cell BK158.out 1).trans rfl
          have hfs38 := blk_frozen BK158.out 1
          have hns38_0 := NB131_158.out
          have hms38_0 := NB158_131.out
          refine skip_ (w1 := ?_) (by rfl) rfl ?_ ?_
          rotate_left
          · go_simp
            rfl
          refine hK.out _ _ ?_
          clear hK K
          refine done_ (by kernel_rfl) ?_
          try go_wp2
          go_roundg k1
          case measure => have := HK1.out; omega
          case rel => exact ⟨(wrap64 (x18_1 + 1)), (y161), (.slice Ao37 y161.length co37), (by first | rfl | (simp; done) | (simp [*]; done)), H', ⟨by have := HK1.out; omega⟩, ⟨by (with_reducible repeat (first | apply Kd.R_alloc | apply Kd.R_drewN | apply Kd.R_drew)); exact Kd.R_mono (Kd.R_far (p := ⟨gb158, 1, none⟩) (Kd.R_types HO_159000.out BK158.out (by decide)) (fun _ hk => hk.2) (.slice Ao37 y161.length co37)) (fun _ hk => ⟨hk.1.2, hk.1.1⟩)⟩, ⟨by (with_reducible repeat (first | apply Kd.R_alloc | apply Kd.R_drewN | apply Kd.R_drew)); exact Kd.R_mono (Kd.R_far (p := ⟨gb158, 1, none⟩) (Kd.R_types HO163.out BK158.out (by decide)) (fun _ hk => hk.2) (.slice Ao37 y161.length co37)) (fun _ hk => ⟨hk.1.1, hk.1.2⟩)⟩, ⟨by (with_reducible repeat (first | apply Kd.R_alloc | apply Kd.R_drewN | apply Kd.R_drew)); exact Kd.R_mono (Kd.R_far (p := ⟨gb158, 1, none⟩) (Kd.R_types HO_159002.out BK158.out (by decide)) (fun _ hk => hk.2) (.slice Ao37 y161.length co37)) (fun _ hk => ⟨hk.1.1, hk.1.2⟩)⟩, ⟨by (with_reducible repeat (first | refine blk_drewN ?_ _ | refine blk_drew ?_ | refine blk_alloc ?_ _)); refine blk_far ?_ NB131_158.out _; (with_reducible repeat (first | refine blk_drewN ?_ _ | refine blk_drew ?_ | refine blk_alloc ?_ _)); exact BK131.out⟩, ⟨by (with_reducible repeat (first | refine blk_drewN ?_ _ | refine blk_drew ?_ | refine blk_alloc ?_ _)); refine blk_put (cs := #[.slice Ao27 y142.length co27, u159001, .slice Ao26 y155.length co26]) ?_ 1 _ rfl; (with_reducible repeat (first | refine blk_drewN ?_ _ | refine blk_drew ?_ | refine blk_alloc ?_ _)); exact BK158.out⟩, ⟨by repeat (first | (with_reducible first | exact HB.out | apply below_alloc | apply pw_below_drewN | apply below_drew1 | refine below_set ?_ GE131.out | refine below_set ?_ GE158.out) | exact HB.out)⟩⟩
        · rw [if_neg c33] at H
          exact absurd H (by simp)
      · rw [if_neg c31] at H
        have c31b0 : decide (x18_1 < (y142.length : Int)) = false := decide_eq_false c31
        clear c31
        simp only [Option.some.injEq, Prod.mk.injEq] at H
        obtain ⟨rfl, rfl, rfl⟩ := H
        have hnb39 := NB158_131.out
        have hnc39 := NB131_158.out
        have hcz40_0 : wr.cell? ⟨gb158, 0, none⟩ = some (.slice Ao27 y142.length co27) := (blk_cell BK158.out 0).trans rfl
        have hcz40_1 : wr.cell? ⟨gb158, 1, none⟩ = some (u159001) := (blk_cell BK158.out 1).trans rfl
        have hcz40_2 : wr.cell? ⟨gb158, 2, none⟩ = some (.slice Ao26 y155.length co26) := (blk_cell BK158.out 2).trans rfl
        have hfz40_0 := blk_frozen BK158.out 0
        have hfz40_1 := blk_frozen BK158.out 1
        have hfz40_2 := blk_frozen BK158.out 2
        have hcz41_0 : wr.cell? ⟨gb131, 0, none⟩ = some (.slice none 0 0) := (blk_cell BK131.out 0).trans rfl
        have hcz41_1 : wr.cell? ⟨gb131, 1, none⟩ = some (.slice none 0 0) := (blk_cell BK131.out 1).trans rfl
        have hcz41_2 : wr.cell? ⟨gb131, 2, none⟩ = some (.slice none 0 0) := (blk_cell BK131.out 2).trans rfl
        have hfz41_0 := blk_frozen BK131.out 0
        have hfz41_1 := blk_frozen BK131.out 1
        have hfz41_2 := blk_frozen BK131.out 2
        obtain ⟨Ao42, co42, eo42⟩ := Kd.R_slice HO_159001.out
        subst eo42
        go_wp2
        refine bodyPost_ret (results_cell_row rfl _ _ gb131 24 #[.slice Ao27 y142.length co27, .slice Ao42 x159001_1.length co42, .slice Ao26 y155.length co26] (0, 0) _ rfl (by (with_reducible repeat (first | refine blk_drewN ?_ _ | refine blk_drew ?_ | refine blk_alloc ?_ _)); refine blk_put (cs := #[.slice Ao27 y142.length co27, .slice Ao42 x159001_1.length co42, .slice none 0 0]) ?_ 2 _ rfl; (with_reducible repeat (first | refine blk_drewN ?_ _ | refine blk_drew ?_ | refine blk_alloc ?_ _)); refine blk_put (cs := #[.slice Ao27 y142.length co27, .slice none 0 0, .slice none 0 0]) ?_ 1 _ rfl; (with_reducible repeat (first | refine blk_drewN ?_ _ | refine blk_drew ?_ | refine blk_alloc ?_ _)); refine blk_put (cs := #[.slice none 0 0, .slice none 0 0, .slice none 0 0]) ?_ 0 _ rfl; (with_reducible repeat (first | refine blk_drewN ?_ _ | refine blk_drew ?_ | refine blk_alloc ?_ _)); exact BK131.out) Try.underlying24 rfl (by kernel_rfl)) rfl ?_
        exact ⟨_, _, _, by first | rfl | (simp [errW_none, errW_some] <;> rfl) | (simp [*, errW_none, errW_some] <;> rfl), by (with_reducible repeat (first | apply Kd.R_alloc | apply Kd.R_drewN | apply Kd.R_drew)); exact Kd.R_mono (Kd.R_far (p := ⟨gb131, 2, none⟩) (Kd.R_far (p := ⟨gb131, 1, none⟩) (Kd.R_far (p := ⟨gb131, 0, none⟩) (Kd.R_types HO_159000.out BK131.out (by decide)) (fun _ hk => hk.2) (.slice Ao27 y142.length co27)) (fun _ hk => hk.2) (.slice Ao42 x159001_1.length co42)) (fun _ hk => hk.2) (.slice Ao26 y155.length co26)) (fun _ hk => ⟨hk.1.1, hk.1.2⟩), by (with_reducible repeat (first | apply Kd.R_alloc | apply Kd.R_drewN | apply Kd.R_drew)); exact Kd.R_mono (Kd.R_far (p := ⟨gb131, 2, none⟩) (Kd.R_far (p := ⟨gb131, 1, none⟩) (Kd.R_far (p := ⟨gb131, 0, none⟩) (Kd.R_types HO_159001.out BK131.out (by decide)) (fun _ hk => hk.2) (.slice Ao27 y142.length co27)) (fun _ hk => hk.2) (.slice Ao42 x159001_1.length co42)) (fun _ hk => hk.2) (.slice Ao26 y155.length co26)) (fun _ hk => ⟨hk.1.1, hk.1.2⟩), by (with_reducible repeat (first | apply Kd.R_alloc | apply Kd.R_drewN | apply Kd.R_drew)); exact Kd.R_mono (Kd.R_far (p := ⟨gb131, 2, none⟩) (Kd.R_far (p := ⟨gb131, 1, none⟩) (Kd.R_far (p := ⟨gb131, 0, none⟩) (Kd.R_types HO_159002.out BK131.out (by decide)) (fun _ hk => hk.2) (.slice Ao27 y142.length co27)) (fun _ hk => hk.2) (.slice Ao42 x159001_1.length co42)) (fun _ hk => hk.2) (.slice Ao26 y155.length co26)) (fun _ hk => ⟨hk.1.1, hk.1.2⟩), by repeat (first | (with_reducible first | exact HB.out | apply below_alloc | apply pw_below_drewN | apply below_drew1 | refine below_set ?_ GE131.out | refine below_set ?_ GE158.out) | exact HB.out)⟩

end Go.Proofs.Ytafmgmaelnpehaa.PFurrowAsks
end

section
namespace Go.Proofs.Ytafmgmaelnpehaa
open Go.RowKit Go.TL Go.Shelf Go.Fu
open PFurrowAsks
def smp0 : List S28 := [⟨0, 1⟩, ⟨2, 3⟩, ⟨0, 0⟩, ⟨1, 1⟩, ⟨5, 6⟩]
def smp1 : List S28 := [⟨30, 30⟩, ⟨30, 30⟩, ⟨30, 30⟩, ⟨30, 30⟩, ⟨30, 30⟩]
def smp2 : List S28 := [⟨15, 16⟩, ⟨14, 18⟩, ⟨15, 15⟩, ⟨12, 14⟩, ⟨16, 17⟩]
def pF : List (Int × Int) := [(0, 1), (2, 3), (0, 0), (1, 1), (5, 6)]
theorem smp_valid : valid smp0 smp1 smp2 = true := by kernel_rfl
theorem pF_ok : ∀ x ∈ pF, okSpan x := by unfold okSpan; decide +kernel
theorem least_F : leastN pF = 3 := leastN_eq pF_ok ⟨by rw [canB_eq]; decide +kernel, fun k hk => by
  rw [canB_eq]
  rcases k with _ | _ | _ | k
  · decide +kernel
  · decide +kernel
  · decide +kernel
  · omega⟩
theorem bend_F : bendV true pF = ((3, 6), 0) := by
  unfold bendV
  rw [if_pos rfl, least_F, show hiF pF (pF.length - 2) = 6 by decide +kernel]
  rfl
/-! ### Which stations must be wrong -/
structure IsWrong (l : List (Int × Int)) (most : Int) (r : Nat) : Prop where
  lt : r < 2 ^ l.length
  can : canB (freeS r l) (upP most) = true
  min : ∀ s, s < 2 ^ l.length → canB (freeS s l) (upP most) = true → ones 8 r ≤ ones 8 s ∧ (ones 8 s = ones 8 r → r ≤ s)
theorem IsWrong.eq {l : List (Int × Int)} {most : Int} {r s : Nat} (h : IsWrong l most r) (k : IsWrong l most s) : r = s := by
  obtain ⟨a1, a2⟩ := h.min s k.lt k.can
  obtain ⟨b1, b2⟩ := k.min r h.lt h.can
  have := a2 (by omega)
  have := b2 (by omega)
  omega
end Go.Proofs.Ytafmgmaelnpehaa
end

section
namespace Go.Proofs.Ytafmgmaelnpehaa
open Go.RowKit Go.TL Go.Shelf Go.Fu
attribute [local go_sem] Oper.semAt_some
open PFurrowAsks Go.Proofs.YtafmgmaelnpehaaW.PrintWords Go.Proofs.YtafmgmaelnpehaaW.PrintMore
attribute [local go_sem] max2_int min2_int max_two min_two max_three min_three max_four min_four
theorem valid_bd {l0 l1 l2 : List S28} (h : valid l0 l1 l2 = true) (k : Nat) (hk : k < l0.length) : (-12 ≤ (l0[k]'hk).f0 ∧ (l0[k]'hk).f0 ≤ (l0[k]'hk).f1 ∧ (l0[k]'hk).f1 ≤ 12) ∧ (l0[k]'hk).f1 - (l0[k]'hk).f0 ≤ 6 := by
  unfold valid at h
  simp only [Bool.and_eq_true] at h
  have := (stsOk_all l0 l1 l2 _ _).1 h.2 k (by omega) (by omega)
  unfold stOk at this
  simp only [Bool.and_eq_true, decide_eq_true_eq] at this
  have e : rd_T28 l0 k = l0[k] := by simp [rd_T28, hk]
  rw [e] at this
  exact ⟨this.1.1.1, this.1.1.2⟩
end Go.Proofs.Ytafmgmaelnpehaa
end

section
namespace Go.Proofs.Ytafmgmaelnpehaa.PFurrowAsks
open Go.RowKit Go.Proofs.YtafmgmaelnpehaaW.PrintWords Go.Proofs.YtafmgmaelnpehaaW.PrintLast Go.Proofs.YtafmgmaelnpehaaW.PrintMore
attribute [local go_sem] max2_int min2_int max_two min_two max_three min_three max_four min_four   -- for this text's walks alone

/-! ### furrowworksref04_Ints: function 23 -/
def furrowworksref04_Ints.l0 : Nat → List Int → List Int → Int → Option (Bool)
  | 0, _, _, _ => none
  | k + 1, x0, x1, x5 => if x5 < (x0.length : Int) then (if 0 ≤ x5 then (if x5 < (x1.length : Int) then (if (rd x0 x5) = (rd x1 x5) then (furrowworksref04_Ints.l0 k x0 x1 (wrap64 (x5 + 1))) else (some false)) else (none)) else (none)) else (some true)
def furrowworksref04_Ints.f (k : Nat) (l0 : List Int) (l1 : List Int) : Option (Bool) := if (l0.length : Int) = (l1.length : Int) then (furrowworksref04_Ints.l0 k l0 l1 0) else (some false)
theorem furrowworksref04_Ints.mono_l : ∀ k, (∀ y0 y1 y2, LeO (furrowworksref04_Ints.l0 k y0 y1 y2) (furrowworksref04_Ints.l0 (k + 1) y0 y1 y2))
  | 0 => fun _ _ _ r h => by simp [furrowworksref04_Ints.l0] at h
  | k + 1 => by
    have ih0 := furrowworksref04_Ints.mono_l k
    · intro y0 y1 y2
      unfold furrowworksref04_Ints.l0
      repeat' first
      | (with_reducible exact ih0 _ _ _)
      | (with_reducible exact LeO.refl _)
      | (with_reducible exact LeO.none _)
      | (with_reducible refine LeO.ite ?_ ?_)
      | (with_reducible refine LeO.bind ?_ (fun _ => ?_))
      | exact ih0 _ _ _
      | exact LeO.none _
      | refine LeO.ite ?_ ?_
      | refine LeO.bind ?_ (fun _ => ?_)
theorem furrowworksref04_Ints.mono : ∀ a0 a1 k, LeO (furrowworksref04_Ints.f k a0 a1) (furrowworksref04_Ints.f (k + 1) a0 a1) := by
  intro a0 a1 k
  have ih0 := furrowworksref04_Ints.mono_l k
  unfold furrowworksref04_Ints.f
  repeat' first
      | (with_reducible exact ih0 _ _ _)
      | (with_reducible exact LeO.refl _)
      | (with_reducible exact LeO.none _)
      | (with_reducible refine LeO.ite ?_ ?_)
      | (with_reducible refine LeO.bind ?_ (fun _ => ?_))
      | exact ih0 _ _ _
      | exact LeO.none _
      | refine LeO.ite ?_ ?_
      | refine LeO.bind ?_ (fun _ => ?_)
set_option maxHeartbeats 8000000 in
set_option maxRecDepth 100000 in
theorem furrowworksref04_Ints.calls (k : Nat) (A0 : Option Addr) (c0 : Nat) (l0 : List Int) (A1 : Option Addr) (c1 : Nat) (l1 : List Int) (r : Bool) (w : World) (hr0 : Kd.C (Kd.int .i64) w A0 l0.length l0) (hc0 : l0.length ≤ c0) (hr1 : Kd.C (Kd.int .i64) w A1 l1.length l1) (hc1 : l1.length ≤ c1) (h : furrowworksref04_Ints.f k l0 l1 = some r) :
    Calls Try.prog 23 #[.slice A0 l0.length c0, .slice A1 l1.length c1] w fun e w' => e = .returned (.bool r) ∧ Drawn0 w w' := by
  have HR0 := Aside0.mk hr0
  have HC0 := Aside0.mk hc0
  clear hr0 hc0
  have HR1 := Aside0.mk hr1
  have HC1 := Aside0.mk hc1
  clear hr1 hc1
  have H : (if (l0.length : Int) = (l1.length : Int) then (furrowworksref04_Ints.l0 k l0 l1 0) else (some false)) = some r := h
  clear h
  by_cases c3 : (l0.length : Int) = (l1.length : Int)
  · rw [if_pos c3] at H
    have c3b0 : ((l0.length : Int) == (l1.length : Int)) = true := beq_iff_eq.mpr c3
    have c3b1 : ((l0.length : Int) != (l1.length : Int)) = false := bne_eq_false_iff_eq.mpr c3
    have c3b2 : (l0.length == l1.length) = true := by first | simpa using c3 | (simp at c3 ⊢; omega)
    clear c3
    have H' := Aside0.mk H
    clear H
    go_enter Try.func23, Try.ntmps23
    go_wp2
    repeat (go_quiet (fail); try go_wp2)
    go_loopg [5] k (fun kq v5 w' => ∃ (x5_1 : Int), v5 = .int .i64 x5_1 ∧ Aside0 (furrowworksref04_Ints.l0 kq l0 l1 x5_1 = some r) ∧ Aside0 (kq ≤ k) ∧ Drawn0 w w')
    case atStart => exact ⟨(0), (by first | rfl | (simp; done) | (simp [*]; done)), H', ⟨Nat.le_refl _⟩, by repeat (first | exact Drawn0.refl _ | apply Drawn0.step)⟩
    case round =>
      clear H'
      try clear c1
      try clear c2
      try clear p2
      try clear c3
      try clear c3b0
      try clear c3b1
      try clear c3b2
      obtain ⟨x5_1, rfl, HA, HK1, ⟨m1, rfl⟩⟩ := hrel
      cases gk with
      | zero => exact absurd HA.out (by simp [furrowworksref04_Ints.l0])
      | succ k1 =>
        have H := HA.out
        clear HA
        simp only [furrowworksref04_Ints.l0] at H
        by_cases c4 : x5_1 < (l0.length : Int)
        · rw [if_pos c4] at H
          have c4b0 : decide (x5_1 < (l0.length : Int)) = true := decide_eq_true c4
          clear c4
          by_cases c5 : 0 ≤ x5_1
          · rw [if_pos c5] at H
            have c5b0 : decide (0 ≤ x5_1) = true := decide_eq_true c5
            clear c5
            by_cases c6 : x5_1 < (l1.length : Int)
            · rw [if_pos c6] at H
              have c6b0 : decide (x5_1 < (l1.length : Int)) = true := decide_eq_true c6
              clear c6
              by_cases c7 : (rd l0 x5_1) = (rd l1 x5_1)
              · rw [if_pos c7] at H
                have c7b0 : ((rd l0 x5_1) == (rd l1 x5_1)) = true := beq_iff_eq.mpr c7
                have c7b1 : ((rd l0 x5_1) != (rd l1 x5_1)) = false := bne_eq_false_iff_eq.mpr c7
                clear c7
                have H' := Aside0.mk H
                clear H
                have p124 : 0 ≤ (x5_1 : Int) := of_decide_eq_true (by first | (with_reducible assumption) | assumption)
                have q124 : x5_1 < (l0.length : Int) := of_decide_eq_true (by first | (with_reducible assumption) | assumption)
                obtain ⟨ad124, e124, hx124_0⟩ := Kd.at_int HR0.out x5_1 p124 q124
                cases e124
                replace p124 := eq_true p124
                replace q124 := eq_true q124
                have p125 : 0 ≤ (x5_1 : Int) := of_decide_eq_true (by first | (with_reducible assumption) | assumption)
                have q125 : x5_1 < (l1.length : Int) := of_decide_eq_true (by first | (with_reducible assumption) | assumption)
                obtain ⟨ad125, e125, hx125_0⟩ := Kd.at_int HR1.out x5_1 p125 q125
                cases e125
                replace p125 := eq_true p125
                replace q125 := eq_true q125
                go_wp2
                repeat (go_quiet (fail); try go_wp2)
                go_roundg k1
                case measure => have := HK1.out; omega
                case rel => exact ⟨(wrap64 (x5_1 + 1)), (by first | rfl | (simp; done) | (simp [*]; done)), H', ⟨by have := HK1.out; omega⟩, by repeat (first | exact Drawn0.refl _ | apply Drawn0.step)⟩
              · rw [if_neg c7] at H
                have c7b0 : ((rd l0 x5_1) == (rd l1 x5_1)) = false := beq_eq_false_iff_ne.mpr c7
                have c7b1 : ((rd l0 x5_1) != (rd l1 x5_1)) = true := bne_iff_ne.mpr c7
                obtain rfl := Option.some.inj H
                have p124 : 0 ≤ (x5_1 : Int) := of_decide_eq_true (by first | (with_reducible assumption) | assumption)
                have q124 : x5_1 < (l0.length : Int) := of_decide_eq_true (by first | (with_reducible assumption) | assumption)
                obtain ⟨ad124, e124, hx124_0⟩ := Kd.at_int HR0.out x5_1 p124 q124
                cases e124
                replace p124 := eq_true p124
                replace q124 := eq_true q124
                have p125 : 0 ≤ (x5_1 : Int) := of_decide_eq_true (by first | (with_reducible assumption) | assumption)
                have q125 : x5_1 < (l1.length : Int) := of_decide_eq_true (by first | (with_reducible assumption) | assumption)
                obtain ⟨ad125, e125, hx125_0⟩ := Kd.at_int HR1.out x5_1 p125 q125
                cases e125
                replace p125 := eq_true p125
                replace q125 := eq_true q125
                go_wp2
                repeat (go_quiet (fail); try go_wp2)
                go_ret
                exact ⟨by first | rfl | (simp; done) | (simp [*]; done), by repeat (first | exact Drawn0.refl _ | apply Drawn0.step)⟩
            · rw [if_neg c6] at H
              exact absurd H (by simp)
          · rw [if_neg c5] at H
            exact absurd H (by simp)
        · rw [if_neg c4] at H
          have c4b0 : decide (x5_1 < (l0.length : Int)) = false := decide_eq_false c4
          clear c4
          obtain rfl := Option.some.inj H
          go_wp2
          repeat (go_quiet (fail); try go_wp2)
          go_ret
          exact ⟨by first | rfl | (simp; done) | (simp [*]; done), by repeat (first | exact Drawn0.refl _ | apply Drawn0.step)⟩
  · rw [if_neg c3] at H
    have c3b0 : ((l0.length : Int) == (l1.length : Int)) = false := beq_eq_false_iff_ne.mpr c3
    have c3b1 : ((l0.length : Int) != (l1.length : Int)) = true := bne_iff_ne.mpr c3
    have c3b2 : (l0.length == l1.length) = false := by first | simpa using c3 | (simp at c3 ⊢; omega)
    obtain rfl := Option.some.inj H
    go_enter Try.func23, Try.ntmps23
    go_wp2
    repeat (go_quiet (fail); try go_wp2)
    go_ret
    exact ⟨by first | rfl | (simp; done) | (simp [*]; done), by repeat (first | exact Drawn0.refl _ | apply Drawn0.step)⟩

end Go.Proofs.Ytafmgmaelnpehaa.PFurrowAsks
end

section
namespace Go.Proofs.Ytafmgmaelnpehaa
open Go.RowKit Go.TL Go.Shelf Go.Fu
open PFurrowAsks Go.Proofs.YtafmgmaelnpehaaW.PrintWords
def Fur.va (F : Fur) : Bool := valid F.l0 F.l1 F.l2
theorem Fur.isv (F : Fur) : F.Is F.va := rfl
theorem valid_lens {l0 l1 l2 : List S28} (h : valid l0 l1 l2 = true) : l0.length ≤ 8 ∧ l1.length = l0.length ∧ l2.length = l0.length ∧ ∀ j, j < l0.length → stOk (rd_T28 l0 j) (rd_T28 l1 j) (rd_T28 l2 j) = true := by
  unfold valid at h
  simp only [Bool.and_eq_true, decide_eq_true_eq] at h
  exact ⟨h.1.1.1, h.1.1.2, h.1.2, fun j hj => (stsOk_all _ _ _ _ _).1 h.2 j (by omega) (by omega)⟩
def ok12 (s : Int × Int) : Prop := -12 ≤ s.1 ∧ s.1 ≤ s.2 ∧ s.2 ≤ 12 ∧ s.2 - s.1 ≤ 6
theorem Fur.ok12 {F : Fur} (h : F.va = true) : ∀ x ∈ F.pl, ok12 x := by
  intro x hx
  obtain ⟨y, hy, rfl⟩ := List.mem_map.1 hx
  obtain ⟨k, hk, rfl⟩ := List.getElem_of_mem hy
  obtain ⟨h1, h2⟩ := valid_bd h k hk
  exact ⟨h1.1, h1.2.1, h1.2.2, h2⟩
theorem ok12.ok {s : Int × Int} (h : Go.Proofs.Ytafmgmaelnpehaa.ok12 s) : okSpan s := by
  obtain ⟨h1, h2, h3, h4⟩ := h
  exact ⟨by omega, h2, by omega⟩
theorem Fur.okS {F : Fur} (h : F.va = true) : ∀ x ∈ F.pl, okSpan x := fun x hx => (Fur.ok12 h x hx).ok
theorem Fur.le8 {F : Fur} (h : F.va = true) : F.l0.length ≤ 8 := (valid_lens h).1
theorem Bend_c (F : Fur) (w : World) (h : F.At w) :
    Calls Try.prog 15 #[F.val] w fun e w' => e = .returned (.tuple #[.agg #[.int .i64 (bendV F.va F.pl).1.1, .int .i64 (bendV F.va F.pl).1.2], .int .i64 (bendV F.va F.pl).2]) ∧ Below w.heap.size w w' :=
  Bend_any F F.va w h F.isv fun hv => ⟨Fur.le8 hv, Fur.okS hv⟩
theorem At_c (F : Fur) (s : Int) (w : World) (h : F.At w) (hl : F.l0.length ≤ 40) :
    Calls Try.prog 17 #[F.val, .int .i64 s] w fun e w' => e = .returned (.tuple #[.agg #[.int .i64 (atV F.va F.pl s).1.1, .int .i64 (atV F.va F.pl s).1.2], .int .i64 (atV F.va F.pl s).2]) ∧ Below w.heap.size w w' :=
  At_any F F.va s w h F.isv hl fun hv => ⟨Fur.le8 hv, Fur.okS hv⟩
abbrev RowI (w : World) (A : Option Addr) (l : List Int) : Prop := Kd.C (Kd.int .i64) w A l.length l
theorem RowI.below {w w' : World} {A : Option Addr} {l : List Int} (h : RowI w A l) (hb : Below w.heap.size w w') : RowI w' A l := Kd.C_below h hb
theorem fur_of_rows {ok0 ok1 ok2 : Nat → Prop} {base : Nat} {v0 v1 v2 : Value} {r0 r1 r2 : List S28} {w : World} (h0 : Kd.R k28 28 w base ok0 v0 r0) (h1 : Kd.R k28 28 w base ok1 v1 r1) (h2 : Kd.R k28 28 w base ok2 v2 r2) :
    ∃ F : Fur, F.At w ∧ .agg #[v0, v1, v2] = F.val ∧ F.l0 = r0 ∧ F.l1 = r1 ∧ F.l2 = r2 := by
  obtain ⟨A0, c0, rfl, hl0, hr0⟩ := Kd.R_reads h0
  obtain ⟨A1, c1, rfl, hl1, hr1⟩ := Kd.R_reads h1
  obtain ⟨A2, c2, rfl, hl2, hr2⟩ := Kd.R_reads h2
  exact ⟨⟨A0, c0, r0, A1, c1, r1, A2, c2, r2⟩, ⟨hr0, hl0, hr1, hl1, hr2, hl2⟩, rfl, rfl, rfl, rfl⟩
theorem smp_va {F : Fur} (h0 : F.l0 = smp0) (h1 : F.l1 = smp1) (h2 : F.l2 = smp2) : F.va = true := by unfold Fur.va; rw [h0, h1, h2]; exact smp_valid
theorem smp_pl {F : Fur} (h0 : F.l0 = smp0) : F.pl = pF := by unfold Fur.pl; rw [h0]; rfl
end Go.Proofs.Ytafmgmaelnpehaa
end
