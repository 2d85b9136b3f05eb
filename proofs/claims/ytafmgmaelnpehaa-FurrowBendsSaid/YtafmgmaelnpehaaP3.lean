/- Parts of the proof: A furrow that is handed over; the program's test whether it is valid. The least bend, in plain Lean. Where a function that defers goes on behind its deferral. -/
import Derived.Test.YtafmgmaelnpehaaProg
import Derived.Test.YtafmgmaelnpehaaP2
import Derived.WalkKit
import Derived.WalkSpells
import Derived.WalkLawsBesides
import Derived.Outline
import Derived.OwnWalkIn
import Derived.TacticsInMore
import Derived.LoopNIn
import Derived.LoopIn
import Derived.Shelf.RegionOpen
import Derived.Deep.QuietTactic
import Derived.BigQuiet
import Derived.Lib.Hide
import Derived.Maps.OwnIn
import Derived.Laws.OwnMore
import Derived.Laws.CopyRow
section
set_option linter.unusedVariables false
set_option linter.unusedSimpArgs false
namespace Go.Proofs.Ytafmgmaelnpehaa
open Go.RowKit Go.TL Go.Shelf Go.Fu
attribute [local go_sem] Oper.semAt_some
open PFurrowAsks
/-- A row of spans that is read. -/
abbrev Row (w : World) (A : Option Addr) (l : List S28) : Prop := Go.Proofs.YtafmgmaelnpehaaW.PrintWords.Kd.C k28 w A l.length l
theorem Row.grow {B : Nat} {w w' : World} {A : Option Addr} {l : List S28} (h : Row w A l) (hg : Grow B w w') : Row w' A l := by
  obtain ⟨h1, h2, h3⟩ := h
  refine ⟨h1, h2, fun hp => ?_⟩
  obtain ⟨ad, e, hc⟩ := h3 hp
  refine ⟨ad, e, fun j p hj => ?_⟩
  obtain ⟨c, hs, hk, hcell⟩ := hc j p hj
  obtain rfl := k28_open hk
  exact ⟨_, hs, k28_mk w' p, fun i u hu => hg.cell (hcell i u hu)⟩
/-- A furrow that is handed over: three rows of spans. -/
structure Fur where
  A0 : Option Addr
  c0 : Nat
  l0 : List S28
  A1 : Option Addr
  c1 : Nat
  l1 : List S28
  A2 : Option Addr
  c2 : Nat
  l2 : List S28
def Fur.s0 (F : Fur) : Value := .slice F.A0 F.l0.length F.c0
def Fur.s1 (F : Fur) : Value := .slice F.A1 F.l1.length F.c1
def Fur.s2 (F : Fur) : Value := .slice F.A2 F.l2.length F.c2
def Fur.val (F : Fur) : Value := .agg #[F.s0, F.s1, F.s2]
structure Fur.At (F : Fur) (w : World) : Prop where
  r0 : Row w F.A0 F.l0
  h0 : F.l0.length ≤ F.c0
  r1 : Row w F.A1 F.l1
  h1 : F.l1.length ≤ F.c1
  r2 : Row w F.A2 F.l2
  h2 : F.l2.length ≤ F.c2
theorem Fur.At.grow {B : Nat} {F : Fur} {w w' : World} (h : F.At w) (hg : Grow B w w') : F.At w' := ⟨h.r0.grow hg, h.h0, h.r1.grow hg, h.h1, h.r2.grow hg, h.h2⟩
theorem Fur.At.below {F : Fur} {w w' : World} (h : F.At w) (hg : Below w.heap.size w w') : F.At w' := h.grow (Grow.of_below (B := 0) hg)
/-- A box of a furrow. -/
def Box3 (W : World) (B : Nat) (t : TypeId) (a b c : Value) : Prop := W.heap[B]? = some (.cells #[a, b, c] t (0, 0))
theorem Box3.cell0 {W : World} {B : Nat} {t : TypeId} {a b c : Value} (h : Box3 W B t a b c) : W.cell? ⟨B, 0, none⟩ = some a := by simp [World.cell?, show W.heap[B]? = _ from h]
theorem Box3.cell1 {W : World} {B : Nat} {t : TypeId} {a b c : Value} (h : Box3 W B t a b c) : W.cell? ⟨B, 1, none⟩ = some b := by simp [World.cell?, show W.heap[B]? = _ from h]
theorem Box3.cell2 {W : World} {B : Nat} {t : TypeId} {a b c : Value} (h : Box3 W B t a b c) : W.cell? ⟨B, 2, none⟩ = some c := by simp [World.cell?, show W.heap[B]? = _ from h]
theorem Box3.lt {W : World} {B : Nat} {t : TypeId} {a b c : Value} (h : Box3 W B t a b c) : B < W.heap.size := (Array.getElem?_eq_some_iff.1 h).1
theorem Box3.grow {B b : Nat} {t : TypeId} {x y z : Value} {W W' : World} (hb : Box3 W b t x y z) (h : Grow B W W') : Box3 W' b t x y z := h.same b _ hb (.inr rfl)
theorem Box3.new (W : World) (t : TypeId) (a b c : Value) : Box3 (W.alloc (.cells #[a, b, c] t)) W.heap.size t a b c := World.alloc_heap_new W _

def put2 (X : World) (b : Nat) (x y : Int) : World := (X.setCell ⟨b, 0, none⟩ (.int .i64 x)).setCell ⟨b, 1, none⟩ (.int .i64 y)
theorem _root_.Go.TL.Box2.put2 {X : World} {b : Nat} {t : TypeId} {p q : Int} (h : Box2 X b t p q) (x y : Int) : Box2 (Go.Proofs.Ytafmgmaelnpehaa.put2 X b x y) b t x y := by unfold Go.Proofs.Ytafmgmaelnpehaa.put2; (simp only [Boxed, Box2, heap_alloc_at, heap_set_at, World.size_alloc, World.size_setCell]; repeat (first | rfl | exact h | rw [if_pos (by omega)] | rw [if_neg (by omega)] | rw [show _ = _ from h]))
theorem _root_.Go.TL.Box2.put2_far {X : World} {b c : Nat} {t : TypeId} {p q : Int} (h : Box2 X c t p q) (hne : c ≠ b) (x y : Int) : Box2 (Go.Proofs.Ytafmgmaelnpehaa.put2 X b x y) c t p q :=
  (Below.heap_setCell _ _ _ _ hne).trans ((Below.heap_setCell _ _ _ _ hne).trans h)
theorem _root_.Go.RowKit.Below.put2 {n b : Nat} {W X : World} (h : Below n W X) (hb : n ≤ b) (x y : Int) : Below n W (Go.Proofs.Ytafmgmaelnpehaa.put2 X b x y) := (h.setCell (p := ⟨b, 0, none⟩) hb _).setCell (p := ⟨b, 1, none⟩) hb _
def Fur.Is (F : Fur) (b : Bool) : Prop := valid F.l0 F.l1 F.l2 = b
def IfI (F : Fur) (w : World) (j : Nat) (t : Array Value) (W : World) : Prop :=
  ∃ k : Nat, k ≤ F.l0.length ∧ j = F.l0.length - k ∧ F.At W ∧ Below w.heap.size w W ∧ Box3 W w.heap.size 24 F.s0 F.s1 F.s2 ∧ valid F.l0 F.l1 F.l2 = stsOk F.l0 F.l1 F.l2 k (F.l0.length - k) ∧
    Slots [none, some (.pointer (some ⟨w.heap.size, 0, none⟩)), none, none, none, none, none, none, none, none, none, none, none, none, none, none, none, none, none, none, none, none, none, none, none, none, none, some (.int .i64 F.l0.length), some (.int .i64 k), none, none, none, none, none, none, none, none, none, none, none, none, none, none, none, none, none, none, none, none, none, none, none, none, none, none, none, none, none, none, none, none, none, none, none, none, none, none, none, none, none, none] t
/-- Behind the three spans' making. -/
def IfM (F : Fur) (w : World) (k b5 b6 b7 : Nat) (t : Array Value) (W : World) : Prop :=
  F.At W ∧ Below w.heap.size w W ∧ Box3 W w.heap.size 24 F.s0 F.s1 F.s2 ∧ Box2 W b5 89 (rd_T28 F.l0 k).f0 (rd_T28 F.l0 k).f1 ∧ Box2 W b6 89 (rd_T28 F.l1 k).f0 (rd_T28 F.l1 k).f1 ∧ Box2 W b7 89 (rd_T28 F.l2 k).f0 (rd_T28 F.l2 k).f1 ∧
    Slots [none, some (.pointer (some ⟨w.heap.size, 0, none⟩)), none, none, none, some (.pointer (some ⟨b5, 0, none⟩)), some (.pointer (some ⟨b6, 0, none⟩)), some (.pointer (some ⟨b7, 0, none⟩)), none, none, none, none, none, none, none, none, none, none, none, none, none, none, none, none, none, none, none, some (.int .i64 F.l0.length), some (.int .i64 k), none, none, none, none, none, none, none, none, none, none, none, none, none, none, none, none, none, none, none, none, none, none, none, none, none, none, none, none, none, none, none, none, none, none, none, none, none, none, none, none, none, none] t
set_option maxRecDepth 100000 in
set_option maxHeartbeats 1000000 in
theorem isF_spans {F : Fur} {w W : World} {k : Nat} (hF : F.At W) (hB : Below w.heap.size w W) (h3 : Box3 W w.heap.size 24 F.s0 F.s1 F.s2) (k0 : k < F.l0.length) (k1 : k < F.l1.length) (k2 : k < F.l2.length) (t : Array Value)
    (hSl : Slots [none, some (.pointer (some ⟨w.heap.size, 0, none⟩)), none, none, some (.int .i64 k), none, none, none, none, none, none, none, none, none, none, none, none, none, none, none, none, none, none, none, none, none, none, some (.int .i64 F.l0.length), some (.int .i64 k), none, none, none, none, none, none, none, none, none, none, none, none, none, none, none, none, none, none, none, none, none, none, none, none, none, none, none, none, none, none, none, none, none, none, none, none, none, none, none, none, none, none] t) :
    Exec Try.prog none (sub (Try.f88.body.getD .skip) [1, 1, 1, 0, 1, 0, 0, 1, 1, 0, 0, 1, 0]) t W (andThen (fun t W => ∃ b5 b6 b7, IfM F w k b5 b6 b7 t W) fun _ _ _ => False) := by
  obtain ⟨x, hx⟩ := Slots.open_ hSl; simp only [fill, Nat.reduceAdd] at hx; subst hx; clear hSl
  obtain ⟨a0, hA0, c00, c01⟩ := at_T28 hF.r0 k (by omega) (by omega)
  obtain ⟨a1, hA1, c10, c11⟩ := at_T28 hF.r1 k (by omega) (by omega)
  obtain ⟨a2, hA2, c20, c21⟩ := at_T28 hF.r2 k (by omega) (by omega)
  simp only [Int.toNat_natCast] at c00 c01 c10 c11 c20 c21
  have e0 : F.s0 = .slice (some a0) F.l0.length F.c0 := by unfold Fur.s0; rw [hA0]
  have e1 : F.s1 = .slice (some a1) F.l1.length F.c1 := by unfold Fur.s1; rw [hA1]
  have e2 : F.s2 = .slice (some a2) F.l2.length F.c2 := by unfold Fur.s2; rw [hA2]
  have hF3 := h3
  rw [e0, e1, e2] at h3
  generalize hp0 : rd_T28 F.l0 k = p0 at *
  generalize hp1 : rd_T28 F.l1 k = p1 at *
  generalize hp2 : rd_T28 F.l2 k = p2 at *
  obtain ⟨x0, y0⟩ := p0
  obtain ⟨x1, y1⟩ := p1
  obtain ⟨x2, y2⟩ := p2
  simp only at c00 c01 c10 c11 c20 c21
  have g : ∀ {W' : World} {a : Addr} {v : Value}, Below W.heap.size W W' → W.cell? a = some v → W'.cell? a = some v := fun hb hc => (Grow.of_below (B := 0) hb).cell hc
  have hu22 := Try.underlying22
  have hu24 := Try.underlying24
  have hu28 := Try.underlying28
  have hu89 := Try.underlying89
  refine region_tree (c := (sub (Try.f88.body.getD .skip) [1, 1, 1, 0, 1, 0, 0, 1, 1, 0, 0, 1, 0])) (id := 7) (.one 0 true (.one 1 true (.one 2 true (.one 3 true (.one 4 true (.one 5 true (.one 6 true (.one 7 true (.one 8 true (.one 9 true (.one 10 true (.one 11 true (.one 12 true (.one 13 true (.one 14 true (.one 15 true (.one 16 true (.one 17 true (.three 18 19 20 (.two 19 20 (.one 20 false (.one 21 false (.one 22 false (.one 23 false (.nil))))) (.one 19 false (.one 21 false (.one 22 false (.one 23 false (.nil)))))) (.two 18 20 (.one 20 false (.one 21 false (.one 22 false (.one 23 false (.nil))))) (.one 18 false (.one 21 false (.one 22 false (.one 23 false (.nil)))))) (.two 18 19 (.one 19 false (.one 21 false (.one 22 false (.one 23 false (.nil))))) (.one 18 false (.one 21 false (.one 22 false (.one 23 false (.nil))))))))))))))))))))))))) (Opq (regOps (sub (Try.f88.body.getD .skip) [1, 1, 1, 0, 1, 0, 0, 1, 1, 0, 0, 1, 0]))) rfl (by kernel_rfl) (by kernel_rfl) (by kernel_rfl) (by kernel_rfl) (by kernel_rfl) (by kernel_rfl) [0, 1, 0, 6, 8, 16, 0, 64, 0, 384, 512, 1024, 0, 4096, 0, 24576, 32768, 65536, 0, 0, 0, 1835071, 3936255, 8388607] (by kernel_rfl) (by kernel_rfl) (fun W' => Below W.heap.size W W') (fun _ _ _ => False) (fun _ _ _ h => h.elim) (fun _ _ _ _ _ _ _ _ h => h.elim) fun ds Q' hQn hQp => ?_
  have hS : Below W.heap.size W W.drew := (Below.refl _ W).drew
  have d0 := h3.cell0
  have d1 := h3.cell1
  have d2 := h3.cell2
  obtain ⟨X, hX⟩ : ∃ X, X = (((W.drew.alloc (.cells #[.int .i64 0, .int .i64 0] 89)).alloc (.cells #[.int .i64 0, .int .i64 0] 89)).alloc (.cells #[.int .i64 0, .int .i64 0] 89)) := ⟨_, rfl⟩
  have hXb : Below W.heap.size W X := by rw [hX]; exact ((hS.alloc hS.size _).alloc (by simp) _).alloc (by simp; omega) _
  have hx0 : Box2 X W.heap.size 89 0 0 := by rw [hX]; show Box2 _ W.drew.heap.size 89 0 0; (simp only [Boxed, Box2, heap_alloc_at, heap_set_at, World.size_alloc, World.size_setCell]; repeat (first | rfl | rw [if_pos (by omega)] | rw [if_neg (by omega)]))
  have hx1 : Box2 X (W.heap.size + 1) 89 0 0 := by rw [hX]; show Box2 _ (W.drew.heap.size + 1) 89 0 0; (simp only [Boxed, Box2, heap_alloc_at, heap_set_at, World.size_alloc, World.size_setCell]; repeat (first | rfl | rw [if_pos (by omega)] | rw [if_neg (by omega)]))
  have hx2 : Box2 X (W.heap.size + 1 + 1) 89 0 0 := by rw [hX]; show Box2 _ (W.drew.heap.size + 1 + 1) 89 0 0; (simp only [Boxed, Box2, heap_alloc_at, heap_set_at, World.size_alloc, World.size_setCell]; repeat (first | rfl | rw [if_pos (by omega)] | rw [if_neg (by omega)]))
  refine tr_take ⟨(Op.fieldAddr 24 (Operand.tmp 1) 0), some 31, 0, true, none⟩ (.pointer (some ⟨w.heap.size, 0, none⟩)) (by kernel_rfl) rfl (by first | exact rfl | trivial) (fun wq hq => ?_) hS ?_; (focus (simp [go_sem, mkO]; done)); simp only [Act.put, Array.getInternal_eq_getElem, List.getElem_toArray, List.getElem_cons_succ, List.getElem_cons_zero, List.setIfInBounds_toArray, List.set_cons_succ, List.set_cons_zero]
  refine tr_take ⟨(Op.load 22 (Operand.tmp 31)), some 32, 22, true, none⟩ (.slice (some a0) F.l0.length F.c0) (by kernel_rfl) rfl (by first | exact rfl | trivial) (fun wq hq => ?_) hS ?_; (focus (simp [go_sem, mkO, g hq d0]; done)); simp only [Act.put, Array.getInternal_eq_getElem, List.getElem_toArray, List.getElem_cons_succ, List.getElem_cons_zero, List.setIfInBounds_toArray, List.set_cons_succ, List.set_cons_zero]
  refine tr_take ⟨(Op.move (Operand.tmp 4)), some 33, 3, true, none⟩ (.int .i64 k) (by kernel_rfl) rfl (by first | exact rfl | trivial) (fun wq hq => ?_) hS ?_; (focus (exact rfl)); simp only [Act.put, Array.getInternal_eq_getElem, List.getElem_toArray, List.getElem_cons_succ, List.getElem_cons_zero, List.setIfInBounds_toArray, List.set_cons_succ, List.set_cons_zero]
  refine tr_take ⟨(Op.indexAddr 22 (Operand.tmp 32) (Operand.tmp 33)), some 34, 0, true, none⟩ (.pointer (some (a0.add (k * 2)))) (by kernel_rfl) rfl (by first | exact rfl | trivial) (fun wq hq => ?_) hS ?_; (focus (simp [go_sem, mkO, hu22, k0]; done)); simp only [Act.put, Array.getInternal_eq_getElem, List.getElem_toArray, List.getElem_cons_succ, List.getElem_cons_zero, List.setIfInBounds_toArray, List.set_cons_succ, List.set_cons_zero]
  refine tr_take ⟨(Op.load 28 (Operand.tmp 34)), some 35, 28, true, none⟩ (.agg #[.int .i64 x0, .int .i64 y0]) (by kernel_rfl) rfl (by first | exact rfl | trivial) (fun wq hq => ?_) hS ?_; (focus (simp [go_sem, mkO, hu28, g hq c00, g hq c01]; done)); simp only [Act.put, Array.getInternal_eq_getElem, List.getElem_toArray, List.getElem_cons_succ, List.getElem_cons_zero, List.setIfInBounds_toArray, List.set_cons_succ, List.set_cons_zero]
  refine tr_take ⟨(Op.build 89 #[(0, (Operand.tmp 35))]), some 36, 89, true, none⟩ (.agg #[.int .i64 x0, .int .i64 y0]) (by kernel_rfl) rfl (by first | exact rfl | trivial) (fun wq hq => ?_) hS ?_; (focus (simp [go_sem, mkO, hu89, hu28]; done)); simp only [Act.put, Array.getInternal_eq_getElem, List.getElem_toArray, List.getElem_cons_succ, List.getElem_cons_zero, List.setIfInBounds_toArray, List.set_cons_succ, List.set_cons_zero]
  refine tr_take ⟨(Op.fieldAddr 24 (Operand.tmp 1) 1), some 37, 0, true, none⟩ (.pointer (some ⟨w.heap.size, 1, none⟩)) (by kernel_rfl) rfl (by first | exact rfl | trivial) (fun wq hq => ?_) hS ?_; (focus (simp [go_sem, mkO]; done)); simp only [Act.put, Array.getInternal_eq_getElem, List.getElem_toArray, List.getElem_cons_succ, List.getElem_cons_zero, List.setIfInBounds_toArray, List.set_cons_succ, List.set_cons_zero]
  refine tr_take ⟨(Op.load 22 (Operand.tmp 37)), some 38, 22, true, none⟩ (.slice (some a1) F.l1.length F.c1) (by kernel_rfl) rfl (by first | exact rfl | trivial) (fun wq hq => ?_) hS ?_; (focus (simp [go_sem, mkO, g hq d1]; done)); simp only [Act.put, Array.getInternal_eq_getElem, List.getElem_toArray, List.getElem_cons_succ, List.getElem_cons_zero, List.setIfInBounds_toArray, List.set_cons_succ, List.set_cons_zero]
  refine tr_take ⟨(Op.move (Operand.tmp 4)), some 39, 3, true, none⟩ (.int .i64 k) (by kernel_rfl) rfl (by first | exact rfl | trivial) (fun wq hq => ?_) hS ?_; (focus (exact rfl)); simp only [Act.put, Array.getInternal_eq_getElem, List.getElem_toArray, List.getElem_cons_succ, List.getElem_cons_zero, List.setIfInBounds_toArray, List.set_cons_succ, List.set_cons_zero]
  refine tr_take ⟨(Op.indexAddr 22 (Operand.tmp 38) (Operand.tmp 39)), some 40, 0, true, none⟩ (.pointer (some (a1.add (k * 2)))) (by kernel_rfl) rfl (by first | exact rfl | trivial) (fun wq hq => ?_) hS ?_; (focus (simp [go_sem, mkO, hu22, k1]; done)); simp only [Act.put, Array.getInternal_eq_getElem, List.getElem_toArray, List.getElem_cons_succ, List.getElem_cons_zero, List.setIfInBounds_toArray, List.set_cons_succ, List.set_cons_zero]
  refine tr_take ⟨(Op.load 28 (Operand.tmp 40)), some 41, 28, true, none⟩ (.agg #[.int .i64 x1, .int .i64 y1]) (by kernel_rfl) rfl (by first | exact rfl | trivial) (fun wq hq => ?_) hS ?_; (focus (simp [go_sem, mkO, hu28, g hq c10, g hq c11]; done)); simp only [Act.put, Array.getInternal_eq_getElem, List.getElem_toArray, List.getElem_cons_succ, List.getElem_cons_zero, List.setIfInBounds_toArray, List.set_cons_succ, List.set_cons_zero]
  refine tr_take ⟨(Op.build 89 #[(0, (Operand.tmp 41))]), some 42, 89, true, none⟩ (.agg #[.int .i64 x1, .int .i64 y1]) (by kernel_rfl) rfl (by first | exact rfl | trivial) (fun wq hq => ?_) hS ?_; (focus (simp [go_sem, mkO, hu89, hu28]; done)); simp only [Act.put, Array.getInternal_eq_getElem, List.getElem_toArray, List.getElem_cons_succ, List.getElem_cons_zero, List.setIfInBounds_toArray, List.set_cons_succ, List.set_cons_zero]
  refine tr_take ⟨(Op.fieldAddr 24 (Operand.tmp 1) 2), some 43, 0, true, none⟩ (.pointer (some ⟨w.heap.size, 2, none⟩)) (by kernel_rfl) rfl (by first | exact rfl | trivial) (fun wq hq => ?_) hS ?_; (focus (simp [go_sem, mkO]; done)); simp only [Act.put, Array.getInternal_eq_getElem, List.getElem_toArray, List.getElem_cons_succ, List.getElem_cons_zero, List.setIfInBounds_toArray, List.set_cons_succ, List.set_cons_zero]
  refine tr_take ⟨(Op.load 22 (Operand.tmp 43)), some 44, 22, true, none⟩ (.slice (some a2) F.l2.length F.c2) (by kernel_rfl) rfl (by first | exact rfl | trivial) (fun wq hq => ?_) hS ?_; (focus (simp [go_sem, mkO, g hq d2]; done)); simp only [Act.put, Array.getInternal_eq_getElem, List.getElem_toArray, List.getElem_cons_succ, List.getElem_cons_zero, List.setIfInBounds_toArray, List.set_cons_succ, List.set_cons_zero]
  refine tr_take ⟨(Op.move (Operand.tmp 4)), some 45, 3, true, none⟩ (.int .i64 k) (by kernel_rfl) rfl (by first | exact rfl | trivial) (fun wq hq => ?_) hS ?_; (focus (exact rfl)); simp only [Act.put, Array.getInternal_eq_getElem, List.getElem_toArray, List.getElem_cons_succ, List.getElem_cons_zero, List.setIfInBounds_toArray, List.set_cons_succ, List.set_cons_zero]
  refine tr_take ⟨(Op.indexAddr 22 (Operand.tmp 44) (Operand.tmp 45)), some 46, 0, true, none⟩ (.pointer (some (a2.add (k * 2)))) (by kernel_rfl) rfl (by first | exact rfl | trivial) (fun wq hq => ?_) hS ?_; (focus (simp [go_sem, mkO, hu22, k2]; done)); simp only [Act.put, Array.getInternal_eq_getElem, List.getElem_toArray, List.getElem_cons_succ, List.getElem_cons_zero, List.setIfInBounds_toArray, List.set_cons_succ, List.set_cons_zero]
  refine tr_take ⟨(Op.load 28 (Operand.tmp 46)), some 47, 28, true, none⟩ (.agg #[.int .i64 x2, .int .i64 y2]) (by kernel_rfl) rfl (by first | exact rfl | trivial) (fun wq hq => ?_) hS ?_; (focus (simp [go_sem, mkO, hu28, g hq c20, g hq c21]; done)); simp only [Act.put, Array.getInternal_eq_getElem, List.getElem_toArray, List.getElem_cons_succ, List.getElem_cons_zero, List.setIfInBounds_toArray, List.set_cons_succ, List.set_cons_zero]
  refine tr_take ⟨(Op.build 89 #[(0, (Operand.tmp 47))]), some 48, 89, true, none⟩ (.agg #[.int .i64 x2, .int .i64 y2]) (by kernel_rfl) rfl (by first | exact rfl | trivial) (fun wq hq => ?_) hS ?_; (focus (simp [go_sem, mkO, hu89, hu28]; done)); simp only [Act.put, Array.getInternal_eq_getElem, List.getElem_toArray, List.getElem_cons_succ, List.getElem_cons_zero, List.setIfInBounds_toArray, List.set_cons_succ, List.set_cons_zero]
  refine ⟨?_, ?_, ?_⟩
  · refine tr_make ⟨(Op.alloc 89), some 5, 0, false, none⟩ (.pointer (some ⟨W.heap.size, 0, none⟩)) (W.drew.alloc (.cells #[.int .i64 0, .int .i64 0] 89)) (by kernel_rfl) rfl (by first | exact rfl | trivial) (by simp [go_sem, mkO, hu89, hu28]) (hS.alloc hS.size _) ?_; simp only [Act.put, Array.getInternal_eq_getElem, List.getElem_toArray, List.getElem_cons_succ, List.getElem_cons_zero, List.setIfInBounds_toArray, List.set_cons_succ, List.set_cons_zero]
    replace hS := hS.alloc hS.size (.cells #[.int .i64 0, .int .i64 0] 89)
    refine ⟨?_, ?_⟩
    · refine tr_make ⟨(Op.alloc 89), some 6, 0, false, none⟩ (.pointer (some ⟨W.heap.size + 1, 0, none⟩)) ((W.drew.alloc (.cells #[.int .i64 0, .int .i64 0] 89)).alloc (.cells #[.int .i64 0, .int .i64 0] 89)) (by kernel_rfl) rfl (by first | exact rfl | trivial) (by simp [go_sem, mkO, hu89, hu28]) (hS.alloc hS.size _) ?_; simp only [Act.put, Array.getInternal_eq_getElem, List.getElem_toArray, List.getElem_cons_succ, List.getElem_cons_zero, List.setIfInBounds_toArray, List.set_cons_succ, List.set_cons_zero]
      replace hS := hS.alloc hS.size (.cells #[.int .i64 0, .int .i64 0] 89)
      refine tr_make ⟨(Op.alloc 89), some 7, 0, false, none⟩ (.pointer (some ⟨W.heap.size + 1 + 1, 0, none⟩)) (((W.drew.alloc (.cells #[.int .i64 0, .int .i64 0] 89)).alloc (.cells #[.int .i64 0, .int .i64 0] 89)).alloc (.cells #[.int .i64 0, .int .i64 0] 89)) (by kernel_rfl) rfl (by first | exact rfl | trivial) (by simp [go_sem, mkO, hu89, hu28]) (hS.alloc hS.size _) ?_; simp only [Act.put, Array.getInternal_eq_getElem, List.getElem_toArray, List.getElem_cons_succ, List.getElem_cons_zero, List.setIfInBounds_toArray, List.set_cons_succ, List.set_cons_zero]
      rw [← hX]
      replace hS := hXb
      have s0 := hx0.cell0
      have s1 := hx0.cell1
      have s2 := hx0.frozen
      refine tr_store ⟨(Op.store 89 (Operand.tmp 5) (Operand.tmp 36)), none, 0, false, none⟩ (put2 X (W.heap.size) x0 y0) (by kernel_rfl) rfl (by first | exact rfl | trivial) (by simp [go_sem, mkO, put2, s0, s1, s2, hu89, hu28]) (hS.put2 (by omega) _ _) ?_; simp only [Act.put, Array.getInternal_eq_getElem, List.getElem_toArray, List.getElem_cons_succ, List.getElem_cons_zero, List.setIfInBounds_toArray, List.set_cons_succ, List.set_cons_zero]
      clear s0 s1 s2
      replace hS := hS.put2 (b := W.heap.size) (by omega) x0 y0
      have k0_0 := hx0.put2 x0 y0
      have k0_1 := hx1.put2_far (b := W.heap.size) (by omega) x0 y0
      have k0_2 := hx2.put2_far (b := W.heap.size) (by omega) x0 y0
      generalize (put2 X (W.heap.size) x0 y0) = Y0 at *
      have s0 := k0_1.cell0
      have s1 := k0_1.cell1
      have s2 := k0_1.frozen
      refine tr_store ⟨(Op.store 89 (Operand.tmp 6) (Operand.tmp 42)), none, 0, false, none⟩ (put2 Y0 (W.heap.size + 1) x1 y1) (by kernel_rfl) rfl (by first | exact rfl | trivial) (by simp [go_sem, mkO, put2, s0, s1, s2, hu89, hu28]) (hS.put2 (by omega) _ _) ?_; simp only [Act.put, Array.getInternal_eq_getElem, List.getElem_toArray, List.getElem_cons_succ, List.getElem_cons_zero, List.setIfInBounds_toArray, List.set_cons_succ, List.set_cons_zero]
      clear s0 s1 s2
      replace hS := hS.put2 (b := W.heap.size + 1) (by omega) x1 y1
      have k1_0 := k0_0.put2_far (b := W.heap.size + 1) (by omega) x1 y1
      have k1_1 := k0_1.put2 x1 y1
      have k1_2 := k0_2.put2_far (b := W.heap.size + 1) (by omega) x1 y1
      generalize (put2 Y0 (W.heap.size + 1) x1 y1) = Y1 at *
      have s0 := k1_2.cell0
      have s1 := k1_2.cell1
      have s2 := k1_2.frozen
      refine tr_store ⟨(Op.store 89 (Operand.tmp 7) (Operand.tmp 48)), none, 0, false, none⟩ (put2 Y1 (W.heap.size + 1 + 1) x2 y2) (by kernel_rfl) rfl (by first | exact rfl | trivial) (by simp [go_sem, mkO, put2, s0, s1, s2, hu89, hu28]) (hS.put2 (by omega) _ _) ?_; simp only [Act.put, Array.getInternal_eq_getElem, List.getElem_toArray, List.getElem_cons_succ, List.getElem_cons_zero, List.setIfInBounds_toArray, List.set_cons_succ, List.set_cons_zero]
      clear s0 s1 s2
      replace hS := hS.put2 (b := W.heap.size + 1 + 1) (by omega) x2 y2
      have k2_0 := k1_0.put2_far (b := W.heap.size + 1 + 1) (by omega) x2 y2
      have k2_1 := k1_1.put2_far (b := W.heap.size + 1 + 1) (by omega) x2 y2
      have k2_2 := k1_2.put2 x2 y2
      generalize (put2 Y1 (W.heap.size + 1 + 1) x2 y2) = Y2 at *
      refine hQn _ _ (Keep.of_below hS) ⟨W.heap.size, W.heap.size + 1, W.heap.size + 1 + 1, hF.below hS, hB.trans (hS.mono hB.size), (hS.block _ hF3.lt).trans hF3, by rw [hp0]; exact k2_0, by rw [hp1]; exact k2_1, by rw [hp2]; exact k2_2, (by simp only [Slots, Fits, and_self])⟩
    · refine tr_make ⟨(Op.alloc 89), some 7, 0, false, none⟩ (.pointer (some ⟨W.heap.size + 1, 0, none⟩)) ((W.drew.alloc (.cells #[.int .i64 0, .int .i64 0] 89)).alloc (.cells #[.int .i64 0, .int .i64 0] 89)) (by kernel_rfl) rfl (by first | exact rfl | trivial) (by simp [go_sem, mkO, hu89, hu28]) (hS.alloc hS.size _) ?_; simp only [Act.put, Array.getInternal_eq_getElem, List.getElem_toArray, List.getElem_cons_succ, List.getElem_cons_zero, List.setIfInBounds_toArray, List.set_cons_succ, List.set_cons_zero]
      replace hS := hS.alloc hS.size (.cells #[.int .i64 0, .int .i64 0] 89)
      refine tr_make ⟨(Op.alloc 89), some 6, 0, false, none⟩ (.pointer (some ⟨W.heap.size + 1 + 1, 0, none⟩)) (((W.drew.alloc (.cells #[.int .i64 0, .int .i64 0] 89)).alloc (.cells #[.int .i64 0, .int .i64 0] 89)).alloc (.cells #[.int .i64 0, .int .i64 0] 89)) (by kernel_rfl) rfl (by first | exact rfl | trivial) (by simp [go_sem, mkO, hu89, hu28]) (hS.alloc hS.size _) ?_; simp only [Act.put, Array.getInternal_eq_getElem, List.getElem_toArray, List.getElem_cons_succ, List.getElem_cons_zero, List.setIfInBounds_toArray, List.set_cons_succ, List.set_cons_zero]
      rw [← hX]
      replace hS := hXb
      have s0 := hx0.cell0
      have s1 := hx0.cell1
      have s2 := hx0.frozen
      refine tr_store ⟨(Op.store 89 (Operand.tmp 5) (Operand.tmp 36)), none, 0, false, none⟩ (put2 X (W.heap.size) x0 y0) (by kernel_rfl) rfl (by first | exact rfl | trivial) (by simp [go_sem, mkO, put2, s0, s1, s2, hu89, hu28]) (hS.put2 (by omega) _ _) ?_; simp only [Act.put, Array.getInternal_eq_getElem, List.getElem_toArray, List.getElem_cons_succ, List.getElem_cons_zero, List.setIfInBounds_toArray, List.set_cons_succ, List.set_cons_zero]
      clear s0 s1 s2
      replace hS := hS.put2 (b := W.heap.size) (by omega) x0 y0
      have k0_0 := hx0.put2 x0 y0
      have k0_1 := hx1.put2_far (b := W.heap.size) (by omega) x0 y0
      have k0_2 := hx2.put2_far (b := W.heap.size) (by omega) x0 y0
      generalize (put2 X (W.heap.size) x0 y0) = Y0 at *
      have s0 := k0_2.cell0
      have s1 := k0_2.cell1
      have s2 := k0_2.frozen
      refine tr_store ⟨(Op.store 89 (Operand.tmp 6) (Operand.tmp 42)), none, 0, false, none⟩ (put2 Y0 (W.heap.size + 1 + 1) x1 y1) (by kernel_rfl) rfl (by first | exact rfl | trivial) (by simp [go_sem, mkO, put2, s0, s1, s2, hu89, hu28]) (hS.put2 (by omega) _ _) ?_; simp only [Act.put, Array.getInternal_eq_getElem, List.getElem_toArray, List.getElem_cons_succ, List.getElem_cons_zero, List.setIfInBounds_toArray, List.set_cons_succ, List.set_cons_zero]
      clear s0 s1 s2
      replace hS := hS.put2 (b := W.heap.size + 1 + 1) (by omega) x1 y1
      have k1_0 := k0_0.put2_far (b := W.heap.size + 1 + 1) (by omega) x1 y1
      have k1_1 := k0_1.put2_far (b := W.heap.size + 1 + 1) (by omega) x1 y1
      have k1_2 := k0_2.put2 x1 y1
      generalize (put2 Y0 (W.heap.size + 1 + 1) x1 y1) = Y1 at *
      have s0 := k1_1.cell0
      have s1 := k1_1.cell1
      have s2 := k1_1.frozen
      refine tr_store ⟨(Op.store 89 (Operand.tmp 7) (Operand.tmp 48)), none, 0, false, none⟩ (put2 Y1 (W.heap.size + 1) x2 y2) (by kernel_rfl) rfl (by first | exact rfl | trivial) (by simp [go_sem, mkO, put2, s0, s1, s2, hu89, hu28]) (hS.put2 (by omega) _ _) ?_; simp only [Act.put, Array.getInternal_eq_getElem, List.getElem_toArray, List.getElem_cons_succ, List.getElem_cons_zero, List.setIfInBounds_toArray, List.set_cons_succ, List.set_cons_zero]
      clear s0 s1 s2
      replace hS := hS.put2 (b := W.heap.size + 1) (by omega) x2 y2
      have k2_0 := k1_0.put2_far (b := W.heap.size + 1) (by omega) x2 y2
      have k2_1 := k1_1.put2 x2 y2
      have k2_2 := k1_2.put2_far (b := W.heap.size + 1) (by omega) x2 y2
      generalize (put2 Y1 (W.heap.size + 1) x2 y2) = Y2 at *
      refine hQn _ _ (Keep.of_below hS) ⟨W.heap.size, W.heap.size + 1 + 1, W.heap.size + 1, hF.below hS, hB.trans (hS.mono hB.size), (hS.block _ hF3.lt).trans hF3, by rw [hp0]; exact k2_0, by rw [hp1]; exact k2_2, by rw [hp2]; exact k2_1, (by simp only [Slots, Fits, and_self])⟩
  · refine tr_make ⟨(Op.alloc 89), some 6, 0, false, none⟩ (.pointer (some ⟨W.heap.size, 0, none⟩)) (W.drew.alloc (.cells #[.int .i64 0, .int .i64 0] 89)) (by kernel_rfl) rfl (by first | exact rfl | trivial) (by simp [go_sem, mkO, hu89, hu28]) (hS.alloc hS.size _) ?_; simp only [Act.put, Array.getInternal_eq_getElem, List.getElem_toArray, List.getElem_cons_succ, List.getElem_cons_zero, List.setIfInBounds_toArray, List.set_cons_succ, List.set_cons_zero]
    replace hS := hS.alloc hS.size (.cells #[.int .i64 0, .int .i64 0] 89)
    refine ⟨?_, ?_⟩
    · refine tr_make ⟨(Op.alloc 89), some 5, 0, false, none⟩ (.pointer (some ⟨W.heap.size + 1, 0, none⟩)) ((W.drew.alloc (.cells #[.int .i64 0, .int .i64 0] 89)).alloc (.cells #[.int .i64 0, .int .i64 0] 89)) (by kernel_rfl) rfl (by first | exact rfl | trivial) (by simp [go_sem, mkO, hu89, hu28]) (hS.alloc hS.size _) ?_; simp only [Act.put, Array.getInternal_eq_getElem, List.getElem_toArray, List.getElem_cons_succ, List.getElem_cons_zero, List.setIfInBounds_toArray, List.set_cons_succ, List.set_cons_zero]
      replace hS := hS.alloc hS.size (.cells #[.int .i64 0, .int .i64 0] 89)
      refine tr_make ⟨(Op.alloc 89), some 7, 0, false, none⟩ (.pointer (some ⟨W.heap.size + 1 + 1, 0, none⟩)) (((W.drew.alloc (.cells #[.int .i64 0, .int .i64 0] 89)).alloc (.cells #[.int .i64 0, .int .i64 0] 89)).alloc (.cells #[.int .i64 0, .int .i64 0] 89)) (by kernel_rfl) rfl (by first | exact rfl | trivial) (by simp [go_sem, mkO, hu89, hu28]) (hS.alloc hS.size _) ?_; simp only [Act.put, Array.getInternal_eq_getElem, List.getElem_toArray, List.getElem_cons_succ, List.getElem_cons_zero, List.setIfInBounds_toArray, List.set_cons_succ, List.set_cons_zero]
      rw [← hX]
      replace hS := hXb
      have s0 := hx1.cell0
      have s1 := hx1.cell1
      have s2 := hx1.frozen
      refine tr_store ⟨(Op.store 89 (Operand.tmp 5) (Operand.tmp 36)), none, 0, false, none⟩ (put2 X (W.heap.size + 1) x0 y0) (by kernel_rfl) rfl (by first | exact rfl | trivial) (by simp [go_sem, mkO, put2, s0, s1, s2, hu89, hu28]) (hS.put2 (by omega) _ _) ?_; simp only [Act.put, Array.getInternal_eq_getElem, List.getElem_toArray, List.getElem_cons_succ, List.getElem_cons_zero, List.setIfInBounds_toArray, List.set_cons_succ, List.set_cons_zero]
      clear s0 s1 s2
      replace hS := hS.put2 (b := W.heap.size + 1) (by omega) x0 y0
      have k0_0 := hx0.put2_far (b := W.heap.size + 1) (by omega) x0 y0
      have k0_1 := hx1.put2 x0 y0
      have k0_2 := hx2.put2_far (b := W.heap.size + 1) (by omega) x0 y0
      generalize (put2 X (W.heap.size + 1) x0 y0) = Y0 at *
      have s0 := k0_0.cell0
      have s1 := k0_0.cell1
      have s2 := k0_0.frozen
      refine tr_store ⟨(Op.store 89 (Operand.tmp 6) (Operand.tmp 42)), none, 0, false, none⟩ (put2 Y0 (W.heap.size) x1 y1) (by kernel_rfl) rfl (by first | exact rfl | trivial) (by simp [go_sem, mkO, put2, s0, s1, s2, hu89, hu28]) (hS.put2 (by omega) _ _) ?_; simp only [Act.put, Array.getInternal_eq_getElem, List.getElem_toArray, List.getElem_cons_succ, List.getElem_cons_zero, List.setIfInBounds_toArray, List.set_cons_succ, List.set_cons_zero]
      clear s0 s1 s2
      replace hS := hS.put2 (b := W.heap.size) (by omega) x1 y1
      have k1_0 := k0_0.put2 x1 y1
      have k1_1 := k0_1.put2_far (b := W.heap.size) (by omega) x1 y1
      have k1_2 := k0_2.put2_far (b := W.heap.size) (by omega) x1 y1
      generalize (put2 Y0 (W.heap.size) x1 y1) = Y1 at *
      have s0 := k1_2.cell0
      have s1 := k1_2.cell1
      have s2 := k1_2.frozen
      refine tr_store ⟨(Op.store 89 (Operand.tmp 7) (Operand.tmp 48)), none, 0, false, none⟩ (put2 Y1 (W.heap.size + 1 + 1) x2 y2) (by kernel_rfl) rfl (by first | exact rfl | trivial) (by simp [go_sem, mkO, put2, s0, s1, s2, hu89, hu28]) (hS.put2 (by omega) _ _) ?_; simp only [Act.put, Array.getInternal_eq_getElem, List.getElem_toArray, List.getElem_cons_succ, List.getElem_cons_zero, List.setIfInBounds_toArray, List.set_cons_succ, List.set_cons_zero]
      clear s0 s1 s2
      replace hS := hS.put2 (b := W.heap.size + 1 + 1) (by omega) x2 y2
      have k2_0 := k1_0.put2_far (b := W.heap.size + 1 + 1) (by omega) x2 y2
      have k2_1 := k1_1.put2_far (b := W.heap.size + 1 + 1) (by omega) x2 y2
      have k2_2 := k1_2.put2 x2 y2
      generalize (put2 Y1 (W.heap.size + 1 + 1) x2 y2) = Y2 at *
      refine hQn _ _ (Keep.of_below hS) ⟨W.heap.size + 1, W.heap.size, W.heap.size + 1 + 1, hF.below hS, hB.trans (hS.mono hB.size), (hS.block _ hF3.lt).trans hF3, by rw [hp0]; exact k2_1, by rw [hp1]; exact k2_0, by rw [hp2]; exact k2_2, (by simp only [Slots, Fits, and_self])⟩
    · refine tr_make ⟨(Op.alloc 89), some 7, 0, false, none⟩ (.pointer (some ⟨W.heap.size + 1, 0, none⟩)) ((W.drew.alloc (.cells #[.int .i64 0, .int .i64 0] 89)).alloc (.cells #[.int .i64 0, .int .i64 0] 89)) (by kernel_rfl) rfl (by first | exact rfl | trivial) (by simp [go_sem, mkO, hu89, hu28]) (hS.alloc hS.size _) ?_; simp only [Act.put, Array.getInternal_eq_getElem, List.getElem_toArray, List.getElem_cons_succ, List.getElem_cons_zero, List.setIfInBounds_toArray, List.set_cons_succ, List.set_cons_zero]
      replace hS := hS.alloc hS.size (.cells #[.int .i64 0, .int .i64 0] 89)
      refine tr_make ⟨(Op.alloc 89), some 5, 0, false, none⟩ (.pointer (some ⟨W.heap.size + 1 + 1, 0, none⟩)) (((W.drew.alloc (.cells #[.int .i64 0, .int .i64 0] 89)).alloc (.cells #[.int .i64 0, .int .i64 0] 89)).alloc (.cells #[.int .i64 0, .int .i64 0] 89)) (by kernel_rfl) rfl (by first | exact rfl | trivial) (by simp [go_sem, mkO, hu89, hu28]) (hS.alloc hS.size _) ?_; simp only [Act.put, Array.getInternal_eq_getElem, List.getElem_toArray, List.getElem_cons_succ, List.getElem_cons_zero, List.setIfInBounds_toArray, List.set_cons_succ, List.set_cons_zero]
      rw [← hX]
      replace hS := hXb
      have s0 := hx2.cell0
      have s1 := hx2.cell1
      have s2 := hx2.frozen
      refine tr_store ⟨(Op.store 89 (Operand.tmp 5) (Operand.tmp 36)), none, 0, false, none⟩ (put2 X (W.heap.size + 1 + 1) x0 y0) (by kernel_rfl) rfl (by first | exact rfl | trivial) (by simp [go_sem, mkO, put2, s0, s1, s2, hu89, hu28]) (hS.put2 (by omega) _ _) ?_; simp only [Act.put, Array.getInternal_eq_getElem, List.getElem_toArray, List.getElem_cons_succ, List.getElem_cons_zero, List.setIfInBounds_toArray, List.set_cons_succ, List.set_cons_zero]
      clear s0 s1 s2
      replace hS := hS.put2 (b := W.heap.size + 1 + 1) (by omega) x0 y0
      have k0_0 := hx0.put2_far (b := W.heap.size + 1 + 1) (by omega) x0 y0
      have k0_1 := hx1.put2_far (b := W.heap.size + 1 + 1) (by omega) x0 y0
      have k0_2 := hx2.put2 x0 y0
      generalize (put2 X (W.heap.size + 1 + 1) x0 y0) = Y0 at *
      have s0 := k0_0.cell0
      have s1 := k0_0.cell1
      have s2 := k0_0.frozen
      refine tr_store ⟨(Op.store 89 (Operand.tmp 6) (Operand.tmp 42)), none, 0, false, none⟩ (put2 Y0 (W.heap.size) x1 y1) (by kernel_rfl) rfl (by first | exact rfl | trivial) (by simp [go_sem, mkO, put2, s0, s1, s2, hu89, hu28]) (hS.put2 (by omega) _ _) ?_; simp only [Act.put, Array.getInternal_eq_getElem, List.getElem_toArray, List.getElem_cons_succ, List.getElem_cons_zero, List.setIfInBounds_toArray, List.set_cons_succ, List.set_cons_zero]
      clear s0 s1 s2
      replace hS := hS.put2 (b := W.heap.size) (by omega) x1 y1
      have k1_0 := k0_0.put2 x1 y1
      have k1_1 := k0_1.put2_far (b := W.heap.size) (by omega) x1 y1
      have k1_2 := k0_2.put2_far (b := W.heap.size) (by omega) x1 y1
      generalize (put2 Y0 (W.heap.size) x1 y1) = Y1 at *
      have s0 := k1_1.cell0
      have s1 := k1_1.cell1
      have s2 := k1_1.frozen
      refine tr_store ⟨(Op.store 89 (Operand.tmp 7) (Operand.tmp 48)), none, 0, false, none⟩ (put2 Y1 (W.heap.size + 1) x2 y2) (by kernel_rfl) rfl (by first | exact rfl | trivial) (by simp [go_sem, mkO, put2, s0, s1, s2, hu89, hu28]) (hS.put2 (by omega) _ _) ?_; simp only [Act.put, Array.getInternal_eq_getElem, List.getElem_toArray, List.getElem_cons_succ, List.getElem_cons_zero, List.setIfInBounds_toArray, List.set_cons_succ, List.set_cons_zero]
      clear s0 s1 s2
      replace hS := hS.put2 (b := W.heap.size + 1) (by omega) x2 y2
      have k2_0 := k1_0.put2_far (b := W.heap.size + 1) (by omega) x2 y2
      have k2_1 := k1_1.put2 x2 y2
      have k2_2 := k1_2.put2_far (b := W.heap.size + 1) (by omega) x2 y2
      generalize (put2 Y1 (W.heap.size + 1) x2 y2) = Y2 at *
      refine hQn _ _ (Keep.of_below hS) ⟨W.heap.size + 1 + 1, W.heap.size, W.heap.size + 1, hF.below hS, hB.trans (hS.mono hB.size), (hS.block _ hF3.lt).trans hF3, by rw [hp0]; exact k2_2, by rw [hp1]; exact k2_0, by rw [hp2]; exact k2_1, (by simp only [Slots, Fits, and_self])⟩
  · refine tr_make ⟨(Op.alloc 89), some 7, 0, false, none⟩ (.pointer (some ⟨W.heap.size, 0, none⟩)) (W.drew.alloc (.cells #[.int .i64 0, .int .i64 0] 89)) (by kernel_rfl) rfl (by first | exact rfl | trivial) (by simp [go_sem, mkO, hu89, hu28]) (hS.alloc hS.size _) ?_; simp only [Act.put, Array.getInternal_eq_getElem, List.getElem_toArray, List.getElem_cons_succ, List.getElem_cons_zero, List.setIfInBounds_toArray, List.set_cons_succ, List.set_cons_zero]
    replace hS := hS.alloc hS.size (.cells #[.int .i64 0, .int .i64 0] 89)
    refine ⟨?_, ?_⟩
    · refine tr_make ⟨(Op.alloc 89), some 5, 0, false, none⟩ (.pointer (some ⟨W.heap.size + 1, 0, none⟩)) ((W.drew.alloc (.cells #[.int .i64 0, .int .i64 0] 89)).alloc (.cells #[.int .i64 0, .int .i64 0] 89)) (by kernel_rfl) rfl (by first | exact rfl | trivial) (by simp [go_sem, mkO, hu89, hu28]) (hS.alloc hS.size _) ?_; simp only [Act.put, Array.getInternal_eq_getElem, List.getElem_toArray, List.getElem_cons_succ, List.getElem_cons_zero, List.setIfInBounds_toArray, List.set_cons_succ, List.set_cons_zero]
      replace hS := hS.alloc hS.size (.cells #[.int .i64 0, .int .i64 0] 89)
      refine tr_make ⟨(Op.alloc 89), some 6, 0, false, none⟩ (.pointer (some ⟨W.heap.size + 1 + 1, 0, none⟩)) (((W.drew.alloc (.cells #[.int .i64 0, .int .i64 0] 89)).alloc (.cells #[.int .i64 0, .int .i64 0] 89)).alloc (.cells #[.int .i64 0, .int .i64 0] 89)) (by kernel_rfl) rfl (by first | exact rfl | trivial) (by simp [go_sem, mkO, hu89, hu28]) (hS.alloc hS.size _) ?_; simp only [Act.put, Array.getInternal_eq_getElem, List.getElem_toArray, List.getElem_cons_succ, List.getElem_cons_zero, List.setIfInBounds_toArray, List.set_cons_succ, List.set_cons_zero]
      rw [← hX]
      replace hS := hXb
      have s0 := hx1.cell0
      have s1 := hx1.cell1
      have s2 := hx1.frozen
      refine tr_store ⟨(Op.store 89 (Operand.tmp 5) (Operand.tmp 36)), none, 0, false, none⟩ (put2 X (W.heap.size + 1) x0 y0) (by kernel_rfl) rfl (by first | exact rfl | trivial) (by simp [go_sem, mkO, put2, s0, s1, s2, hu89, hu28]) (hS.put2 (by omega) _ _) ?_; simp only [Act.put, Array.getInternal_eq_getElem, List.getElem_toArray, List.getElem_cons_succ, List.getElem_cons_zero, List.setIfInBounds_toArray, List.set_cons_succ, List.set_cons_zero]
      clear s0 s1 s2
      replace hS := hS.put2 (b := W.heap.size + 1) (by omega) x0 y0
      have k0_0 := hx0.put2_far (b := W.heap.size + 1) (by omega) x0 y0
      have k0_1 := hx1.put2 x0 y0
      have k0_2 := hx2.put2_far (b := W.heap.size + 1) (by omega) x0 y0
      generalize (put2 X (W.heap.size + 1) x0 y0) = Y0 at *
      have s0 := k0_2.cell0
      have s1 := k0_2.cell1
      have s2 := k0_2.frozen
      refine tr_store ⟨(Op.store 89 (Operand.tmp 6) (Operand.tmp 42)), none, 0, false, none⟩ (put2 Y0 (W.heap.size + 1 + 1) x1 y1) (by kernel_rfl) rfl (by first | exact rfl | trivial) (by simp [go_sem, mkO, put2, s0, s1, s2, hu89, hu28]) (hS.put2 (by omega) _ _) ?_; simp only [Act.put, Array.getInternal_eq_getElem, List.getElem_toArray, List.getElem_cons_succ, List.getElem_cons_zero, List.setIfInBounds_toArray, List.set_cons_succ, List.set_cons_zero]
      clear s0 s1 s2
      replace hS := hS.put2 (b := W.heap.size + 1 + 1) (by omega) x1 y1
      have k1_0 := k0_0.put2_far (b := W.heap.size + 1 + 1) (by omega) x1 y1
      have k1_1 := k0_1.put2_far (b := W.heap.size + 1 + 1) (by omega) x1 y1
      have k1_2 := k0_2.put2 x1 y1
      generalize (put2 Y0 (W.heap.size + 1 + 1) x1 y1) = Y1 at *
      have s0 := k1_0.cell0
      have s1 := k1_0.cell1
      have s2 := k1_0.frozen
      refine tr_store ⟨(Op.store 89 (Operand.tmp 7) (Operand.tmp 48)), none, 0, false, none⟩ (put2 Y1 (W.heap.size) x2 y2) (by kernel_rfl) rfl (by first | exact rfl | trivial) (by simp [go_sem, mkO, put2, s0, s1, s2, hu89, hu28]) (hS.put2 (by omega) _ _) ?_; simp only [Act.put, Array.getInternal_eq_getElem, List.getElem_toArray, List.getElem_cons_succ, List.getElem_cons_zero, List.setIfInBounds_toArray, List.set_cons_succ, List.set_cons_zero]
      clear s0 s1 s2
      replace hS := hS.put2 (b := W.heap.size) (by omega) x2 y2
      have k2_0 := k1_0.put2 x2 y2
      have k2_1 := k1_1.put2_far (b := W.heap.size) (by omega) x2 y2
      have k2_2 := k1_2.put2_far (b := W.heap.size) (by omega) x2 y2
      generalize (put2 Y1 (W.heap.size) x2 y2) = Y2 at *
      refine hQn _ _ (Keep.of_below hS) ⟨W.heap.size + 1, W.heap.size + 1 + 1, W.heap.size, hF.below hS, hB.trans (hS.mono hB.size), (hS.block _ hF3.lt).trans hF3, by rw [hp0]; exact k2_1, by rw [hp1]; exact k2_2, by rw [hp2]; exact k2_0, (by simp only [Slots, Fits, and_self])⟩
    · refine tr_make ⟨(Op.alloc 89), some 6, 0, false, none⟩ (.pointer (some ⟨W.heap.size + 1, 0, none⟩)) ((W.drew.alloc (.cells #[.int .i64 0, .int .i64 0] 89)).alloc (.cells #[.int .i64 0, .int .i64 0] 89)) (by kernel_rfl) rfl (by first | exact rfl | trivial) (by simp [go_sem, mkO, hu89, hu28]) (hS.alloc hS.size _) ?_; simp only [Act.put, Array.getInternal_eq_getElem, List.getElem_toArray, List.getElem_cons_succ, List.getElem_cons_zero, List.setIfInBounds_toArray, List.set_cons_succ, List.set_cons_zero]
      replace hS := hS.alloc hS.size (.cells #[.int .i64 0, .int .i64 0] 89)
      refine tr_make ⟨(Op.alloc 89), some 5, 0, false, none⟩ (.pointer (some ⟨W.heap.size + 1 + 1, 0, none⟩)) (((W.drew.alloc (.cells #[.int .i64 0, .int .i64 0] 89)).alloc (.cells #[.int .i64 0, .int .i64 0] 89)).alloc (.cells #[.int .i64 0, .int .i64 0] 89)) (by kernel_rfl) rfl (by first | exact rfl | trivial) (by simp [go_sem, mkO, hu89, hu28]) (hS.alloc hS.size _) ?_; simp only [Act.put, Array.getInternal_eq_getElem, List.getElem_toArray, List.getElem_cons_succ, List.getElem_cons_zero, List.setIfInBounds_toArray, List.set_cons_succ, List.set_cons_zero]
      rw [← hX]
      replace hS := hXb
      have s0 := hx2.cell0
      have s1 := hx2.cell1
      have s2 := hx2.frozen
      refine tr_store ⟨(Op.store 89 (Operand.tmp 5) (Operand.tmp 36)), none, 0, false, none⟩ (put2 X (W.heap.size + 1 + 1) x0 y0) (by kernel_rfl) rfl (by first | exact rfl | trivial) (by simp [go_sem, mkO, put2, s0, s1, s2, hu89, hu28]) (hS.put2 (by omega) _ _) ?_; simp only [Act.put, Array.getInternal_eq_getElem, List.getElem_toArray, List.getElem_cons_succ, List.getElem_cons_zero, List.setIfInBounds_toArray, List.set_cons_succ, List.set_cons_zero]
      clear s0 s1 s2
      replace hS := hS.put2 (b := W.heap.size + 1 + 1) (by omega) x0 y0
      have k0_0 := hx0.put2_far (b := W.heap.size + 1 + 1) (by omega) x0 y0
      have k0_1 := hx1.put2_far (b := W.heap.size + 1 + 1) (by omega) x0 y0
      have k0_2 := hx2.put2 x0 y0
      generalize (put2 X (W.heap.size + 1 + 1) x0 y0) = Y0 at *
      have s0 := k0_1.cell0
      have s1 := k0_1.cell1
      have s2 := k0_1.frozen
      refine tr_store ⟨(Op.store 89 (Operand.tmp 6) (Operand.tmp 42)), none, 0, false, none⟩ (put2 Y0 (W.heap.size + 1) x1 y1) (by kernel_rfl) rfl (by first | exact rfl | trivial) (by simp [go_sem, mkO, put2, s0, s1, s2, hu89, hu28]) (hS.put2 (by omega) _ _) ?_; simp only [Act.put, Array.getInternal_eq_getElem, List.getElem_toArray, List.getElem_cons_succ, List.getElem_cons_zero, List.setIfInBounds_toArray, List.set_cons_succ, List.set_cons_zero]
      clear s0 s1 s2
      replace hS := hS.put2 (b := W.heap.size + 1) (by omega) x1 y1
      have k1_0 := k0_0.put2_far (b := W.heap.size + 1) (by omega) x1 y1
      have k1_1 := k0_1.put2 x1 y1
      have k1_2 := k0_2.put2_far (b := W.heap.size + 1) (by omega) x1 y1
      generalize (put2 Y0 (W.heap.size + 1) x1 y1) = Y1 at *
      have s0 := k1_0.cell0
      have s1 := k1_0.cell1
      have s2 := k1_0.frozen
      refine tr_store ⟨(Op.store 89 (Operand.tmp 7) (Operand.tmp 48)), none, 0, false, none⟩ (put2 Y1 (W.heap.size) x2 y2) (by kernel_rfl) rfl (by first | exact rfl | trivial) (by simp [go_sem, mkO, put2, s0, s1, s2, hu89, hu28]) (hS.put2 (by omega) _ _) ?_; simp only [Act.put, Array.getInternal_eq_getElem, List.getElem_toArray, List.getElem_cons_succ, List.getElem_cons_zero, List.setIfInBounds_toArray, List.set_cons_succ, List.set_cons_zero]
      clear s0 s1 s2
      replace hS := hS.put2 (b := W.heap.size) (by omega) x2 y2
      have k2_0 := k1_0.put2 x2 y2
      have k2_1 := k1_1.put2_far (b := W.heap.size) (by omega) x2 y2
      have k2_2 := k1_2.put2_far (b := W.heap.size) (by omega) x2 y2
      generalize (put2 Y1 (W.heap.size) x2 y2) = Y2 at *
      refine hQn _ _ (Keep.of_below hS) ⟨W.heap.size + 1 + 1, W.heap.size + 1, W.heap.size, hF.below hS, hB.trans (hS.mono hB.size), (hS.block _ hF3.lt).trans hF3, by rw [hp0]; exact k2_2, by rw [hp1]; exact k2_1, by rw [hp2]; exact k2_0, (by simp only [Slots, Fits, and_self])⟩
set_option maxRecDepth 100000 in
set_option maxHeartbeats 1000000 in
theorem isFurrow_any (F : Fur) (b : Bool) (w : World) (h : F.At w) (hi : F.Is b) : Calls Try.prog 88 #[F.val] w fun e w' => e = .returned (.bool b) ∧ Below w.heap.size w w' := by
  refine calls_of_exec Try.func88 rfl ?_
  simp only [Try.ntmps88, List.size_toArray, List.length_cons, List.length_nil, Nat.reduceAdd, Nat.reduceSub, Array.replicate_succ, Array.replicate_zero, List.push_toArray, List.append_toArray, List.nil_append, List.cons_append]
  simp only [Fur.val]
  refine exec_seq (exec_region_o fun ds => ?_)
  gi_wp2
  refine eq_mk ((Keep.refl w).alloc _) ?_
  show Exec _ _ _ _ _ _
  have b1 := Box3.new w 24 F.s0 F.s1 F.s2
  have hB := (Below.refl w.heap.size w).alloc (Nat.le_refl _) (.cells #[F.s0, F.s1, F.s2] 24)
  generalize w.alloc (.cells #[F.s0, F.s1, F.s2] 24) = V at *
  have hF := h.below hB
  clear h
  unfold Fur.Is at hi
  have c0 := b1.cell0
  have c1 := b1.cell1
  have c2 := b1.cell2
  have hs0 : F.s0 = .slice F.A0 F.l0.length F.c0 := rfl
  have hs1 : F.s1 = .slice F.A1 F.l1.length F.c1 := rfl
  have hs2 : F.s2 = .slice F.A2 F.l2.length F.c2 := rfl
  rw [hs0] at c0
  rw [hs1] at c1
  rw [hs2] at c2
  clear hs0 hs1 hs2
  refine exec_seq (exec_region_o fun ds => ?_)
  gi_wp2
  refine eq_mk (Keep.refl _) ?_
  show Exec _ _ _ _ _ _
  have fin : ∀ (v : Bool) (t : Array Value) (W W' : World), t[2]? = some (.bool v) → v = b → Below w.heap.size w W → Grow w.heap.size W W' → ∃ u, (results Try.f88 t).run Try.prog W' = .ok u W' ∧ Ending.returned u = .returned (.bool b) ∧ Below w.heap.size w W' := by
    intro v t W W' ht hv hW hG
    subst hv
    exact ⟨.bool v, by simp [results, Try.f88, go_sem, ht], rfl, hW.trans (hG.below (Nat.le_refl _) hW.size)⟩
  have fin2 : ∀ (v : Bool) (t : Array Value) (W W' : World), t[2]? = some (.bool v) → v = b → Below w.heap.size w W → Grow w.heap.size W W' → ∃ u, (results Try.f88 t).run Try.prog W' = .ok u W' ∧ u = .bool b ∧ Below w.heap.size w W' := by
    intro v t W W' ht hv hW hG
    obtain ⟨u, h1, h2, h3⟩ := fin v t W W' ht hv hW hG
    exact ⟨u, h1, by injection h2, h3⟩
  by_cases g8 : F.l0.length ≤ 8
  case neg =>
    have q1 : decide ((F.l0.length : Int) > 8) = true := decide_eq_true (by omega)
    have q2 : (8 : Int) < F.l0.length := by omega
    have hv0 : false = b := by rw [← hi]; unfold valid; rw [decide_eq_false g8]; rfl
    have hv := Lib.hid hv0
    clear hv0
    clear hi
    refine exec_seq (exec_seq (exec_region_o fun ds => ?_))
    gi_wp2
    refine eq_mk (Keep.refl _) ?_
    show Exec _ _ _ _ _ _
    refine exec_cond (b := true) rfl (fun _ => ?_) (fun h => by cases h)
    refine exec_seq (exec_region_o fun ds => ?_)
    gi_wp2
    refine eq_mk (Keep.refl _) ?_
    show Exec _ _ _ _ _ _
    exact exec_ret ⟨.inr rfl, fun W' hG => by first | exact fin false _ _ _ rfl hv.out hB hG | exact fin2 false _ _ _ rfl hv.out hB hG⟩
  have q1 : decide ((F.l0.length : Int) > 8) = false := decide_eq_false (by omega)
  have q2 : (F.l0.length : Int) ≤ 8 := by omega
  refine exec_seq (exec_cut (fun t W => W = V ∧ Slots [none, some (.pointer (some ⟨w.heap.size, 0, none⟩)), none, some (.int .i64 F.l0.length), none, none, none, none, none, none, none, none, none, none, none, none, none, none, none, none, none, none, none, none, none, none, some (.bool (!(decide (F.l1.length = F.l0.length) && decide (F.l2.length = F.l0.length)))), none, none, none, none, none, none, none, none, none, none, none, none, none, none, none, none, none, none, none, none, none, none, none, none, none, none, none, none, none, none, none, none, none, none, none, none, none, none, none, none, none, none, none, none] t) (exec_region_o fun ds => ?_) ?_)
  · by_cases g1 : F.l1.length = F.l0.length
    · have r1 : ((F.l1.length : Int) != (F.l0.length : Int)) = false := by simp [g1]
      have r2 : decide (F.l1.length = F.l0.length) = true := decide_eq_true g1
      have r3 : ((F.l2.length : Int) != (F.l0.length : Int)) = !decide (F.l2.length = F.l0.length) := by by_cases g2 : F.l2.length = F.l0.length <;> simp [g2] <;> omega
      clear g1
      gi_wp2
      exact eq_mk (Keep.refl _) ⟨rfl, by simp [Slots, Fits, r3]⟩
    · have r1 : ((F.l1.length : Int) != (F.l0.length : Int)) = true := by simp; omega
      have r2 : decide (F.l1.length = F.l0.length) = false := decide_eq_false g1
      clear g1
      gi_wp2
      exact eq_mk (Keep.refl _) ⟨rfl, by simp [Slots, Fits]⟩
  rintro t W ⟨rfl, hSl⟩
  obtain ⟨x, hx⟩ := Slots.open_ hSl; simp only [fill, Nat.reduceAdd] at hx; subst hx; clear hSl
  clear c0 c1 c2
  by_cases g12 : F.l1.length = F.l0.length ∧ F.l2.length = F.l0.length
  case neg =>
    have hv0 : false = b := by
      rw [← hi]
      unfold valid
      rcases Classical.not_and_iff_not_or_not.1 g12 with g | g
      · rw [decide_eq_false g]; simp
      · rw [decide_eq_false g]; simp
    have hd : (!(decide (F.l1.length = F.l0.length) && decide (F.l2.length = F.l0.length))) = true := by
      rcases Classical.not_and_iff_not_or_not.1 g12 with g | g
      · rw [decide_eq_false g]; simp
      · rw [decide_eq_false g]; simp
    have hv := Lib.hid hv0
    clear hv0
    rw [hd]
    clear hi hd
    refine exec_cond (b := true) rfl (fun _ => ?_) (fun h => by cases h)
    refine exec_seq (exec_region_o fun ds => ?_)
    gi_wp2
    refine eq_mk (Keep.refl _) ?_
    show Exec _ _ _ _ _ _
    exact exec_ret ⟨.inr rfl, fun W' hG => by first | exact fin false _ _ _ rfl hv.out hB hG | exact fin2 false _ _ _ rfl hv.out hB hG⟩
  obtain ⟨g1, g2⟩ := g12
  have hd : (!(decide (F.l1.length = F.l0.length) && decide (F.l2.length = F.l0.length))) = false := by rw [decide_eq_true g1, decide_eq_true g2]; rfl
  rw [hd]
  have hi2 : valid F.l0 F.l1 F.l2 = stsOk F.l0 F.l1 F.l2 0 F.l0.length := by unfold valid; rw [decide_eq_true g8, decide_eq_true g1, decide_eq_true g2]; rfl
  have HI := Lib.hid hi
  have HI2 := Lib.hid hi2
  clear hi hi2 hd q1
  refine exec_cond (b := false) rfl (fun h => by cases h) (fun _ => exec_skip ?_)
  show Exec _ _ _ _ _ _
  refine exec_seq (exec_seq (exec_region_o fun ds => ?_))
  gi_wp2
  refine eq_mk (Keep.refl _) ?_
  show Exec _ _ _ _ _ _
  refine exec_block ?_
  refine exec_loop (IfI F w) F.l0.length ⟨0, by omega, by omega, hF, hB, b1, HI2.out, by simp [Slots, Fits]⟩ ?_
  clear hF hB b1
  clear W
  rintro j t W ⟨k, hk, rfl, hF, hB, hb3, hst, hSl⟩
  obtain ⟨x, hx⟩ := Slots.open_ hSl; simp only [fill, Nat.reduceAdd] at hx; subst hx; clear hSl
  have HST := Lib.hid hst
  clear hst
  refine exec_seq (exec_region_o fun ds => ?_)
  gi_wp2
  refine eq_mk (Keep.refl _) ?_
  show Exec _ _ _ _ _ _
  refine exec_seq (exec_cond (b := decide (k < F.l0.length)) rfl (fun hp => exec_skip ?_) (fun hp => exec_exit ?_))
  · have hkl : k < F.l0.length := of_decide_eq_true hp
    have hsk : stsOk F.l0 F.l1 F.l2 k (F.l0.length - k) = (stOk (rd_T28 F.l0 k) (rd_T28 F.l1 k) (rd_T28 F.l2 k) && stsOk F.l0 F.l1 F.l2 (k + 1) (F.l0.length - (k + 1))) := by
      obtain ⟨d, hd⟩ : ∃ d, F.l0.length - k = d + 1 := ⟨F.l0.length - k - 1, by omega⟩
      rw [hd, show F.l0.length - (k + 1) = d by omega]
      rfl
    have HSK := Lib.hid hsk
    clear hsk hp
    show Exec _ _ _ _ _ _
    refine exec_cut (fun t W => F.At W ∧ Below w.heap.size w W ∧ Box3 W w.heap.size 24 F.s0 F.s1 F.s2 ∧ stOk (rd_T28 F.l0 k) (rd_T28 F.l1 k) (rd_T28 F.l2 k) = true ∧ Slots [none, some (.pointer (some ⟨w.heap.size, 0, none⟩)), none, none, none, none, none, none, none, none, none, none, none, none, none, none, none, none, none, none, none, none, none, none, none, none, none, some (.int .i64 F.l0.length), some (.int .i64 k), none, none, none, none, none, none, none, none, none, none, none, none, none, none, none, none, none, none, none, none, none, none, none, none, none, none, none, none, none, none, none, none, none, none, none, none, none, none, none, none, none, none] t) (exec_block (exec_seq (exec_region_o fun ds => ?_))) ?after
    case after =>
      clear hF hB hb3
      clear W
      rintro t W ⟨hF, hB, hb3, hok, hSl⟩
      obtain ⟨x, hx⟩ := Slots.open_ hSl; simp only [fill, Nat.reduceAdd] at hx; subst hx; clear hSl
      refine exec_region_o fun ds => ?_
      gi_wp2
      refine eq_mk (Keep.refl _) ⟨F.l0.length - (k + 1), by omega, k + 1, by omega, rfl, hF, hB, hb3, by rw [HST.out, HSK.out, hok]; rfl, by simp [Slots, Fits]⟩
    gi_wp2
    refine eq_mk (Keep.refl _) ?_
    show Exec _ _ _ _ _ _
    refine exec_seq ((isF_spans hF hB hb3 hkl (by omega) (by omega) _ (by simp only [Slots, Fits, and_self])).mono ?_)
    clear hF hB hb3
    clear W
    rintro e t W h
    cases e <;> first | exact h.elim | skip
    obtain ⟨b5, b6, b7, hF, hB, hb3, h5, h6, h7, hSl⟩ := h
    show Exec _ _ _ _ _ _
    obtain ⟨x, hx⟩ := Slots.open_ hSl; simp only [fill, Nat.reduceAdd] at hx; subst hx; clear hSl
    have bad : stOk (rd_T28 F.l0 k) (rd_T28 F.l1 k) (rd_T28 F.l2 k) = false → false = b := fun hf => by rw [← HI.out, HST.out, HSK.out, hf]; rfl
    generalize rd_T28 F.l0 k = p0 at *
    generalize rd_T28 F.l1 k = p1 at *
    generalize rd_T28 F.l2 k = p2 at *
    obtain ⟨r0, hr0⟩ : ∃ r, decide (-12 ≤ p0.f0 ∧ p0.f0 ≤ p0.f1 ∧ p0.f1 ≤ 12) = r := ⟨_, rfl⟩
    obtain ⟨s0, hs0⟩ : ∃ r, decide (p0.f1 - p0.f0 ≤ 6) = r := ⟨_, rfl⟩
    obtain ⟨r1, hr1⟩ : ∃ r, decide (1 ≤ p1.f0 ∧ p1.f0 ≤ p1.f1 ∧ p1.f1 ≤ 60) = r := ⟨_, rfl⟩
    obtain ⟨r2, hr2⟩ : ∃ r, decide (0 ≤ p2.f0 ∧ p2.f0 ≤ p2.f1 ∧ p2.f1 ≤ 40) = r := ⟨_, rfl⟩
    have key : stOk p0 p1 p2 = (r0 && s0 && r1 && r2) := by unfold stOk; rw [hr0, hs0, hr1, hr2]
    have w0 := fun W => furrow_span_within.calls p0.f0 p0.f1 (-12) 12 r0 W (by rw [within_is, hr0])
    have w1 := fun W => furrow_span_within.calls p1.f0 p1.f1 1 60 r1 W (by rw [within_is, hr1])
    have w2 := fun W => furrow_span_within.calls p2.f0 p2.f1 0 40 r2 W (by rw [within_is, hr2])
    clear hr1 hr2
    rw [key] at bad
    have KEY := Lib.hid key
    have HR0 := Lib.hid hr0
    have HS0 := Lib.hid hs0
    clear key hr0 hs0
    have BAD := Lib.hid bad
    clear bad
    have e50 := h5.cell0
    have e51 := h5.cell1
    obtain ⟨x0, y0⟩ := p0
    obtain ⟨x1, y1⟩ := p1
    obtain ⟨x2, y2⟩ := p2
    simp only at e50 e51 w0 w1 w2 h5 h6 h7
    cases r0 with
    | false =>
      refine exec_seq (exec_seq (exec_region_o fun ds => ?_))
      gi_wp2_with fail
      refine ⟨trivial, rfl, (callsIn_wide.2 (w0 W)).mono ?_⟩
      rintro e W1 ⟨rfl, hw1⟩
      gi_wp2
      refine eq_mk (Keep.of_below hw1) ?_
      show Exec _ _ _ _ _ _
      refine exec_cond (b := true) rfl (fun _ => ?_) (fun h => by cases h)
      refine exec_seq (exec_region_o fun ds => ?_)
      gi_wp2
      refine eq_mk (Keep.refl _) ?_
      show Exec _ _ _ _ _ _
      exact exec_ret ⟨.inr rfl, fun W' hG => by first | exact fin false _ _ _ rfl (BAD.out rfl) (hB.trans (hw1.mono hB.size)) hG | exact fin2 false _ _ _ rfl (BAD.out rfl) (hB.trans (hw1.mono hB.size)) hG⟩
    | true =>
    obtain ⟨i1, i2, i3⟩ := of_decide_eq_true HR0.out
    simp only at i1 i2 i3
    have g5 : decide (y0 - x0 > 6) = !s0 := by rw [← HS0.out]; by_cases h : y0 - x0 ≤ 6 <;> simp [h] <;> omega
    have G5 := Lib.hid g5
    clear g5
    refine exec_seq (exec_cut (fun t W => F.At W ∧ Below w.heap.size w W ∧ Box3 W w.heap.size 24 F.s0 F.s1 F.s2 ∧ Box2 W b6 89 x1 y1 ∧ Box2 W b7 89 x2 y2 ∧ Slots [none, some (.pointer (some ⟨w.heap.size, 0, none⟩)), none, none, none, none, some (.pointer (some ⟨b6, 0, none⟩)), some (.pointer (some ⟨b7, 0, none⟩)), none, none, none, none, none, none, none, none, none, none, none, none, none, none, none, none, none, none, none, some (.int .i64 F.l0.length), some (.int .i64 k), none, none, none, none, none, none, none, none, none, none, none, none, none, none, none, none, none, none, none, none, none, none, none, none, none, none, none, none, none, none, none, none, some (.bool (!s0)), none, none, none, none, none, none, none, none, none] t) (exec_region_o fun ds => ?_) ?_)
    · gi_wp2_with fail
      refine ⟨trivial, rfl, (callsIn_wide.2 (w0 W)).mono ?_⟩
      rintro e W1 ⟨rfl, hw1⟩
      have f50 := (hw1.cell h5.lt).trans h5.cell0
      have f51 := (hw1.cell h5.lt).trans h5.cell1
      have hK := Keep.of_below hw1
      have q1 := hF.below hw1
      have q2 := hB.trans (hw1.mono hB.size)
      have q3 : Box3 W1 w.heap.size 24 F.s0 F.s1 F.s2 := (hw1.block _ hb3.lt).trans hb3
      have q4 : Box2 W1 b6 89 x1 y1 := (hw1.block _ h6.lt).trans h6
      have q5 : Box2 W1 b7 89 x2 y2 := (hw1.block _ h7.lt).trans h7
      clear hw1 hF hB hb3 h5 h6 h7 e50 e51 w0 w1 w2
      (try simp only at f50 f51)
      gi_wp2
      all_goals
        have g5 := G5.out
        refine eq_mk hK ⟨q1, q2, q3, q4, q5, ?_⟩
        simp [Slots, Fits, ← g5]
        try omega
    clear h5 h6 h7 hF hB hb3 e50 e51
    clear W
    rintro t W ⟨hF, hB, hb3, h6, h7, hSl⟩
    obtain ⟨x, hx⟩ := Slots.open_ hSl; simp only [fill, Nat.reduceAdd] at hx; subst hx; clear hSl
    cases s0 with
    | false =>
      refine exec_cond (b := true) rfl (fun _ => ?_) (fun h => by cases h)
      refine exec_seq (exec_region_o fun ds => ?_)
      gi_wp2
      refine eq_mk (Keep.refl _) ?_
      show Exec _ _ _ _ _ _
      exact exec_ret ⟨.inr rfl, fun W' hG => by first | exact fin false _ _ _ rfl (BAD.out rfl) hB hG | exact fin2 false _ _ _ rfl (BAD.out rfl) hB hG⟩
    | true =>
    refine exec_cond (b := false) rfl (fun h => by cases h) (fun _ => exec_skip ?_)
    show Exec _ _ _ _ _ _
    have e60 := h6.cell0
    have e61 := h6.cell1
    cases r1 with
    | false =>
      refine exec_seq (exec_region_o fun ds => ?_)
      gi_wp2_with fail
      refine ⟨trivial, rfl, (callsIn_wide.2 (w1 W)).mono ?_⟩
      rintro e W1 ⟨rfl, hw1⟩
      gi_wp2_with fail
      refine ⟨trivial, ?_⟩
      gi_wp2
      refine eq_mk (Keep.of_below hw1) ?_
      show Exec _ _ _ _ _ _
      refine exec_cond (b := true) rfl (fun _ => ?_) (fun h => by cases h)
      refine exec_seq (exec_region_o fun ds => ?_)
      gi_wp2
      refine eq_mk (Keep.refl _) ?_
      show Exec _ _ _ _ _ _
      exact exec_ret ⟨.inr rfl, fun W' hG => by first | exact fin false _ _ _ rfl (BAD.out rfl) (hB.trans (hw1.mono hB.size)) hG | exact fin2 false _ _ _ rfl (BAD.out rfl) (hB.trans (hw1.mono hB.size)) hG⟩
    | true =>
    refine exec_seq (exec_region_o fun ds => ?_)
    gi_wp2_with fail
    refine ⟨trivial, rfl, (callsIn_wide.2 (w1 W)).mono ?_⟩
    rintro e W1 ⟨rfl, hw1⟩
    have e70 := (hw1.cell h7.lt).trans h7.cell0
    have e71 := (hw1.cell h7.lt).trans h7.cell1
    gi_wp2_with fail
    refine ⟨trivial, rfl, (callsIn_wide.2 (w2 W1)).mono ?_⟩
    rintro e W2 ⟨rfl, hw2⟩
    have hw12 := hw1.trans (hw2.mono hw1.size)
    have hK := Keep.of_below hw12
    have q1 := hF.below hw12
    have q2 := hB.trans (hw12.mono hB.size)
    have q3 : Box3 W2 w.heap.size 24 F.s0 F.s1 F.s2 := (hw12.block _ hb3.lt).trans hb3
    clear hw1 hw2 hw12 hF hB hb3 h6 h7 e60 e61 e70 e71 w0 w1 w2
    gi_wp2
    refine eq_mk hK ?_
    show Exec _ _ _ _ _ _
    cases r2 with
    | false =>
      refine exec_cond (b := true) (by simp [ev, go_sem, Act.eval]) (fun _ => ?_) (fun h => by cases h)
      refine exec_seq (exec_region_o fun ds => ?_)
      gi_wp2
      refine eq_mk (Keep.refl _) ?_
      show Exec _ _ _ _ _ _
      exact exec_ret ⟨.inr rfl, fun W' hG => by first | exact fin false _ _ _ rfl (BAD.out rfl) q2 hG | exact fin2 false _ _ _ rfl (BAD.out rfl) q2 hG⟩
    | true =>
      refine exec_cond (b := false) (by simp [ev, go_sem, Act.eval]) (fun h => by cases h) (fun _ => exec_skip ?_)
      exact ⟨q1, q2, q3, KEY.out, by simp [Slots, Fits]⟩
  · have hkl : k = F.l0.length := by have := of_decide_eq_false hp; omega
    subst hkl
    have hv0 : true = b := by rw [← HI.out, HST.out, Nat.sub_self]; rfl
    have hv := Lib.hid hv0
    clear hv0
    show Exec _ _ _ _ _ _
    refine exec_seq (exec_region_o fun ds => ?_)
    gi_wp2
    refine eq_mk (Keep.refl _) ?_
    show Exec _ _ _ _ _ _
    exact exec_ret ⟨.inr rfl, fun W' hG => by first | exact fin true _ _ _ rfl hv.out hB hG | exact fin2 true _ _ _ rfl hv.out hB hG⟩
end Go.Proofs.Ytafmgmaelnpehaa
end

section
set_option linter.unusedVariables false
set_option linter.unusedSimpArgs false
namespace Go.Proofs.Ytafmgmaelnpehaa
open Go.RowKit Go.TL Go.Shelf Go.Fu
attribute [local go_sem] Oper.semAt_some
open PFurrowAsks
theorem isInner_any (F : Fur) (n : Int) (w : World) (h : F.At w) (hl : F.l0.length ≤ 1000) : Calls Try.prog 53 #[F.val, .int .i64 n] w fun e w' => e = .returned (.bool (decide (0 < n ∧ n + 1 < F.l0.length))) ∧ Below w.heap.size w w' := by
  refine furrow_isInner.calls F.A0 F.c0 F.l0 F.A1 F.c1 F.l1 F.A2 F.c2 F.l2 n _ w h.r0 h.h0 h.r1 h.h1 h.r2 h.h2 ?_
  unfold furrow_isInner.f
  have e : wrap64 ((F.l0.length : Int) - 1) = F.l0.length - 1 := by rw [← IntWalk.i64_left]; exact IntWalk.i64_in _ (by omega)
  rw [e]
  by_cases h1 : 0 < n
  · rw [if_pos h1]
    congr 1
    simp only [h1, true_and]
    apply decide_eq_decide.2
    omega
  · rw [if_neg h1]
    simp [h1]
def toP (x : S28) : Int × Int := (x.f0, x.f1)
def flat : List (Int × Int) → List Value
  | [] => []
  | x :: l => .int .i64 x.1 :: .int .i64 x.2 :: flat l
theorem flat_app (a b : List (Int × Int)) : flat (a ++ b) = flat a ++ flat b := by
  induction a with
  | nil => rfl
  | cons x a ih => show _ :: _ :: flat (a ++ b) = _ :: _ :: (flat a ++ flat b); rw [ih]
theorem flat_len (a : List (Int × Int)) : (flat a).length = a.length * 2 := by
  induction a with
  | nil => rfl
  | cons x a ih => show (flat a).length + 1 + 1 = _; rw [ih]; simp; omega
theorem flat_get : ∀ (a : List (Int × Int)) (i : Nat) (h : i < a.length), (flat a)[i * 2]? = some (.int .i64 (a[i]'h).1) ∧ (flat a)[i * 2 + 1]? = some (.int .i64 (a[i]'h).2)
  | x :: a, 0, _ => ⟨rfl, rfl⟩
  | x :: a, i + 1, h => by
    have := flat_get a i (by simpa using h)
    rw [show (i + 1) * 2 = i * 2 + 1 + 1 by omega]
    exact this
theorem spans_own {w : World} {base : Nat} {v : Value} {e : TypeId} {l : List (Int × Int)} (h : w.ownsRow base e 2 v l.length (flat l)) : ∃ A c, v = .slice A l.length c ∧ l.length ≤ c ∧ Spans w A l ∧ ∀ a, A = some a → base ≤ a.block := by
  rcases h.2 with ⟨rfl, h0⟩ | ⟨g, cap, cur, rfl, hb, hh, hn, hm, hs, ht⟩
  · exact ⟨none, 0, by rw [h0], by omega, .inl (List.length_eq_zero_iff.1 h0), fun a h => by cases h⟩
  · refine ⟨_, _, rfl, hn, .inr ⟨g, 0, rfl, fun i hi => ?_⟩, fun a h => by cases h; exact hb⟩
    have e1 := h.cellAt (i * 2) (by omega)
    have e2 := h.cellAt (i * 2 + 1) (by omega)
    rw [(flat_get l i hi).1] at e1
    rw [(flat_get l i hi).2] at e2
    rw [Nat.zero_add]
    exact ⟨e1, e2⟩
theorem cell_pair_new (W : World) (t : TypeId) (a b : Value) : ∀ j u, [a, b][j]? = some u → (W.alloc (.cells #[a, b] t)).cell? ((⟨W.heap.size, 0, none⟩ : Addr).add j) = some u := by
  intro j u hj
  have hn : (W.alloc (.cells #[a, b] t)).heap[W.heap.size]? = some (.cells #[a, b] t) := World.alloc_heap_new W _
  match j, hj with
  | 0, hj => simp at hj; subst hj; show (W.alloc _).cell? ⟨W.heap.size, 0, none⟩ = _; unfold World.cell?; simp only [hn]; rfl
  | 1, hj => simp at hj; subst hj; show (W.alloc _).cell? ⟨W.heap.size, 0 + 1, none⟩ = _; unfold World.cell?; simp only [hn]; rfl
  | j + 2, hj => simp at hj
theorem info89 : (Try.prog.info? 89).map (fun i => (i.zero, i.size, i.bytes)) = some (some (.agg #[(.int .i64 0), (.int .i64 0)]), 2, 16) := by kernel_rfl

set_option maxRecDepth 100000 in
set_option maxHeartbeats 2000000 in
theorem open_yes (F : Fur) (w : World) (h : F.At w) (hi : F.Is true) (hl : F.l0.length ≤ 8) : Calls Try.prog 47 #[F.val, .bool true] w fun e w' => ∃ A c, e = .returned (.slice A F.l0.length c) ∧ F.l0.length ≤ c ∧ Spans w' A (F.l0.map toP) ∧ Below w.heap.size w w' ∧ ∀ a, A = some a → w.heap.size ≤ a.block := by
  refine calls_of_exec Try.func47 rfl ?_
  simp only [Try.ntmps47, List.size_toArray, List.length_cons, List.length_nil, Nat.reduceAdd, Nat.reduceSub, Array.replicate_succ, Array.replicate_zero, List.push_toArray, List.append_toArray, List.nil_append, List.cons_append]
  simp only [Fur.val]
  refine exec_seq (exec_region_o fun ds => ?_)
  gi_wp2
  refine eq_mk ((Keep.refl w).alloc _) ?_
  show Exec _ _ _ _ _ _
  have hB := (Below.refl w.heap.size w).alloc (Nat.le_refl _) (.cells #[F.s0, F.s1, F.s2] 24)
  have hX := Box3.new w 24 F.s0 F.s1 F.s2
  have hF := h.grow (Grow.alloc 0 w (.cells #[F.s0, F.s1, F.s2] 24))
  have hlt := hX.lt
  generalize w.alloc (.cells #[F.s0, F.s1, F.s2] 24) = W at *
  have k0 := hX.cell0
  have k1 := hX.cell1
  have k2 := hX.cell2
  refine exec_seq (exec_region_o fun ds => ?_)
  gi_wp2_with fail
  refine ⟨trivial, rfl, (callsIn_wide.2 (isFurrow_any F true W hF hi)).mono ?_⟩
  rintro e W1 ⟨rfl, hw1⟩
  gi_wp2_with fail
  refine ⟨trivial, rfl, (callsIn_wide.2 (need_yes 1 W1)).mono ?_⟩
  rintro e W2 ⟨rfl, rfl⟩
  gi_wp2_with fail
  refine eq_mk (Keep.of_below hw1) ?_
  show Exec _ _ _ _ _ _
  have hX' := hX.grow (Grow.of_below (B := 0) hw1)
  have hF' := hF.below hw1
  have hB' := hB.trans (hw1.mono hB.size)
  clear k0 k1 k2 hX hF hB hlt hw1
  clear W
  have k0 := hX'.cell0
  refine exec_seq (exec_region_o fun ds => ?_)
  gi_wp2_with fail
  refine ⟨trivial, rfl, (callsIn_wide.2 (need_yes 2 W1)).mono ?_⟩
  rintro e W2 ⟨rfl, rfl⟩
  gi_wp2_with fail
  refine eq_mk (Keep.refl _) ?_
  show Exec _ _ _ _ _ _
  refine exec_seq (exec_region_o fun ds => ?_)
  gi_wp2
  refine eq_mk (Keep.refl _) ?_
  show Exec _ _ _ _ _ _
  simp only [Fur.s0] at k0
  refine exec_seq (exec_seq (exec_region_o fun ds => ?_))
  gi_wp2
  refine eq_mk (Keep.refl _) ?_
  show Exec _ _ _ _ _ _
  obtain ⟨pl, hpl⟩ : ∃ pl, F.l0.map toP = pl := ⟨_, rfl⟩
  have hpn : pl.length = F.l0.length := by rw [← hpl]; simp
  rw [hpl]
  refine exec_block ?_
  refine exec_loop (fun j t W => ∃ k v, k ≤ F.l0.length ∧ j = F.l0.length - k ∧ Below w.heap.size w W ∧ F.At W ∧ W.ownsRow w.heap.size 89 2 v k (flat (pl.take k)) ∧ Slots [none, none, none, none, none, some (v), none, none, none, none, none, none, none, none, some (.slice F.A0 F.l0.length F.c0), some (.int .i64 F.l0.length), some (.int .i64 k), none, none, none, none, none, none, none, none, none, none] t) F.l0.length
    ⟨0, _, by omega, by omega, hB', hF', World.ownsRow_nil _ _ _ _, ⟨rfl, rfl, rfl, rfl, trivial⟩⟩ ?_
  clear k0 hX' hF' hB'
  clear W1
  rintro j t W ⟨k, v, hk, hj, hB, hF, hown, hSl⟩
  obtain ⟨x, hx⟩ := Slots.open_ hSl; simp only [fill, Nat.reduceAdd] at hx; subst hx; clear hSl
  refine exec_seq (exec_region_o fun ds => ?_)
  gi_wp2
  refine eq_mk (Keep.refl _) ?_
  show Exec _ _ _ _ _ _
  refine exec_seq (exec_cond (b := decide (k < F.l0.length)) rfl (fun hp => ?_) (fun hp => ?_))
  · have hkl : k < F.l0.length := of_decide_eq_true hp
    refine exec_skip ?_
    show Exec _ _ _ _ _ _
    obtain ⟨ad, hA, hc0, hc1⟩ := at_T28 hF.r0 (k : Int) (by omega) (by omega)
    have hrd : rd_T28 F.l0 (k : Int) = F.l0[k]'hkl := by simp [rd_T28, hkl]
    rw [hrd] at hc0 hc1
    simp only [Int.toNat_natCast] at hc0 hc1
    have hpk : pl.take (k + 1) = pl.take k ++ [toP (F.l0[k]'hkl)] := by
      rw [List.take_succ_eq_append_getElem (by omega)]
      subst hpl
      simp
    generalize F.l0[k]'hkl = y at *
    obtain ⟨y0, y1⟩ := y
    simp only at hc0 hc1
    have hkI : (k : Int) < F.l0.length := by omega
    rw [hA]
    refine exec_seq (exec_block (exec_seq (exec_region_o fun ds => ?_)))
    gi_wp2
    refine eq_mk ((Keep.refl _).alloc _) ?_
    show Exec _ _ _ _ _ _
    have hown' := hown.alloc (.cells #[.int .i64 y0, .int .i64 y1] 28)
    have hF' := hF.grow (Grow.alloc 0 W (.cells #[.int .i64 y0, .int .i64 y1] 28))
    have hB' := hB.alloc hB.size (.cells #[.int .i64 y0, .int .i64 y1] 28)
    have hX := Box2.new W 28 y0 y1
    clear hown hF hB hc0 hc1
    generalize W.alloc (.cells #[.int .i64 y0, .int .i64 y1] 28) = W1 at *
    have k0 := hX.cell0
    have k1 := hX.cell1
    generalize W.heap.size = b7 at *
    clear W
    obtain ⟨i0, hi0, hz⟩ : ∃ i0, Try.prog.info? 89 = some i0 ∧ (i0.zero, i0.size, i0.bytes) = (some (.agg #[(.int .i64 0), (.int .i64 0)]), 2, 16) := by
      have := info89
      cases h : Try.prog.info? 89 with
      | none => rw [h] at this; cases this
      | some i0 => rw [h] at this; exact ⟨i0, rfl, Option.some.inj this⟩
    simp only [Prod.mk.injEq] at hz
    obtain ⟨hz0, hz1, hz2⟩ := hz
    have hsB := hB'.size
    refine exec_region_o fun ds => ?_
    gi_wp2_with (gi_at_builtin; refine wpListIn_append_own _ rfl _ _ 79 rfl w.heap.size 89 i0 (.agg #[.int .i64 0, .int .i64 0]) 2 16 Try.underlying79 hi0 hz0 hz1 hz2 rfl (by decide) v k (flat (pl.take k)) rfl (hown'.alloc _) ⟨W1.heap.size, 0, none⟩ 1 1 [.int .i64 y0, .int .i64 y1] rfl rfl (cell_pair_new _ _ _ _) (by simp [Value.oneCell']) (by unfold maxLen; omega) (by omega) (by simp; omega) ?_; intro v' w' hown2 hgr _)
    have hbk : ∀ j o, v.ownBlock = some j → (W1.alloc (.cells #[.int .i64 y0, .int .i64 y1] 89)).heap[j]? = some o → book o = false := by
      intro j o hv ho
      rcases (hown'.alloc (.cells #[.int .i64 y0, .int .i64 y1] 89)).2 with ⟨rfl, _⟩ | ⟨g', cap', cur, rfl, _, hg', _⟩
      · simp [Value.ownBlock] at hv
      · simp only [Value.ownBlock, Option.some.injEq] at hv
        subst hv
        rw [hg'] at ho
        cases ho
        rfl
    have hB3 : Below w.heap.size w w' := (hB'.alloc hsB (.cells #[.int .i64 y0, .int .i64 y1] 89)).grown hgr (by simp; omega) (fun q e => (hown'.lt q e).1)
    refine eq_mk (((Keep.refl _).alloc _).grown hgr hbk) ?_
    show Exec _ _ _ _ _ _
    have hown3 : w'.ownsRow w.heap.size 89 2 v' (k + 1) (flat (pl.take (k + 1))) := by
      rw [hpk, flat_app]
      exact hown2
    clear hown2 hgr hbk hown' hB' hX k0 k1 hsB
    refine exec_region_o fun ds => ?_
    gi_wp2
    refine eq_mk (Keep.refl _) ⟨j - 1, by omega, k + 1, v', by omega, by omega, hB3, h.below hB3, hown3, ⟨rfl, by first | rfl | rw [hA], rfl, by simp, trivial⟩⟩
  · have hkl : k = F.l0.length := by have := of_decide_eq_false hp; omega
    subst hkl
    refine exec_exit ?_
    show Exec _ _ _ _ _ _
    rw [List.take_of_length_le (by omega)] at hown
    rw [← hpn] at hown
    obtain ⟨A, c, rfl, hc, hsp, hbase⟩ := spans_own hown
    refine exec_seq (exec_region_o fun ds => ?_)
    gi_wp2
    refine eq_mk (Keep.refl _) ?_
    refine exec_ret ⟨.inr rfl, fun W' hG => ⟨.slice A pl.length c, by simp [results, Try.f47, go_sem], A, c, by rw [hpn], by omega, hsp.grow hG, hB.trans (hG.below (Nat.le_refl _) hB.size), hbase⟩⟩
/-- The package's own panic. -/
def misfit (e : Int) : List PanicEntry := [{ v := .iface 132 (.agg #[.int .i64 e]), recovered := false }]
set_option maxRecDepth 100000 in
theorem open_no1 (F : Fur) (is : Bool) (w : World) (h : F.At w) (hi : F.Is false) : Calls Try.prog 47 #[F.val, .bool is] w fun e w' => e = .panicked (misfit 1) ∧ Below w.heap.size w w' := by
  have hX := Box3.new w 24 F.s0 F.s1 F.s2
  have hF := h.grow (Grow.alloc 0 w (.cells #[F.s0, F.s1, F.s2] 24))
  have hB := (Below.refl w.heap.size w).alloc (Nat.le_refl _) (.cells #[F.s0, F.s1, F.s2] 24)
  have k0 := hX.cell0
  have k1 := hX.cell1
  have k2 := hX.cell2
  simp only [Fur.val]
  go_enter Try.func47, Try.ntmps47
  go_wp2_with fail
  refine (isFurrow_any F false _ hF hi).mono ?_
  rintro e W1 ⟨rfl, hw1⟩
  go_wp2_with fail
  refine (need_no 1 W1).mono ?_
  rintro e W2 ⟨rfl, rfl⟩
  exact ⟨rfl, rfl, hB.trans (hw1.mono hB.size)⟩
set_option maxRecDepth 100000 in
theorem open_no2 (F : Fur) (w : World) (h : F.At w) (hi : F.Is true) : Calls Try.prog 47 #[F.val, .bool false] w fun e w' => e = .panicked (misfit 2) ∧ Below w.heap.size w w' := by
  have hX := Box3.new w 24 F.s0 F.s1 F.s2
  have hF := h.grow (Grow.alloc 0 w (.cells #[F.s0, F.s1, F.s2] 24))
  have hB := (Below.refl w.heap.size w).alloc (Nat.le_refl _) (.cells #[F.s0, F.s1, F.s2] 24)
  have k0 := hX.cell0
  have k1 := hX.cell1
  have k2 := hX.cell2
  simp only [Fur.val]
  go_enter Try.func47, Try.ntmps47
  go_wp2_with fail
  refine (isFurrow_any F true _ hF hi).mono ?_
  rintro e W1 ⟨rfl, hw1⟩
  go_wp2_with fail
  refine (need_yes 1 W1).mono ?_
  rintro e W2 ⟨rfl, rfl⟩
  go_wp2_with fail
  refine (need_no 2 W1).mono ?_
  rintro e W2 ⟨rfl, rfl⟩
  exact ⟨rfl, rfl, hB.trans (hw1.mono hB.size)⟩
end Go.Proofs.Ytafmgmaelnpehaa
end

section
set_option linter.unusedVariables false
set_option linter.unusedSimpArgs false
namespace Go.Proofs.Ytafmgmaelnpehaa
open Go.RowKit Go.TL Go.Shelf Go.Fu
attribute [local go_sem] Oper.semAt_some
theorem laidOut : laidOutB Try.prog = true := by kernel_rfl
theorem keyed137 : Go.Maps.Keyed Try.prog 137 := Go.Maps.Keyed.of_law (deep_law_laid (m := 9) laidOut (by decide) (of_decide_eq_true (by kernel_rfl)) (by kernel_rfl) (by kernel_rfl))
theorem key137 (a b : Int) (ha : (Lit.int .i64 a).wf = true) (hb : (Lit.int .i64 b).wf = true) : ∃ l, keyOf Try.prog 137 (.agg #[.int .i64 a, .int .i64 b]) = some l := by
  have h1 : Try.prog.keyType 137 = true := by kernel_rfl
  have h2 : Try.prog.cellsOf 137 = 2 := by kernel_rfl
  have h3 : Try.prog.cellsOf 135 = 2 := by kernel_rfl
  have h4 : Try.prog.cellsOf 3 = 1 := by kernel_rfl
  obtain ⟨n, hn⟩ : ∃ n, Try.prog.types.size = n + 2 := ⟨Try.prog.types.size - 2, by have : 2 ≤ Try.prog.types.size := of_decide_eq_true (by kernel_rfl); omega⟩
  have u3 : Try.prog.underlying 3 = some (.int .i64) := Try.underlying3
  simp [keyOf, Try.underlying137, h1, h2, Value.formed, hn, Value.cells]
  simp [Program.keyLits, Try.underlying137, Try.underlying135, u3, h2, h3, h4, ha, hb, List.range, List.range.loop]
def encP (x : Int × Int) : Value := .agg #[.int .i64 x.1, .int .i64 x.2]
def okP (x : Int × Int) : Prop := (-1000 ≤ x.1 ∧ x.1 ≤ 1000) ∧ (-1000 ≤ x.2 ∧ x.2 ≤ 1000)
theorem keyP : KeyEnc Try.prog 137 encP okP where
  keyed := keyed137
  lit x h := key137 _ _ (WalkArith.wf_i64 (by have := h.1; omega)) (WalkArith.wf_i64 (by have := h.2; omega))
  inj x y h := by
    unfold encP at h
    simp at h
    exact Prod.ext h.1 h.2
/-- A map of pairs to true: the set of its keys. -/
def SetR (W : World) (b : Nat) (ks : List (Int × Int)) : Prop := MapR encP okP W b (ks.map fun x => (x, .bool true))
theorem put_set (ks : List (Int × Int)) (x : Int × Int) : put (ks.map fun x => (x, Value.bool true)) x (.bool true) = (ins ks x).map fun x => (x, .bool true) := by
  have e : (ks.map fun x => (x, Value.bool true)).map (·.1) = ks := by rw [List.map_map]; exact List.map_id'' (fun _ => rfl) ks
  unfold put ins
  rw [e]
  split
  · rw [List.map_map]
    refine List.map_congr_left fun y _ => ?_
    simp only [Function.comp]
    split
    · rename_i h; rw [← h]
    · rfl
  · simp
theorem at_set (ks : List (Int × Int)) (x : Int × Int) : (at? (ks.map fun x => (x, Value.bool true)) x).getD (.bool false) = .bool (decide (x ∈ ks)) := by
  have e : (ks.map fun x => (x, Value.bool true)).map (·.1) = ks := by rw [List.map_map]; exact List.map_id'' (fun _ => rfl) ks
  by_cases h : x ∈ ks
  · unfold at?
    cases hf : (ks.map fun x => (x, Value.bool true)).find? (fun p => decide (p.1 = x)) with
    | none =>
      have := List.find?_eq_none.1 hf (x, .bool true) (List.mem_map.2 ⟨x, h, rfl⟩)
      simp at this
    | some q =>
      obtain ⟨y, _, rfl⟩ := List.mem_map.1 (List.mem_of_find?_eq_some hf)
      simp [h]
  · rw [at_none (by rw [e]; exact h)]
    simp [h]

/-- A list's elements are just those of which P is so. -/
def KeysAre (ks : List (Int × Int)) (P : Int × Int → Prop) : Prop := ∀ x, x ∈ ks ↔ P x

/-- What a rule may be: a function value that says, of a station and a bend, what p says. -/
structure May (g : FuncId) (cap : Array Value) (p : Int → Int → Bool) (w0 : World) : Prop where
  ent : ∀ args w, (callFunc g args).run Try.prog w = .ok (.enter g args) w
  calls : ∀ (s b : Int) (W : World), 0 ≤ s → s ≤ 100 → 0 ≤ b → b ≤ 10000 → Below w0.heap.size w0 W →
    Calls Try.prog g (#[.int .i64 s, .int .i64 b] ++ cap) W fun e W' => e = .returned (.bool (p s b)) ∧ Below W.heap.size W W'

/-- The boxes of 'can'. -/
structure CanB (B0 : Nat) (A : Option Addr) (n c : Nat) (r : Value) (w W : World) : Prop where
  f : Boxed W B0 79 (.slice A n c)
  r : Boxed W (B0 + 1) 94 r
  below : Below B0 w W
theorem CanB.grow {B B0 : Nat} {A : Option Addr} {n c : Nat} {r : Value} {w W W' : World} (h1 : CanB B0 A n c r w W) (hg : Grow B W W') (h : B0 ≤ B) (hw : B0 ≤ w.heap.size) : CanB B0 A n c r w W' :=
  ⟨hg.boxed h1.f, hg.boxed h1.r, h1.below.trans (hg.below h (Nat.le_trans hw h1.below.size))⟩
theorem CanB.stab {B B0 : Nat} {A : Option Addr} {n c : Nat} {r : Value} {w : World} (h : B0 ≤ B) (hw : B0 ≤ w.heap.size) : Stab B (fun W => CanB B0 A n c r w W) := fun _ _ h1 hg => h1.grow hg h hw

theorem CanB.kept {B0 b : Nat} {A : Option Addr} {n c : Nat} {r : Value} {w W W' : World} (h1 : CanB B0 A n c r w W) (hg : W.grownBy W' (some b)) (h : B0 + 1 < b) (hw : B0 ≤ w.heap.size) : CanB B0 A n c r w W' :=
  ⟨h1.f.kept hg (by simp; omega), h1.r.kept hg (by simp; omega), h1.below.grown hg (Nat.le_trans hw h1.below.size) (fun k e => by cases e; omega)⟩
theorem box2_kept {W W' : World} {b B : Nat} {t : TypeId} {x y : Int} (h : Box2 W B t x y) (hg : W.grownBy W' (some b)) (hne : B ≠ b) : Box2 W' B t x y := (hg.block B h.lt (by simp [hne])).trans h
theorem keep_map {w W W' : World} {b : Nat} {ks : List (Int × Int)} (h : Keep w W) (hs : SetR W b ks) (hg : W.grownBy W' (some b)) : Keep w W' := h.grown hg fun j o e ho => by
  cases e
  obtain ⟨es, c, hm, _⟩ := hs
  rw [hm] at ho
  cases ho
  rfl
theorem SetR.same {W W' : World} {b : Nat} {ks : List (Int × Int)} (h : SetR W b ks) (hb : W'.heap[b]? = W.heap[b]?) : SetR W' b ks := MapR.kept h hb
theorem SetR.lt {W : World} {b : Nat} {ks : List (Int × Int)} (h : SetR W b ks) : b < W.heap.size := MapR.lt h
theorem SetR.grow {B : Nat} {W W' : World} {b : Nat} {ks : List (Int × Int)} (h : SetR W b ks) (hg : Grow B W W') : SetR W' b ks := MapR.grow h hg
theorem Stab.setR (B b : Nat) (ks : List (Int × Int)) : Stab B (fun W => SetR W b ks) := fun _ _ h hg => SetR.grow h hg

end Go.Proofs.Ytafmgmaelnpehaa
end

section
set_option linter.unusedVariables false
set_option linter.unusedSimpArgs false
namespace Go.Proofs.Ytafmgmaelnpehaa
open Go.RowKit Go.TL Go.Shelf Go.Fu
attribute [local go_sem] Oper.semAt_some

/-- A list's elements are those of another one, and one more if c is so. -/
def InsIf (kx' kx : List (Int × Int)) (y0 : Int × Int) (c : Prop) : Prop := ∀ y, y ∈ kx' ↔ y ∈ kx ∨ (y = y0 ∧ c)
/-- The boxes of can's great loop, within a round over the pairs. -/
structure LoopW (B0 : Nat) (A : Option Addr) (n c : Nat) (r : Value) (w : World) (bN bS b8 bX it : Nat) (st : Nat) (ks rem : List (Int × Int)) (W : World) : Prop where
  can : CanB B0 A n c r w W
  now : Boxed W (bN + 1) 141 (.map (some bS))
  set : SetR W bS ks
  cnt : Boxed W b8 3 (.int .i64 st)
  nxt : Boxed W (bX + 1) 141 (.map (some bX))
  iter : IterR encP W it bS (rem.map fun x => (x, .bool true))
  o1 : B0 + 1 < bN
  o2 : bN + 1 < b8
  o3 : bS < bX
  o4 : b8 < bX
  o5 : bX + 1 < it
theorem LoopW.grow {B : Nat} {B0 : Nat} {A : Option Addr} {n c : Nat} {r : Value} {w : World} {bN bS b8 bX it : Nat} {st : Nat} {ks rem : List (Int × Int)} {W W' : World} (h : LoopW B0 A n c r w bN bS b8 bX it st ks rem W) (hg : Grow B W W') (hB : B0 ≤ B) (hw : B0 ≤ w.heap.size) : LoopW B0 A n c r w bN bS b8 bX it st ks rem W' :=
  ⟨h.can.grow hg hB hw, hg.boxed h.now, h.set.grow hg, hg.boxed h.cnt, hg.boxed h.nxt, h.iter.grow hg, h.o1, h.o2, h.o3, h.o4, h.o5⟩
theorem LoopW.kept {B0 : Nat} {A : Option Addr} {n c : Nat} {r : Value} {w : World} {bN bS b8 bX it : Nat} {st : Nat} {ks rem : List (Int × Int)} {W W' : World} (h : LoopW B0 A n c r w bN bS b8 bX it st ks rem W) (hg : W.grownBy W' (some bX)) (hw : B0 ≤ w.heap.size) : LoopW B0 A n c r w bN bS b8 bX it st ks rem W' := by
  obtain ⟨h1, h2, h3, h4, h5, h6, o1, o2, o3, o4, o5⟩ := h
  have l3 := h3.lt
  have li : it < W.heap.size := by
    obtain ⟨_, _, _, _, _, _, hi, _⟩ := h6
    exact (Array.getElem?_eq_some_iff.1 hi).1
  exact ⟨h1.kept hg (by omega) hw, h2.kept hg (by simp; omega), h3.same (hg.block bS l3 (by simp; omega)), h4.kept hg (by simp; omega), h5.kept hg (by simp), h6.kept (hg.block bS l3 (by simp; omega)) (hg.block it li (by simp; omega)), o1, o2, o3, o4, o5⟩

theorem below_drew (V : World) : Below V.heap.size V V.drew := ⟨rfl, rfl, rfl, Nat.le_refl _, fun _ _ => rfl⟩
set_option maxRecDepth 100000 in
set_option maxHeartbeats 2000000 in
theorem can_round {A : Option Addr} {n c : Nat} {w : World} {bN bS b8 bX it b10 : Nat} {st : Nat} {ks rem kx : List (Int × Int)} {gm : FuncId} {cap : Array Value} {p : Int → Int → Bool} (hm : May gm cap p w)
    {V : World} (h : LoopW w.heap.size A n c (.func (.func gm) #[] cap) w bN bS b8 bX it st ks rem V) (h2 : 2 ≤ st) (h100 : st ≤ 100) {a b o : Int} (hx : SetR V bX kx) (h10 : Box2 V b10 137 a b)
    (ha : -1000 ≤ a ∧ a ≤ 1000) (hb : -1000 ≤ b ∧ b ≤ 1000) (ho : -1000 ≤ o ∧ o ≤ 1000) (l1 : Nat) (t : Array Value)
    (hF : Slots [none, none, some (.pointer (some ⟨w.heap.size, 0, none⟩)), some (.pointer (some ⟨w.heap.size + 1, 0, none⟩)), none, none, none, none, some (.pointer (some ⟨b8, 0, none⟩)), some (.pointer (some ⟨bX + 1, 0, none⟩)), some (.pointer (some ⟨b10, 0, none⟩)), some (.int .i64 o), none, none, none, none, none, none, none, none, none, none, none, none, none, none, none, none, none, none, none, none, none, none, none, none, none, none, none, none, none, none, none, none, none, none, none, none, none, none, none, none, none, none, none, none, none, none, none, none, none, none, none, none, none, none, none, none, none, none, none, none, none, none, none, none, none, none, none, none, none] t) :
    Exec Try.prog (some l1) (sub (Try.f58.body.getD .skip) [1,1,1,1,0,1,0,0, 1,0,0,1,0,1,0,0, 1,1,0,1,0,1,1,0,1]) t V fun e _ W' => e = .normal ∧ ∃ kx', SetR W' bX kx' ∧ InsIf kx' kx (b, o) (p ((st : Int) - 1) (bendI a b o) = true) ∧
      LoopW w.heap.size A n c (.func (.func gm) #[] cap) w bN bS b8 bX it st ks rem W' ∧ Box2 W' b10 137 a b ∧ (∀ k, k < V.heap.size → k ≠ bX → W'.heap[k]? = V.heap[k]?) := by
  obtain ⟨x, hx⟩ := Slots.open_ hF; simp only [fill, Nat.reduceAdd] at hx; subst hx; clear hF
  refine exec_block ?_
  refine exec_seq (exec_seq ?_)
  refine region_of_quiet (by kernel_rfl) (by kernel_rfl) (by kernel_rfl) (fun W' => Below V.heap.size V W') (below_drew V) fun ds => ?_
  have c9 : ∀ W', Below V.heap.size V W' → W'.cell? ⟨bX + 1, 0, none⟩ = some (.map (some bX)) := fun W' hw => (hw.cell h.nxt.lt).trans h.nxt.cell
  have c10 : ∀ W', Below V.heap.size V W' → W'.cell? ⟨b10, 0, none⟩ = some (.int .i64 a) ∧ W'.cell? ⟨b10, 1, none⟩ = some (.int .i64 b) := fun W' hw => ⟨(hw.cell h10.lt).trans h10.cell0, (hw.cell h10.lt).trans h10.cell1⟩
  have c8 : ∀ W', Below V.heap.size V W' → W'.cell? ⟨b8, 0, none⟩ = some (.int .i64 st) := fun W' hw => (hw.cell h.cnt.lt).trans h.cnt.cell
  have c3 : ∀ W', Below V.heap.size V W' → W'.cell? ⟨w.heap.size + 1, 0, none⟩ = some (.func (.func gm) #[] cap) := fun W' hw => (hw.cell h.can.r.lt).trans h.can.r.cell
  have cX : ∀ W', Below V.heap.size V W' → SetR W' bX kx := fun W' hw => hx.same (hw.block _ hx.lt)
  refine BigFrame.wpQuiet_want rfl (fun K hK => quiet_val (.map (some bX)) (fun wq hq => ?_) (hK _ ?_)); (focus (first | rfl | (simp [go_sem, c9 wq hq]; done))); clear hK K; simp only [Act.put, List.setIfInBounds_toArray, List.set_cons_succ, List.set_cons_zero]
  refine BigFrame.wpQuiet_want rfl (fun K hK => quiet_val (.pointer (some ⟨b10, 0, none⟩)) (fun wq hq => ?_) (hK _ ?_)); (focus (first | rfl | (simp [go_sem, (c10 wq hq).1]; done))); clear hK K; simp only [Act.put, List.setIfInBounds_toArray, List.set_cons_succ, List.set_cons_zero]
  refine BigFrame.wpQuiet_want rfl (fun K hK => quiet_val (.pointer (some ⟨b10, 1, none⟩)) (fun wq hq => ?_) (hK _ ?_)); (focus (first | rfl | (simp [go_sem, (c10 wq hq).1]; done))); clear hK K; simp only [Act.put, List.setIfInBounds_toArray, List.set_cons_succ, List.set_cons_zero]
  refine BigFrame.wpQuiet_want rfl (fun K hK => quiet_val (.int .i64 b) (fun wq hq => ?_) (hK _ ?_)); (focus (first | rfl | (simp [go_sem, (c10 wq hq).2]; done))); clear hK K; simp only [Act.put, List.setIfInBounds_toArray, List.set_cons_succ, List.set_cons_zero]
  refine BigFrame.wpQuiet_want rfl (fun K hK => quiet_val (.int .i64 o) (fun wq hq => ?_) (hK _ ?_)); (focus (first | rfl | (simp [go_sem]; done))); clear hK K; simp only [Act.put, List.setIfInBounds_toArray, List.set_cons_succ, List.set_cons_zero]
  refine BigFrame.wpQuiet_want rfl (fun K hK => quiet_val (.agg #[.int .i64 b, .int .i64 o]) (fun wq hq => ?_) (hK _ ?_)); (focus (first | rfl | (simp [go_sem]; done))); clear hK K; simp only [Act.put, List.setIfInBounds_toArray, List.set_cons_succ, List.set_cons_zero]
  refine BigFrame.wpQuiet_want rfl (fun K hK => quiet_val (.agg #[.int .i64 b, .int .i64 o]) (fun wq hq => ?_) (hK _ ?_)); (focus (first | rfl | (simp [go_sem]; done))); clear hK K; simp only [Act.put, List.setIfInBounds_toArray, List.set_cons_succ, List.set_cons_zero]
  have hlook : ∀ W', Below V.heap.size V W' → (Instr.lookup 141 (.map (some bX)) (.agg #[.int .i64 b, .int .i64 o]) false).run Try.prog W' = .ok (.bool (decide ((b, o) ∈ kx))) W' := fun W' hw => by
    have := (MapR.lookup (P := Try.prog) (cX W' hw) keyP Try.underlying141 (z := .bool false) (e := 4) rfl (x := (b, o)) ⟨hb, ho⟩ false)
    rw [at_set] at this
    exact this
  refine BigFrame.wpQuiet_want rfl (fun K hK => quiet_val (.bool (decide ((b, o) ∈ kx))) (fun wq hq => ?_) (hK _ ?_)); (focus (first | rfl | (simp [go_sem, hlook wq hq]; done))); clear hK K; simp only [Act.put, List.setIfInBounds_toArray, List.set_cons_succ, List.set_cons_zero]
  have hbd := bendI_bd a b o ha hb ho
  have hs0 := h.can.below.size
  have hgm : ∀ W', Below V.heap.size V W' → Calls Try.prog gm (#[.int .i64 ((st : Int) - 1), .int .i64 (bendI a b o)] ++ cap) W' fun e w'' => e = .returned (.bool (p ((st : Int) - 1) (bendI a b o))) ∧ Below V.heap.size V w'' := fun W' hq =>
    (hm.calls _ _ W' (by omega) (by omega) hbd.1 (by omega) (h.can.below.trans (hq.mono (by omega)))).mono fun e w'' ⟨he, hw'⟩ => ⟨he, hq.trans (hw'.mono hq.size)⟩
  by_cases hin : (b, o) ∈ kx
  · simp only [hin, decide_true]
    refine BigFrame.wpQuiet_want rfl (fun K hK => quiet_val (.bool true) (fun wq hq => ?_) (hK _ ?_)); (focus (first | rfl | (simp [go_sem]; done))); clear hK K; simp only [Act.put, List.setIfInBounds_toArray, List.set_cons_succ, List.set_cons_zero]
    go_big_quiet_skip
    go_big_quiet_skip
    go_big_quiet_skip
    go_big_quiet_skip
    go_big_quiet_skip
    go_big_quiet_skip
    go_big_quiet_skip
    go_big_quiet_skip
    go_big_quiet_skip
    refine BigFrame.wpQuiet_want rfl (fun K hK => quiet_val (.bool true) (fun wq hq => ?_) (hK _ ?_)); (focus (first | rfl | (simp [go_sem]; done))); clear hK K; simp only [Act.put, List.setIfInBounds_toArray, List.set_cons_succ, List.set_cons_zero]
    refine wpQuiet_nil ⟨rfl, fun W' hW' => ⟨Keep.of_below hW', ?_⟩⟩
    refine exec_cond (b := true) rfl (fun _ => ?_) (fun h => by cases h)
    refine exec_exit ?_
    refine ⟨rfl, kx, cX W' hW', fun y => ⟨.inl, ?_⟩, h.grow (Grow.of_below (B := V.heap.size) hW') (by have := h.can.below.size; omega) (by omega), (hW'.block b10 h10.lt).trans h10, fun k hk _ => hW'.block k hk⟩
    rintro (hy | ⟨rfl, _⟩)
    · exact hy
    · exact hin
  · simp only [hin, decide_false]
    refine BigFrame.wpQuiet_want rfl (fun K hK => quiet_val (.bool false) (fun wq hq => ?_) (hK _ ?_)); (focus (first | rfl | (simp [go_sem]; done))); clear hK K; simp only [Act.put, List.setIfInBounds_toArray, List.set_cons_succ, List.set_cons_zero]
    refine BigFrame.wpQuiet_want rfl (fun K hK => quiet_val (.pointer (some ⟨w.heap.size + 1, 0, none⟩)) (fun wq hq => ?_) (hK _ ?_)); (focus (first | rfl | (simp [go_sem, c3 wq hq]; done))); clear hK K; simp only [Act.put, List.setIfInBounds_toArray, List.set_cons_succ, List.set_cons_zero]
    refine BigFrame.wpQuiet_want rfl (fun K hK => quiet_val (.func (.func gm) #[] cap) (fun wq hq => ?_) (hK _ ?_)); (focus (first | rfl | (simp [go_sem, c3 wq hq]; done))); clear hK K; simp only [Act.put, List.setIfInBounds_toArray, List.set_cons_succ, List.set_cons_zero]
    refine BigFrame.wpQuiet_want rfl (fun K hK => quiet_val (.int .i64 st) (fun wq hq => ?_) (hK _ ?_)); (focus (first | rfl | (simp [go_sem, c8 wq hq]; done))); clear hK K; simp only [Act.put, List.setIfInBounds_toArray, List.set_cons_succ, List.set_cons_zero]
    refine BigFrame.wpQuiet_want rfl (fun K hK => quiet_val (.int .i64 ((st : Int) - 1)) (fun wq hq => ?_) (hK _ ?_)); (focus (first | rfl | (simp [go_sem, IntWalk.i64_in _ (show -9223372036854775808 ≤ (st : Int) - 1 ∧ (st : Int) - 1 ≤ 9223372036854775807 by omega)]; done))); clear hK K; simp only [Act.put, List.setIfInBounds_toArray, List.set_cons_succ, List.set_cons_zero]
    refine BigFrame.wpQuiet_want rfl (fun K hK => quiet_val (.agg #[.int .i64 a, .int .i64 b]) (fun wq hq => ?_) (hK _ ?_)); (focus (first | rfl | (simp [go_sem, (c10 wq hq).1, (c10 wq hq).2]; done))); clear hK K; simp only [Act.put, List.setIfInBounds_toArray, List.set_cons_succ, List.set_cons_zero]
    refine BigFrame.wpQuiet_want rfl (fun K hK => quiet_val (.int .i64 o) (fun wq hq => ?_) (hK _ ?_)); (focus (first | rfl | (simp [go_sem]; done))); clear hK K; simp only [Act.put, List.setIfInBounds_toArray, List.set_cons_succ, List.set_cons_zero]
    refine BigFrame.wpQuiet_want rfl (fun K hK => quiet_call (.int .i64 (bendI a b o)) (f := 89) (args := #[.agg #[.int .i64 a, .int .i64 b], .int .i64 o]) (fun wq hq => ?_) (fun wq hq => ?_) (hK _ ?_)); (focus (simp [go_sem, enters_of Try.func89 (by kernel_rfl) rfl]; done)); exact (bend_any a b o wq ha hb ho).mono (fun e W' ⟨he, hw'⟩ => ⟨he, hw'.symm ▸ hq.alloc hq.size _⟩); clear hK K; simp only [Act.put, List.setIfInBounds_toArray, List.set_cons_succ, List.set_cons_zero]
    refine BigFrame.wpQuiet_want rfl (fun K hK => quiet_call (.bool (p ((st : Int) - 1) (bendI a b o))) (f := gm) (args := #[.int .i64 ((st : Int) - 1), .int .i64 (bendI a b o)] ++ cap) (fun wq hq => ?_) (fun wq hq => ?_) (hK _ ?_)); (focus (simp [go_sem, hm.ent]; done)); exact hgm wq hq; clear hK K; simp only [Act.put, List.setIfInBounds_toArray, List.set_cons_succ, List.set_cons_zero]
    refine BigFrame.wpQuiet_want rfl (fun K hK => quiet_val (.bool (!p ((st : Int) - 1) (bendI a b o))) (fun wq hq => ?_) (hK _ ?_)); (focus (first | rfl | (simp [go_sem]; done))); clear hK K; simp only [Act.put, List.setIfInBounds_toArray, List.set_cons_succ, List.set_cons_zero]
    refine BigFrame.wpQuiet_want rfl (fun K hK => quiet_val (.bool (!p ((st : Int) - 1) (bendI a b o))) (fun wq hq => ?_) (hK _ ?_)); (focus (first | rfl | (simp [go_sem]; done))); clear hK K; simp only [Act.put, List.setIfInBounds_toArray, List.set_cons_succ, List.set_cons_zero]
    refine wpQuiet_nil ⟨rfl, fun W' hW' => ⟨Keep.of_below hW', ?_⟩⟩
    have h' := h.grow (Grow.of_below (B := V.heap.size) hW') (by omega) (by omega)
    have hx' := cX W' hW'
    have h10' : Box2 W' b10 137 a b := (hW'.block b10 h10.lt).trans h10
    refine exec_cond (b := !p ((st : Int) - 1) (bendI a b o)) rfl (fun hp => ?_) (fun hp => ?_)
    · refine exec_exit ?_
      refine ⟨rfl, kx, hx', fun y => ⟨.inl, ?_⟩, h', h10', fun k hk _ => hW'.block k hk⟩
      rintro (hy | ⟨rfl, hp'⟩)
      · exact hy
      · rw [hp'] at hp
        cases hp
    · have hp' : p ((st : Int) - 1) (bendI a b o) = true := by simpa using hp
      clear c9 c10 c8 c3 hlook hgm
      refine exec_skip ?_
      show Exec _ _ _ _ _ _
      have d9 := h'.nxt.cell
      have d0 := h10'.cell0
      have d1 := h10'.cell1
      refine exec_region_r fun ds => ?_
      gi_wp2_with (gi_at_mapUpdate; refine walk_mapUpdate rfl rfl rfl hx' keyP Try.underlying141 (y := (b, o)) ⟨hb, ho⟩ rfl (u := .bool true) rfl ?_; intro W2 hu hgr)
      rw [put_set] at hu
      refine eq_mk (keep_map (Keep.refl _) hx' hgr) ?_
      refine ⟨rfl, ins kx (b, o), hu, fun y => ?_, h'.kept hgr (by omega), box2_kept h10' hgr ?_, fun k hk hne => (hgr.block k (Nat.lt_of_lt_of_le hk hW'.size) (by simp; exact hne)).trans (hW'.block k hk)⟩
      · rw [mem_ins]
        constructor
        · rintro (h | rfl)
          · exact .inl h
          · exact .inr ⟨rfl, by first | exact hp' | trivial⟩
        · rintro (h | ⟨h, _⟩)
          · exact .inl h
          · exact .inr h
      · intro e
        rw [e] at h10'
        obtain ⟨es, cl, hm', _⟩ := hx'
        rw [show W'.heap[bX]? = _ from h10'] at hm'
        cases hm'
end Go.Proofs.Ytafmgmaelnpehaa
end

section
set_option linter.unusedVariables false
set_option linter.unusedSimpArgs false
namespace Go.Proofs.Ytafmgmaelnpehaa
open Go.RowKit Go.TL Go.Shelf Go.Fu
attribute [local go_sem] Oper.semAt_some


/-- Which pairs the pairs of ks lead to. -/
def PairsTo (ks : List (Int × Int)) (sn : Int × Int) (p : Int → Int → Bool) (st : Nat) (y : Int × Int) : Prop := ∃ a, (a, y.1) ∈ ks ∧ y.2 ∈ spanL sn ∧ p ((st : Int) - 1) (bendI a y.1 y.2) = true
def AllOf (ks dn rem : List (Int × Int)) : Prop := ∀ x, x ∈ ks ↔ x ∈ dn ∨ x ∈ rem
def Okay (ks : List (Int × Int)) : Prop := ∀ x ∈ ks, okP x

set_option maxRecDepth 100000 in
def PairsI (g off n c : Nat) (w : World) (bN bS b8 bX it st : Nat) (ks : List (Int × Int)) (gm : FuncId) (cap : Array Value) (p : Int → Int → Bool) (sn : Int × Int) (m : Nat) (t : Array Value) (W : World) : Prop :=
  ∃ rem dn kx, rem.length = m ∧ AllOf ks dn rem ∧ LoopW w.heap.size (some ⟨g, off, none⟩) n c (.func (.func gm) #[] cap) w bN bS b8 bX it st ks rem W ∧ SetR W bX kx ∧ KeysAre kx (PairsTo dn sn p st) ∧ Slots [none, none, some (.pointer (some ⟨w.heap.size, 0, none⟩)), some (.pointer (some ⟨w.heap.size + 1, 0, none⟩)), none, some (.pointer (some ⟨bN + 1, 0, none⟩)), none, none, some (.pointer (some ⟨b8, 0, none⟩)), some (.pointer (some ⟨bX + 1, 0, none⟩)), none, none, none, none, none, none, none, none, none, none, none, none, none, none, none, none, none, none, none, none, none, none, none, none, none, none, none, none, none, some (.pointer (some ⟨it, 0, none⟩)), none, none, none, none, none, none, none, none, none, none, none, none, none, none, none, none, none, none, none, none, none, none, none, none, none, none, none, none, none, none, none, none, none, none, none, none, none, none, none, none, none] t
set_option maxRecDepth 100000 in
set_option maxHeartbeats 2000000 in
theorem can_pairs {g off n c : Nat} {w : World} {bN bS b8 bX it : Nat} {st : Nat} {ks : List (Int × Int)} {gm : FuncId} {cap : Array Value} {p : Int → Int → Bool} (hm : May gm cap p w) (hg : g < w.heap.size) {sn : Int × Int}
    (hc0 : w.cell? ⟨g, off + st * 2, none⟩ = some (.int .i64 sn.1)) (hc1 : w.cell? ⟨g, off + st * 2 + 1, none⟩ = some (.int .i64 sn.2)) (hsn : okSpan sn) (h2 : 2 ≤ st) (hst : st < n) (hn : n ≤ 8) (hkb : Okay ks)
    {V : World} (h : LoopW w.heap.size (some ⟨g, off, none⟩) n c (.func (.func gm) #[] cap) w bN bS b8 bX it st ks ks V) (hx : SetR V bX []) (t : Array Value)
    (hF : Slots [none, none, some (.pointer (some ⟨w.heap.size, 0, none⟩)), some (.pointer (some ⟨w.heap.size + 1, 0, none⟩)), none, some (.pointer (some ⟨bN + 1, 0, none⟩)), none, none, some (.pointer (some ⟨b8, 0, none⟩)), some (.pointer (some ⟨bX + 1, 0, none⟩)), none, none, none, none, none, none, none, none, none, none, none, none, none, none, none, none, none, none, none, none, none, none, none, none, none, none, none, none, none, some (.pointer (some ⟨it, 0, none⟩)), none, none, none, none, none, none, none, none, none, none, none, none, none, none, none, none, none, none, none, none, none, none, none, none, none, none, none, none, none, none, none, none, none, none, none, none, none, none, none, none, none] t) :
    Exec Try.prog none (sub (Try.f58.body.getD .skip) [1,1,1,1,0,1,0,0, 1,0,0,1,0,1]) t V fun e t' W' => e = .normal ∧ (∃ kx, SetR W' bX kx ∧ KeysAre kx (PairsTo ks sn p st)) ∧
      LoopW w.heap.size (some ⟨g, off, none⟩) n c (.func (.func gm) #[] cap) w bN bS b8 bX it st ks [] W' ∧ Slots [none, none, some (.pointer (some ⟨w.heap.size, 0, none⟩)), some (.pointer (some ⟨w.heap.size + 1, 0, none⟩)), none, some (.pointer (some ⟨bN + 1, 0, none⟩)), none, none, some (.pointer (some ⟨b8, 0, none⟩)), some (.pointer (some ⟨bX + 1, 0, none⟩)), none, none, none, none, none, none, none, none, none, none, none, none, none, none, none, none, none, none, none, none, none, none, none, none, none, none, none, none, none, some (.pointer (some ⟨it, 0, none⟩)), none, none, none, none, none, none, none, none, none, none, none, none, none, none, none, none, none, none, none, none, none, none, none, none, none, none, none, none, none, none, none, none, none, none, none, none, none, none, none, none, none] t' := by
  refine exec_block ?_
  refine exec_loop (PairsI g off n c w bN bS b8 bX it st ks gm cap p sn) ks.length
    ⟨ks, [], [], rfl, fun x => by simp, h, hx, fun x => by simp [PairsTo], hF⟩ ?_
  clear h hx hF
  clear V t
  rintro m t V ⟨rem, dn, kx, hlen, hall, h, hx, hkx, hF⟩
  obtain ⟨x, hx⟩ := Slots.open_ hF; simp only [fill, Nat.reduceAdd] at hx; subst hx; clear hF
  have hne : it ≠ bS := by have := h.o3; have := h.o5; omega
  have hit := h.iter
  have hstI : (st : Int) < n := by omega
  refine exec_seq (exec_region_o fun ds => ?_)
  gi_wp2_with (gi_at_next; refine walk_next rfl rfl rfl hit hne (fun hnil => ?_) (fun pp pre post W' hl' hit' hgr hen => ?_))
  · refine eq_mk (Keep.refl _) ?_
    show Exec _ _ _ _ _ _
    refine exec_seq (exec_cond (b := false) rfl (fun h => by cases h) (fun _ => ?_))
    have hr : rem = [] := by simpa using hnil
    refine exec_exit ⟨rfl, ⟨kx, hx, fun y => ?_⟩, hr ▸ h, ?_⟩
    · rw [hkx y]
      unfold PairsTo
      simp only [hall _, hr, List.not_mem_nil, or_false]
    · exact (by simp only [Slots, Fits, and_self])
  · skip
    have hli : it < V.heap.size := by
      obtain ⟨_, _, _, _, _, _, hi, _⟩ := hit
      exact (Array.getElem?_eq_some_iff.1 hi).1
    obtain ⟨ob, hob⟩ : ∃ ob, V.heap[it]? = some ob ∧ book ob = false := by
      obtain ⟨_, _, _, _, _, _, hi, _⟩ := hit
      exact ⟨_, hi, rfl⟩
    refine eq_mk ((Keep.refl _).grown hgr fun j o e ho => by cases e; rw [hob.1] at ho; cases ho; exact hob.2) ?_
    show Exec _ _ _ _ _ _
    obtain ⟨pre', post', y, rfl, rfl, rfl, rfl⟩ : ∃ pre' post' y, rem = pre' ++ y :: post' ∧ pre = pre'.map (fun x => (x, Value.bool true)) ∧ post = post'.map (fun x => (x, Value.bool true)) ∧ pp = (y, .bool true) := by
      obtain ⟨a, b, e1, e2, e3⟩ := List.map_eq_append_iff.1 hl'
      obtain ⟨y, b', e4, e5, e6⟩ := List.map_eq_cons_iff.1 e3
      exact ⟨a, b', y, by rw [e1, e4], e2.symm, e6.symm, e5.symm⟩
    clear hl' hob
    obtain ⟨a, b⟩ := y
    have hyk : (a, b) ∈ ks := (hall (a, b)).2 (.inr (by simp))
    have hab := hkb _ hyk
    rw [← List.map_append] at hit'
    have hlt3 := h.set.lt
    have hltX := hx.lt
    have o3 := h.o3
    have o5 := h.o5
    have o2 := h.o2
    have o1 := h.o1
    have o4 := h.o4
    have h' : LoopW w.heap.size (some ⟨g, off, none⟩) n c (.func (.func gm) #[] cap) w bN bS b8 bX it st ks (pre' ++ post') W' :=
      ⟨h.can.kept hgr (by omega) (Nat.le_refl _), h.now.kept hgr (by simp; omega), h.set.same (hgr.block bS hlt3 (by simp; omega)), h.cnt.kept hgr (by simp; omega), h.nxt.kept hgr (by simp; omega), hit', o1, o2, o3, o4, o5⟩
    have hx' : SetR W' bX kx := hx.same (hgr.block bX hltX (by simp; omega))
    have hli' : it < W'.heap.size := Nat.lt_of_lt_of_le hli hgr.size
    clear h hx hit hgr hit' hlt3 hltX hli
    clear V
    refine exec_seq (exec_cond (b := true) rfl (fun _ => ?_) (fun h => by cases h))
    refine exec_skip ?_
    show Exec _ _ _ _ _ _
    simp only [encP] at hen ⊢
    refine exec_block (exec_seq (exec_region_o fun ds => ?_))
    gi_wp2
    refine eq_mk ((Keep.refl _).alloc _) ?_
    show Exec _ _ _ _ _ _
    refine exec_scope (exec_seq (exec_label ?_))
    show Exec _ _ _ _ _ _
    have gr := Grow.alloc W'.heap.size W' (.cells #[.int .i64 a, .int .i64 b] 137)
    have p0 := h'.grow gr h'.can.below.size (Nat.le_refl _)
    have p1 := hx'.grow gr
    have p2 := Box2.new W' 137 a b
    have hb10 : it < W'.heap.size := hli'
    have hszA : (W'.alloc (.cells #[.int .i64 a, .int .i64 b] 137)).heap.size = W'.heap.size + 1 := by simp
    generalize hWA : W'.alloc (.cells #[.int .i64 a, .int .i64 b] 137) = WA at *
    clear hWA gr h' hx' hen
    generalize W'.heap.size = b10 at *
    have hbC : b10 < WA.heap.size := by omega
    clear hszA
    clear W'
    have k0 := p0.can.below.cell (p := ⟨g, off + st * 2, none⟩) hg
    have k1 := p0.can.below.cell (p := ⟨g, off + st * 2 + 1, none⟩) hg
    rw [hc0] at k0
    rw [hc1] at k1
    have k2 := p0.can.f.cell
    have k3 := p0.cnt.cell
    refine exec_seq (exec_region_o fun ds => ?_)
    gi_wp2_with fail
    refine ⟨trivial, rfl, (callsIn_wide.2 (all_any _ _ _)).mono ?_⟩
    rintro e w' ⟨rfl, rfl⟩
    gi_wp2_with fail
    refine eq_mk ((Keep.refl _).alloc _) ?_
    show Exec _ _ _ _ _ _
    refine exec_block ?_
    have itB := all_iter WA sn hsn
    have gr := Grow.alloc WA.heap.size WA (.cells #[.int .i64 sn.1, .int .i64 sn.2] 89)
    have q0 := p0.grow gr p0.can.below.size (Nat.le_refl _)
    have q1 := p1.grow gr
    have q2 := gr.box2 p2
    have q3 := Box2.new WA 89 sn.1 sn.2
    have hszB : (WA.alloc (.cells #[.int .i64 sn.1, .int .i64 sn.2] 89)).heap.size = WA.heap.size + 1 := by simp
    have hwC : w.heap.size ≤ WA.heap.size := p0.can.below.size
    generalize hWB : WA.alloc (.cells #[.int .i64 sn.1, .int .i64 sn.2] 89) = WB at *
    clear hWB gr p0 p1 p2 k0 k1 k2 k3
    generalize WA.heap.size = bC at *
    clear WA
    have okN : ∀ a, a ∈ spanL sn → -1000 ≤ a ∧ a ≤ 1000 := fun a ha => by have := (mem_spanL _ _).1 ha; obtain ⟨_, _, _⟩ := hsn; omega
    have HkN := Lib.hid okN
    clear okN
    refine exec_range (L := spanL sn) rfl (enters_of Try.func93 (by kernel_rfl) rfl) itB (fun k hk => by omega) (fun _ => rfl)
      (fun k V => LoopW w.heap.size (some ⟨g, off, none⟩) n c (.func (.func gm) #[] cap) w bN bS b8 bX it st ks (pre' ++ post') V ∧ (∃ kx, SetR V bX kx ∧ KeysAre kx fun y => PairsTo dn sn p st y ∨ (y.1 = b ∧ y.2 ∈ (spanL sn).take k ∧ p ((st : Int) - 1) (bendI a b y.2) = true)) ∧ Box2 V b10 137 a b ∧ Box2 V bC 89 sn.1 sn.2)
      (fun _ _ => False)
      (fun k => Stab.and (fun _ _ h1 hg => h1.grow hg (by omega) (Nat.le_refl _)) (Stab.and (Stab.ex fun ks => Stab.and (Stab.setR _ _ _) (Stab.pure _ _)) (Stab.and (Stab.box2 _ _ _ _ _) (Stab.box2 _ _ _ _ _)))) (fun _ => Stab.pure _ _)
      ⟨q0, ⟨kx, q1, fun x => by rw [hkx x]; simp⟩, q2, q3⟩ ?_ ?_ (fun _ h => h.elim) (fun _ _ h => h.elim)
    · have hltWB := q3.lt
      clear q0 q1 q2 q3 hkx itB hszB
      rintro l1 k hk V hV ⟨h, ⟨kx, hx, hkx⟩, h10, hC⟩
      have ea : (spanL sn).take (k + 1) = (spanL sn).take k ++ [(spanL sn)[k]'hk] := List.take_succ_eq_append_getElem hk
      have ho := HkN.out _ (List.getElem_mem hk)
      have HMK := hkx
      clear hkx
      have HEA := Lib.hid ea
      clear ea
      generalize (spanL sn)[k]'hk = o at *
      refine exec_region_r fun ds => ?_
      gi_wp2
      refine eq_mk (Keep.refl _) ⟨rfl, Same.refl _ _, ?_⟩
      intro V1 hG hsz1
      have r0 := h.grow hG (by omega) (Nat.le_refl _)
      have r1 := hx.grow hG
      have r2 := hG.box2 h10
      have r3 := hG.box2 hC
      refine (can_round hm r0 h2 (by omega) r1 r2 hab.1 hab.2 ho l1 _ (by simp only [Slots, Fits, and_self])).mono ?_
      rintro e t' W3 ⟨rfl, kx3, s1, s2, s3, s4, s5⟩
      have hltC := r3.lt
      refine ⟨fun k hk => by rw [hk]; exact s5 bC hltC (by omega), s3, ⟨kx3, s1, fun y => ?_⟩, s4, (s5 bC hltC (by omega)).trans r3⟩
      rw [s2 y, HMK y]
      show (_ ∨ _) ∨ _ ↔ _ ∨ _
      rw [HEA.out, List.mem_append, List.mem_singleton]
      constructor
      · rintro ((u | ⟨u1, u2, u3⟩) | ⟨rfl, u⟩)
        · exact .inl u
        · exact .inr ⟨u1, .inl u2, u3⟩
        · exact .inr ⟨rfl, .inr rfl, u⟩
      · rintro (u | ⟨u1, (u2 | u2), u3⟩)
        · exact .inl (.inl u)
        · exact .inl (.inr ⟨u1, u2, u3⟩)
        · exact .inr ⟨Prod.ext u1 u2, u2 ▸ u3⟩
    · rintro V ⟨h, ⟨kx', hx', hkx'⟩, h10, hC⟩
      rw [List.take_length] at hkx'
      refine ⟨pre'.length + post'.length, by simp at hlen; omega, pre' ++ post', (a, b) :: dn, kx', by simp, fun z => ?_, h, hx', fun y => ?_, ?_⟩
      · rw [hall z]
        simp only [List.mem_append, List.mem_cons]
        constructor
        · rintro (u | u | u | u)
          · exact .inl (.inr u)
          · exact .inr (.inl u)
          · exact .inl (.inl u)
          · exact .inr (.inr u)
        · rintro ((u | u) | u | u)
          · exact .inr (.inr (.inl u))
          · exact .inl u
          · exact .inr (.inl u)
          · exact .inr (.inr (.inr u))
      · rw [hkx' y]
        unfold PairsTo
        constructor
        · rintro (⟨a', u1, u2, u3⟩ | ⟨u1, u2, u3⟩)
          · exact ⟨a', .tail _ u1, u2, u3⟩
          · refine ⟨a, ?_, u2, u1 ▸ u3⟩
            rw [u1]
            exact .head _
        · rintro ⟨a', u1, u2, u3⟩
          rcases List.mem_cons.1 u1 with u1 | u1
          · simp only [Prod.mk.injEq] at u1
            obtain ⟨rfl, rfl⟩ := u1
            exact .inr ⟨rfl, u2, u3⟩
          · exact .inl ⟨a', u1, u2, u3⟩
      · exact (by simp only [Slots, Fits, and_self])
end Go.Proofs.Ytafmgmaelnpehaa
end

section
set_option linter.unusedVariables false
set_option linter.unusedSimpArgs false
namespace Go.Proofs.Ytafmgmaelnpehaa
open Go.RowKit Go.TL Go.Shelf Go.Fu
attribute [local go_sem] Oper.semAt_some



theorem getD_mem (l : List (Int × Int)) (i : Nat) (h : i < l.length) : l.getD i (0, 0) ∈ l := by
  rw [List.getD_eq_getElem?_getD, List.getElem?_eq_getElem h]
  exact List.getElem_mem h
theorem span_ok (l : List (Int × Int)) (hok : ∀ x ∈ l, okSpan x) (i : Nat) (h : i < l.length) (y : Int) (hy : y ∈ spanL (l.getD i (0, 0))) : -1000 ≤ y ∧ y ≤ 1000 := by
  have := (mem_spanL _ _).1 hy
  obtain ⟨_, _, _⟩ := hok _ (getD_mem l i h)
  omega
theorem reach_ok (l : List (Int × Int)) (p : Int → Int → Bool) (hok : ∀ x ∈ l, okSpan x) : ∀ (n : Nat) (h : n < l.length) (x : Int × Int), Fu.Reach l p n x → okP x
  | 0, _, _, hx => hx.elim
  | 1, h, x, hx => ⟨span_ok l hok 0 (by omega) _ hx.1, span_ok l hok 1 h _ hx.2⟩
  | n + 2, h, x, hx => by
    obtain ⟨h1, a, h2, _⟩ := hx
    exact ⟨(reach_ok l p hok (n + 1) (by omega) _ h2).2, span_ok l hok (n + 2) h _ h1⟩
theorem reach_next {l : List (Int × Int)} {p : Int → Int → Bool} {ks kx : List (Int × Int)} {st : Nat} (h2 : 2 ≤ st) (hk : KeysAre ks (Fu.Reach l p (st - 1))) (hx : KeysAre kx (PairsTo ks (l.getD st (0, 0)) p st)) : KeysAre kx (Fu.Reach l p (st + 1 - 1)) := by
  obtain ⟨n, rfl⟩ : ∃ n, st = n + 2 := ⟨st - 2, by omega⟩
  intro y
  rw [hx y]
  have e : ((n + 2 : Nat) : Int) - 1 = (n : Int) + 1 := by omega
  show PairsTo _ _ _ _ _ ↔ y.2 ∈ spanL (l.getD (n + 2) (0, 0)) ∧ ∃ a, Fu.Reach l p (n + 1) (a, y.1) ∧ p ((n : Int) + 1) (bendI a y.1 y.2) = true
  unfold PairsTo
  rw [e]
  constructor
  · rintro ⟨a, h1, h2, h3⟩
    exact ⟨h2, a, (hk _).1 h1, h3⟩
  · rintro ⟨h2, a, h1, h3⟩
    exact ⟨a, (hk _).2 h1, h2, h3⟩
def CanI (g off n c : Nat) (w : World) (bN : Nat) (gm : FuncId) (cap : Array Value) (l : List (Int × Int)) (p : Int → Int → Bool) (m : Nat) (t : Array Value) (W : World) : Prop :=
  ∃ st b8 bS ks, m + st = n ∧ 2 ≤ st ∧ CanB w.heap.size (some ⟨g, off, none⟩) n c (.func (.func gm) #[] cap) w W ∧ SetR W bS ks ∧ KeysAre ks (Fu.Reach l p (st - 1)) ∧ Boxed W (bN + 1) 141 (.map (some bS)) ∧ Boxed W b8 3 (.int .i64 st) ∧ bN + 1 < b8 ∧ Slots [none, none, some (.pointer (some ⟨w.heap.size, 0, none⟩)), some (.pointer (some ⟨w.heap.size + 1, 0, none⟩)), none, some (.pointer (some ⟨bN + 1, 0, none⟩)), none, none, some (.pointer (some ⟨b8, 0, none⟩)), none, none, none, none, none, none, none, none, none, none, none, none, none, none, none, none, none, none, none, none, none, none, none, none, none, none, none, none, none, none, none, none, none, none, none, none, none, none, none, none, none, none, none, none, none, none, none, none, none, none, none, none, none, none, none, none, none, none, none, none, none, none, none, none, none, none, none, none, none, none, none, none] t
def CanEnd (n : Nat) (w : World) (bN : Nat) (l : List (Int × Int)) (p : Int → Int → Bool) (e : Exit) (t : Array Value) (W : World) : Prop :=
  e = .normal ∧ ∃ bS ks, SetR W bS ks ∧ KeysAre ks (Fu.Reach l p (n - 1)) ∧ Boxed W (bN + 1) 141 (.map (some bS)) ∧ Below w.heap.size w W ∧ Slots [none, none, none, none, none, some (.pointer (some ⟨bN + 1, 0, none⟩)), none, none, none, none, none, none, none, none, none, none, none, none, none, none, none, none, none, none, none, none, none, none, none, none, none, none, none, none, none, none, none, none, none, none, none, none, none, none, none, none, none, none, none, none, none, none, none, none, none, none, none, none, none, none, none, none, none, none, none, none, none, none, none, none, none, none, none, none, none, none, none, none, none, none, none] t

set_option maxRecDepth 100000 in
set_option maxHeartbeats 2000000 in
theorem can_loop {g off c : Nat} {w : World} {bN : Nat} {l : List (Int × Int)} {gm : FuncId} {cap : Array Value} {p : Int → Int → Bool} (hm : May gm cap p w) (hg : g < w.heap.size) (hN : w.heap.size + 1 < bN)
    (hc : Hid (∀ i (h : i < l.length), w.cell? ⟨g, off + i * 2, none⟩ = some (.int .i64 (l[i]'h).1) ∧ w.cell? ⟨g, off + i * 2 + 1, none⟩ = some (.int .i64 (l[i]'h).2))) (hok : ∀ x ∈ l, okSpan x) (hn : l.length ≤ 8)
    {V : World} (t : Array Value) (hI : CanI g off l.length c w bN gm cap l p (l.length - 2) t V) :
    Exec Try.prog none (sub (Try.f58.body.getD .skip) [1,1,1,1,0,1]) t V (CanEnd l.length w bN l p) := by
  refine exec_block ?_
  refine exec_loop (CanI g off l.length c w bN gm cap l p) (l.length - 2) hI ?_
  clear hI
  clear V t
  rintro m t V ⟨st, b8, bS, ks, hms, h2, h, hS, hK, hX, h8, hb8, hF⟩
  obtain ⟨x, hx⟩ := Slots.open_ hF; simp only [fill, Nat.reduceAdd] at hx; subst hx; clear hF
  have k1 := h.f.cell
  have k2 := h8.cell
  refine exec_seq (exec_seq (exec_region_o fun ds => ?_))
  gi_wp2
  refine eq_mk (Keep.refl _) ?_
  show Exec _ _ _ _ _ _
  refine exec_cond (b := decide (st < l.length)) rfl (fun hb => ?_) (fun hb => ?_)
  · have hst : st < l.length := of_decide_eq_true hb
    have sst : (l.getD st (0, 0)) = l[st]'hst := by simp [List.getD_eq_getElem?_getD, hst]
    have hsn := hok _ (List.getElem_mem hst)
    have c0 := hc.out st hst
    have hkb : Okay ks := fun x hx => reach_ok l p hok (st - 1) (by omega) x ((hK x).1 hx)
    refine exec_skip ?_
    show Exec _ _ _ _ _ _
    refine exec_seq (exec_block (exec_seq (exec_region_o fun ds => ?_)))
    have hmm := @run_makeMap Try.prog
    gi_wp2
    clear hmm
    refine eq_mk (((Keep.refl _).alloc _).alloc _) ?_
    show Exec _ _ _ _ _ _
    have hs0 := h.below.size
    have hlX := hX.lt
    have hl8 := h8.lt
    have hlS := hS.lt
    have gr : Grow V.heap.size V ((V.alloc (.map #[] 0)).alloc (.cells #[.map (some V.heap.size)] 141)) := (Grow.alloc _ _ _).trans (Grow.alloc _ _ _)
    have p0 := h.grow gr hs0 (Nat.le_refl _)
    have p1 := hS.grow gr
    have p2 := gr.boxed hX
    have p3 := gr.boxed h8
    have p4 : SetR ((V.alloc (.map #[] 0)).alloc (.cells #[.map (some V.heap.size)] 141)) V.heap.size [] := MapR.grow (MapR.new encP okP V) (Grow.alloc 0 _ _)
    have p5 : Boxed ((V.alloc (.map #[] 0)).alloc (.cells #[.map (some V.heap.size)] 141)) (V.heap.size + 1) 141 (.map (some V.heap.size)) := by (simp only [Boxed, Box2, heap_alloc_at, heap_set_at, World.size_alloc, World.size_setCell]; repeat (first | rfl | rw [if_pos (by omega)] | rw [if_neg (by omega)]))
    have hsz : V.heap.size + 1 < ((V.alloc (.map #[] 0)).alloc (.cells #[.map (some V.heap.size)] 141)).heap.size := by simp
    generalize (V.alloc (.map #[] 0)).alloc (.cells #[.map (some V.heap.size)] 141) = W at *
    clear gr h hS hX h8 k1 k2
    generalize V.heap.size = bX at *
    clear V
    have q2 := p2.cell
    refine exec_seq (exec_seq (exec_region_o fun ds => ?_))
    gi_wp2_with (gi_at_range; refine walk_range rfl rfl rfl p1 Try.underlying141 ?_; intro since hit)
    refine eq_mk ((Keep.refl _).alloc _) ?_
    show Exec _ _ _ _ _ _
    have gr := Grow.alloc W.heap.size W (.mapIter (some bS) since #[] since)
    have r0 := p0.grow gr p0.below.size (Nat.le_refl _)
    have r1 := p1.grow gr
    have r2 := gr.boxed p2
    have r3 := gr.boxed p3
    have r4 := p4.grow gr
    have r5 := gr.boxed p5
    generalize W.alloc (.mapIter (some bS) since #[] since) = X at *
    clear gr p0 p1 p2 p3 p4 p5 q2
    generalize W.heap.size = it at *
    clear W
    refine (can_pairs (bX := bX) (it := it) hm hg c0.1 c0.2 hsn h2 hst hn hkb ⟨r0, r2, r1, r3, r5, hit, hN, hb8, by omega, by omega, by omega⟩ r4 _ (by simp only [Slots, Fits, and_self])).mono ?_
    rintro e t' W' ⟨rfl, ⟨kx, hx, hkx⟩, hL, hF⟩
    show Exec _ _ _ _ _ _
    clear r0 r1 r2 r3 r4 r5 hit
    clear X
    obtain ⟨x, hx⟩ := Slots.open_ hF; simp only [fill, Nat.reduceAdd] at hx; subst hx; clear hF
    rw [← sst] at hkx
    have hKx := reach_next h2 hK hkx
    have n1 := hL.nxt.cell
    have n2 := hL.now.cell
    have n3 := hL.now.frozen
    have hlX := hx.lt
    refine exec_region_o fun ds => ?_
    gi_wp2
    refine eq_mk ((Keep.refl _).setCell _ _) ?_
    show Exec _ _ _ _ _ _
    have m0 : CanB w.heap.size (some ⟨g, off, none⟩) l.length c (.func (.func gm) #[] cap) w (W'.setCell ⟨bN + 1, 0, none⟩ (.map (some bX))) :=
      ⟨(Below.heap_setCell _ _ _ _ (by show _ ≠ bN + 1; omega)).trans hL.can.f, (Below.heap_setCell _ _ _ _ (by show _ ≠ bN + 1; omega)).trans hL.can.r, hL.can.below.setCell (by show w.heap.size ≤ bN + 1; omega) _⟩
    have m1 : SetR (W'.setCell ⟨bN + 1, 0, none⟩ (.map (some bX))) bX kx := hx.same (Below.heap_setCell _ _ _ _ (by show _ ≠ bN + 1; omega))
    have m2 : Boxed (W'.setCell ⟨bN + 1, 0, none⟩ (.map (some bX))) (bN + 1) 141 (.map (some bX)) := by have e := hL.now; (simp only [Boxed, Box2, heap_alloc_at, heap_set_at, World.size_alloc, World.size_setCell]; repeat (first | rfl | exact e | rw [if_pos (by omega)] | rw [if_neg (by omega)] | rw [show _ = _ from e]))
    have m3 : Boxed (W'.setCell ⟨bN + 1, 0, none⟩ (.map (some bX))) b8 3 (.int .i64 st) := (Below.heap_setCell _ _ _ _ (by show _ ≠ bN + 1; omega)).trans hL.cnt
    generalize W'.setCell ⟨bN + 1, 0, none⟩ (.map (some bX)) = W at *
    clear n1 n2 n3 hlX hL hx
    clear W'
    have k2 := m3.cell
    refine exec_seq (exec_seq (exec_region_o fun ds => ?_))
    gi_wp2
    refine eq_mk (Keep.refl _) ?_
    show Exec _ _ _ _ _ _
    refine exec_region_o fun ds => ?_
    gi_wp2
    refine eq_mk ((Keep.refl _).alloc _) ?_
    show Exec _ _ _ _ _ _
    have gr := Grow.alloc W.heap.size W (.cells #[.int .i64 st] 3)
    have m4 := Boxed.new W 3 (.int .i64 st)
    have m5 := m0.grow gr m0.below.size (Nat.le_refl _)
    have m6 := m1.grow gr
    have m7 := gr.boxed m2
    have hlt := m2.lt
    have hsw := m0.below.size
    have hlx := m1.lt
    generalize W.alloc (.cells #[.int .i64 st] 3) = X at *
    clear gr m0 m1 m2 m3 k2
    generalize W.heap.size = b8' at *
    clear W
    have k2 := m4.cell
    have k3 := m4.frozen
    refine exec_region_o fun ds => ?_
    gi_wp2
    refine eq_mk ((Keep.refl _).setCell _ _) ?_
    refine ⟨m - 1, by omega, st + 1, b8', bX, kx, by omega, by omega,
      ⟨(Below.heap_setCell _ _ _ _ (by show _ ≠ b8'; omega)).trans m5.f, (Below.heap_setCell _ _ _ _ (by show _ ≠ b8'; omega)).trans m5.r, m5.below.setCell (by show w.heap.size ≤ b8'; omega) _⟩,
      m6.same (Below.heap_setCell _ _ _ _ (by show _ ≠ b8'; omega)), hKx, (Below.heap_setCell _ _ _ _ (by show _ ≠ b8'; omega)).trans m7, ?_, by omega, (by simp only [Slots, Fits, and_self])⟩
    (simp only [Boxed, Box2, heap_alloc_at, heap_set_at, World.size_alloc, World.size_setCell]; repeat (first | rfl | exact m4 | rw [if_pos (by omega)] | rw [if_neg (by omega)] | rw [show _ = _ from m4]))
  · refine exec_exit ?_
    have hst : st = l.length := by have := of_decide_eq_false hb; omega
    exact ⟨rfl, bS, ks, hS, hst ▸ hK, hX, h.below, (by simp only [Slots, Fits, and_self])⟩
end Go.Proofs.Ytafmgmaelnpehaa
end

section
set_option linter.unusedVariables false
set_option linter.unusedSimpArgs false
namespace Go.Proofs.Ytafmgmaelnpehaa
open Go.RowKit Go.TL Go.Shelf Go.Fu
attribute [local go_sem] Oper.semAt_some
set_option maxRecDepth 100000 in
set_option maxHeartbeats 2000000 in
theorem can_any (A : Option Addr) (c : Nat) (l : List (Int × Int)) (hl : l.length ≤ 8) (hok : ∀ x ∈ l, okSpan x) (p : Int → Int → Bool) (w : World) (hf : Spans w A l) (gm : FuncId) (cap : Array Value) (hm : May gm cap p w) :
    Calls Try.prog 58 #[.slice A l.length c, .agg #[.func (.func gm) #[] cap]] w fun e w' => e = .returned (.bool (canB l p)) ∧ Below w.heap.size w w' := by
  have h3 : l.length ≤ 100 := by omega
  refine calls_of_exec Try.func58 rfl ?_
  simp only [Try.ntmps58, List.size_toArray, List.length_cons, List.length_nil, Nat.reduceAdd, Nat.reduceSub, Array.replicate_succ, Array.replicate_zero, List.push_toArray, List.append_toArray, List.nil_append, List.cons_append]
  refine exec_seq (exec_region_o fun ds => ?_)
  gi_wp2
  refine eq_mk (((Keep.refl w).alloc _).alloc _) ?_
  show Exec _ _ _ _ _ _
  refine exec_world (fun W => CanB w.heap.size A l.length c (.func (.func gm) #[] cap) w W) ⟨?_, ?_, ?_⟩ ?_
  · (simp only [Boxed, Box2, heap_alloc_at, heap_set_at, World.size_alloc, World.size_setCell]; repeat (first | rfl | rw [if_pos (by omega)] | rw [if_neg (by omega)]))
  · (simp only [Boxed, Box2, heap_alloc_at, heap_set_at, World.size_alloc, World.size_setCell]; repeat (first | rfl | rw [if_pos (by omega)] | rw [if_neg (by omega)]))
  · exact ((Below.refl _ w).alloc (Nat.le_refl _) _).alloc (by simp) _
  intro W hW
  have k1 := hW.f.cell
  refine exec_seq (exec_seq (exec_region_o fun ds => ?_))
  by_cases hlen : l.length < 3
  · have hlt : (l.length : Int) < 3 := by omega
    gi_wp2
    refine eq_mk (Keep.refl _) ?_
    refine exec_cond (b := true) rfl (fun _ => ?_) (fun h => by cases h)
    refine exec_seq (exec_region_o fun ds => ?_)
    gi_wp2
    refine eq_mk (Keep.refl _) ?_
    refine exec_ret ⟨.inr rfl, fun W' hG => ?_⟩
    refine ⟨.bool true, by simp [results, Try.f58, go_sem], ?_, hW.below.trans (hG.below (Nat.le_refl _) hW.below.size)⟩
    rw [show canB l p = true from by unfold canB canP; simp [hlen]]
  have hge : ¬ (l.length : Int) < 3 := by omega
  gi_wp2
  refine eq_mk (Keep.refl _) ?_
  refine exec_cond (b := false) rfl (fun h => by cases h) (fun _ => ?_)
  refine exec_skip ?_
  show Exec _ _ _ _ _ _
  refine exec_seq (exec_region_o fun ds => ?_)
  have hmm := @run_makeMap Try.prog
  gi_wp2
  clear hmm
  refine eq_mk (((Keep.refl _).alloc _).alloc _) ?_
  show Exec _ _ _ _ _ _
  have hs0 := hW.below.size
  have hlt0 := hW.r.lt
  have stab : ∀ (B : Nat), w.heap.size ≤ B → Stab B (fun V => CanB w.heap.size A l.length c (.func (.func gm) #[] cap) w V) := fun B hB => CanB.stab hB (Nat.le_refl _)
  refine exec_world (fun V => CanB w.heap.size A l.length c (.func (.func gm) #[] cap) w V ∧ SetR V W.heap.size [] ∧ Boxed V (W.heap.size + 1) 141 (.map (some W.heap.size)) ∧ W.heap.size + 1 < V.heap.size) ⟨?_, ?_, ?_, ?_⟩ ?_
  · exact stab _ hs0 _ _ (stab W.heap.size hs0 _ _ hW (Grow.alloc _ _ _)) (Grow.alloc _ _ _)
  · exact MapR.grow (MapR.new encP okP W) (Grow.alloc 0 _ _)
  · (simp only [Boxed, Box2, heap_alloc_at, heap_set_at, World.size_alloc, World.size_setCell]; repeat (first | rfl | rw [if_pos (by omega)] | rw [if_neg (by omega)]))
  · simp
  generalize W.heap.size = bN at *
  clear k1 hW
  clear W
  rintro W ⟨hW, hS, hX, hltX⟩
  have hlen0 : 0 < l.length := by omega
  have hlen1 : 1 < l.length := by omega
  obtain ⟨g, off, rfl, hc⟩ := hf.at_ hlen0
  have hg : g < w.heap.size := World.block_lt_of_cell? w _ (hc 0 hlen0).1
  have e0 : l.getD 0 (0, 0) = l[0]'hlen0 := by simp [List.getD_eq_getElem?_getD, hlen0]
  have e1 : l.getD 1 (0, 0) = l[1]'hlen1 := by simp [List.getD_eq_getElem?_getD, hlen1]
  have o0 := hok _ (List.getElem_mem hlen0)
  have o1 := hok _ (List.getElem_mem hlen1)
  have f0 := hc 0 hlen0
  have f1 := hc 1 hlen1
  have HC : Hid (∀ i (h : i < l.length), w.cell? ⟨g, off + i * 2, none⟩ = some (.int .i64 (l[i]'h).1) ∧ w.cell? ⟨g, off + i * 2 + 1, none⟩ = some (.int .i64 (l[i]'h).2)) := hc
  clear hc
  have g0 := hW.below.cell (p := ⟨g, off + 0 * 2, none⟩) hg
  have g0' := hW.below.cell (p := ⟨g, off + 0 * 2 + 1, none⟩) hg
  rw [f0.1] at g0
  rw [f0.2] at g0'
  simp only [Nat.zero_mul, Nat.add_zero] at g0 g0'
  generalize l[0]'hlen0 = s0 at *
  generalize l[1]'hlen1 = s1 at *
  have HE0 := Lib.hid e0
  have HE1 := Lib.hid e1
  clear e0 e1
  have k1 := hW.f.cell
  refine exec_seq (exec_seq (exec_region_o fun ds => ?_))
  gi_wp2_with fail
  refine ⟨trivial, rfl, (callsIn_wide.2 (all_any _ _ _)).mono ?_⟩
  rintro e w' ⟨rfl, rfl⟩
  gi_wp2_with fail
  refine eq_mk ((Keep.refl _).alloc _) ?_
  show Exec _ _ _ _ _ _
  refine exec_block ?_
  have itA := all_iter W s0 o0
  have gr := Grow.alloc W.heap.size W (.cells #[.int .i64 s0.1, .int .i64 s0.2] 89)
  have hs1 := hW.below.size
  have p0 := stab _ (by omega) _ _ hW gr
  have p1 := hS.grow gr
  have p2 := gr.boxed hX
  have p3 := Box2.new W 89 s0.1 s0.2
  have hszA : (W.alloc (.cells #[.int .i64 s0.1, .int .i64 s0.2] 89)).heap.size = W.heap.size + 1 := by simp
  generalize hWA : W.alloc (.cells #[.int .i64 s0.1, .int .i64 s0.2] 89) = WA at *
  clear hWA gr
  generalize hBa : W.heap.size = Ba at *
  clear hBa g0 g0' k1 hW hS hX
  clear W
  have okA : ∀ a, a ∈ spanL s0 → -1000 ≤ a ∧ a ≤ 1000 := fun a ha => by have := (mem_spanL _ _).1 ha; obtain ⟨_, _, _⟩ := o0; omega
  have okB : ∀ a, a ∈ spanL s1 → -1000 ≤ a ∧ a ≤ 1000 := fun a ha => by have := (mem_spanL _ _).1 ha; obtain ⟨_, _, _⟩ := o1; omega
  have HkA := Lib.hid okA
  have HkB := Lib.hid okB
  clear okA okB
  refine exec_range (L := spanL s0) rfl (enters_of Try.func93 (by kernel_rfl) rfl) itA (fun k hk => by omega) (fun _ => rfl)
    (fun k V => CanB w.heap.size (some ⟨g, off, none⟩) l.length c (.func (.func gm) #[] cap) w V ∧ (∃ ks, SetR V bN ks ∧ KeysAre ks fun x => x.1 ∈ (spanL s0).take k ∧ x.2 ∈ spanL s1) ∧ Boxed V (bN + 1) 141 (.map (some bN)) ∧ Box2 V Ba 89 s0.1 s0.2)
    (fun _ _ => False)
    (fun k => Stab.and (stab _ (by omega)) (Stab.and (Stab.ex fun ks => Stab.and (Stab.setR _ _ _) (Stab.pure _ _)) (Stab.and (Stab.boxed _ _ _ _) (Stab.box2 _ _ _ _ _)))) (fun _ => Stab.pure _ _)
    ⟨p0, ⟨[], p1, fun x => by simp⟩, p2, p3⟩ ?roundA ?doneA (fun _ h => h.elim) (fun _ _ h => h.elim)
  case roundA =>
    rintro l1 k hk V hV ⟨hi, ⟨ks, hks, hmem⟩, hiX, bxV⟩
    have ea : (spanL s0).take (k + 1) = (spanL s0).take k ++ [(spanL s0)[k]'hk] := List.take_succ_eq_append_getElem hk
    have ha := HkA.out _ (List.getElem_mem hk)
    have HMK := hmem
    clear hmem
    have HEA := Lib.hid ea
    clear ea
    generalize (spanL s0)[k]'hk = a at *
    refine exec_region_r fun ds => ?_
    gi_wp2
    refine eq_mk ((Keep.refl _).alloc _) ⟨rfl, Same.of_below ((Below.refl _ V).alloc (Nat.le_refl _) _) (fun k hk => by omega), ?_⟩
    intro V1 hG hsz1
    have gr := Grow.alloc WA.heap.size V (.cells #[.int .i64 a] 3)
    have bV := hG.boxed (Boxed.new V 3 (.int .i64 a))
    have q0 := stab _ (by omega) _ _ (stab WA.heap.size (by omega) _ _ hi gr) hG
    have q1 := (hks.grow gr).grow hG
    have q2 := hG.boxed (gr.boxed hiX)
    have q3 := hG.box2 (gr.box2 bxV)
    rw [World.size_alloc] at hsz1
    generalize hVs : V.heap.size = Va at *
    have hlt1 : Va < V1.heap.size := by omega
    clear hG gr hi hks hiX bxV hVs hsz1
    clear V
    refine exec_block ?_
    have gB := q0.below.cell (p := ⟨g, off + 1 * 2, none⟩) hg
    have gB2 := q0.below.cell (p := ⟨g, off + 1 * 2 + 1, none⟩) hg
    rw [f1.1] at gB
    rw [f1.2] at gB2
    simp only [Nat.one_mul] at gB gB2
    have m1 := q0.f.cell
    have hlenI : (1 : Int) < l.length := by omega
    refine exec_seq (exec_region_r fun ds => ?_)
    gi_wp2_with fail
    refine ⟨trivial, rfl, (CallsIn.inRound l1 (callsIn_wide.2 (all_any _ _ _))).mono ?_⟩
    rintro e w' ⟨rfl, rfl⟩
    gi_wp2_with fail
    refine eq_mk ((Keep.refl _).alloc _) ?_
    show Exec _ _ _ _ _ _
    refine exec_block ?_
    have itB := all_iter V1 s1 o1
    have gr := Grow.alloc V1.heap.size V1 (.cells #[.int .i64 s1.1, .int .i64 s1.2] 89)
    have r0 := stab _ (by omega) _ _ q0 gr
    have r1 := q1.grow gr
    have r2 := gr.boxed q2
    have r3 := gr.box2 q3
    have r4 := gr.boxed bV
    have r5 := Box2.new V1 89 s1.1 s1.2
    have hszB : (V1.alloc (.cells #[.int .i64 s1.1, .int .i64 s1.2] 89)).heap.size = V1.heap.size + 1 := by simp
    generalize hWB : V1.alloc (.cells #[.int .i64 s1.1, .int .i64 s1.2] 89) = WB at *
    generalize hBb : V1.heap.size = Bb at *
    clear hWB gB gB2 m1 q0 q1 q2 bV gr
    refine exec_range (L := spanL s1) rfl (enters_of Try.func93 (by kernel_rfl) rfl) itB (fun k hk => by omega) (fun _ => rfl)
      (fun k2 V => CanB w.heap.size (some ⟨g, off, none⟩) l.length c (.func (.func gm) #[] cap) w V ∧ (∃ ks, SetR V bN ks ∧ KeysAre ks fun x => (x.1 ∈ (spanL s0).take k ∧ x.2 ∈ spanL s1) ∨ (x.1 = a ∧ x.2 ∈ (spanL s1).take k2)) ∧ Boxed V (bN + 1) 141 (.map (some bN)) ∧ Box2 V Ba 89 s0.1 s0.2 ∧ Boxed V Va 3 (.int .i64 a) ∧ Box2 V Bb 89 s1.1 s1.2)
      (fun _ _ => False)
      (fun k => Stab.and (stab _ (by omega)) (Stab.and (Stab.ex fun ks => Stab.and (Stab.setR _ _ _) (Stab.pure _ _)) (Stab.and (Stab.boxed _ _ _ _) (Stab.and (Stab.box2 _ _ _ _ _) (Stab.and (Stab.boxed _ _ _ _) (Stab.box2 _ _ _ _ _)))))) (fun _ => Stab.pure _ _)
      ⟨r0, ⟨ks, r1, fun x => by rw [HMK x]; simp⟩, r2, r3, r4, r5⟩ ?roundB ?doneB (fun _ h => h.elim) (fun _ _ h => h.elim)
    case doneB =>
      rintro V2 ⟨h1, ⟨ks, h2, h2m⟩, h3, h4, h5, h6⟩
      refine ⟨fun k hk => by rw [hk, show V2.heap[Ba]? = _ from h4, show V1.heap[Ba]? = _ from q3], h1, ⟨ks, h2, fun x => ?_⟩, h3, h4⟩
      rw [h2m x]
      show (_ ∧ _ ∨ _ ∧ _) ↔ _ ∧ _
      rw [HEA.out, List.take_length, List.mem_append, List.mem_singleton]
      constructor
      · rintro (⟨u, v⟩ | ⟨u, v⟩)
        · exact ⟨.inl u, v⟩
        · exact ⟨.inr u, v⟩
      · rintro ⟨u | u, v⟩
        · exact .inl ⟨u, v⟩
        · exact .inr ⟨u, v⟩
    rintro l2 k2 hk2 V hV ⟨hi, ⟨ks2, hks, hmem⟩, hiX, bxV, bVV, bxVB⟩
    have eb : (spanL s1).take (k2 + 1) = (spanL s1).take k2 ++ [(spanL s1)[k2]'hk2] := List.take_succ_eq_append_getElem hk2
    have hb := HkB.out _ (List.getElem_mem hk2)
    have HMK2 := hmem
    clear hmem
    have HEB := Lib.hid eb
    clear eb
    generalize (spanL s1)[k2]'hk2 = b at *
    refine exec_region_r fun ds => ?_
    gi_wp2
    refine eq_mk (Keep.refl _) ⟨rfl, Same.refl _ _, ?_⟩
    intro V2 hG hsz2
    have t0 := stab _ (by omega) _ _ hi hG
    have t1 := hks.grow hG
    have t2 := hG.boxed hiX
    have t3 := hG.box2 bxV
    have t4 := hG.boxed bVV
    have t5 := hG.box2 bxVB
    clear hG hi hks hiX bxV bVV bxVB hsz2
    have c2 := t2.cell
    have c4 := t4.cell
    refine exec_block (exec_region_r fun ds => ?_)
    gi_wp2_with (gi_at_mapUpdate; refine walk_mapUpdate rfl rfl rfl t1 keyP Try.underlying141 (y := (a, b)) ⟨ha, hb⟩ rfl (u := .bool true) rfl ?_; intro W' hu hgr)
    rw [put_set] at hu
    have hltBb := t5.lt
    refine eq_mk (keep_map (Keep.refl _) t1 hgr) ?_
    refine ⟨fun k hk => by rw [hk]; exact hgr.block Bb hltBb (by simp; omega), t0.kept hgr (by omega) (Nat.le_refl _), ⟨ins ks2 (a, b), hu, fun x => ?_⟩, t2.kept hgr (by simp), box2_kept t3 hgr (by omega), t4.kept hgr (by simp; omega), box2_kept t5 hgr (by omega)⟩
    rw [mem_ins, HMK2 x]
    show ((_ ∧ _ ∨ _ ∧ _) ∨ _) ↔ _ ∧ _ ∨ _ ∧ _
    rw [HEB.out, List.mem_append, List.mem_singleton]
    constructor
    · rintro ((h | h) | rfl)
      · exact .inl h
      · exact .inr ⟨h.1, .inl h.2⟩
      · exact .inr ⟨rfl, .inr rfl⟩
    · rintro (h | ⟨h, (h' | h')⟩)
      · exact .inl (.inl h)
      · exact .inl (.inr ⟨h, h'⟩)
      · exact .inr (Prod.ext h h')
  case doneA =>
    rintro V2 ⟨h1, ⟨ks, h2, h2m⟩, h3, h4⟩
    rw [List.take_length] at h2m
    show Exec _ _ _ _ _ _
    have kR : KeysAre ks (Fu.Reach l p 1) := fun x => by rw [h2m x]; show _ ↔ _ ∧ _; rw [HE0.out, HE1.out]
    have c3 := h3.lt
    clear h2m p0 p1 p2 p3 h4 itA
    -- the counter's first box
    refine exec_seq (exec_seq (exec_region_o fun ds => ?_))
    gi_wp2
    refine eq_mk ((Keep.refl _).alloc _) ?_
    show Exec _ _ _ _ _ _
    have gr := Grow.alloc V2.heap.size V2 (.cells #[.int .i64 2] 3)
    have hs2 := h1.below.size
    have n1 := stab V2.heap.size hs2 _ _ h1 gr
    have n2 := h2.grow gr
    have n3 := gr.boxed h3
    have n4 := Boxed.new V2 3 (.int .i64 2)
    refine (can_loop hm hg (by omega) HC hok hl _ ⟨2, V2.heap.size, bN, ks, by omega, Nat.le_refl _, n1, n2, kR, n3, n4, by omega, (by simp only [Slots, Fits, and_self])⟩).mono ?_
    clear n1 n2 n3 n4 gr hs2 h1 h2 h3 kR c3 ks
    clear V2
    rintro e t W ⟨rfl, bS, ks, hS, hK, hX, hB, hF⟩
    show Exec _ _ _ _ _ _
    obtain ⟨x, hx⟩ := Slots.open_ hF; simp only [fill, Nat.reduceAdd] at hx; subst hx; clear hF
    have k1 := hX.cell
    refine exec_seq (exec_region_o fun ds => ?_)
    gi_wp2_with (gi_at_len; refine walk_len rfl rfl rfl hS Try.underlying141 ?_)
    refine eq_mk (Keep.refl _) ?_
    refine exec_ret ⟨.inr rfl, fun W' hG => ?_⟩
    refine ⟨.bool (canB l p), ?_, rfl, hB.trans (hG.below (Nat.le_refl _) hB.size)⟩
    have e : (0 < ks.length) ↔ canP l p := by
      constructor
      · intro h
        refine .inr ⟨ks[0]'h, (hK _).1 (List.getElem_mem h)⟩
      · rintro (h | ⟨y, hy⟩)
        · omega
        · exact List.length_pos_of_mem ((hK y).2 hy)
    simp [results, Try.f58, go_sem, canB, e]
end Go.Proofs.Ytafmgmaelnpehaa
end

section
set_option linter.unusedVariables false
namespace Go.Fu
def upP (n : Int) : Int → Int → Bool := fun _ b => decide (b ≤ n)
theorem lo_mem (s : Int × Int) (h : okSpan s) : s.1 ∈ spanL s := (mem_spanL s s.1).2 ⟨Int.le_refl _, h.2.1⟩
theorem getD_mem (l : List (Int × Int)) (i : Nat) (h : i < l.length) : l.getD i (0, 0) ∈ l := by
  rw [List.getD_eq_getElem?_getD, List.getElem?_eq_getElem h]
  exact List.getElem_mem h
theorem span_ok (l : List (Int × Int)) (hok : ∀ x ∈ l, okSpan x) (i : Nat) (h : i < l.length) (y : Int) (hy : y ∈ spanL (l.getD i (0, 0))) : -1000 ≤ y ∧ y ≤ 1000 := by
  have := (mem_spanL _ _).1 hy
  obtain ⟨_, _, _⟩ := hok _ (getD_mem l i h)
  omega
theorem reach_bd (l : List (Int × Int)) (p : Int → Int → Bool) (hok : ∀ x ∈ l, okSpan x) : ∀ (n : Nat) (h : n < l.length) (x : Int × Int), Fu.Reach l p n x → (-1000 ≤ x.1 ∧ x.1 ≤ 1000) ∧ (-1000 ≤ x.2 ∧ x.2 ≤ 1000)
  | 0, _, _, hx => hx.elim
  | 1, h, x, hx => ⟨span_ok l hok 0 (by omega) _ hx.1, span_ok l hok 1 h _ hx.2⟩
  | n + 2, h, x, hx => by
    obtain ⟨h1, a, h2, _⟩ := hx
    exact ⟨(reach_bd l p hok (n + 1) (by omega) _ h2).2, span_ok l hok (n + 2) h _ h1⟩
theorem reach_all (l : List (Int × Int)) (hok : ∀ x ∈ l, okSpan x) : ∀ n : Nat, n + 1 < l.length → ∃ x, Fu.Reach l (upP 4000) (n + 1) x
  | 0, h => ⟨((l.getD 0 (0, 0)).1, (l.getD 1 (0, 0)).1), lo_mem _ (hok _ (getD_mem l 0 (by omega))), lo_mem _ (hok _ (getD_mem l 1 h))⟩
  | n + 1, h => by
    obtain ⟨x, hx⟩ := reach_all l hok n (by omega)
    have hb := reach_bd l _ hok (n + 1) (by omega) x hx
    have hm := lo_mem _ (hok _ (getD_mem l (n + 2) h))
    have hs := span_ok l hok (n + 2) h _ hm
    refine ⟨(x.2, (l.getD (n + 2) (0, 0)).1), hm, x.1, hx, ?_⟩
    exact decide_eq_true (bendI_bd _ _ _ hb.1 hb.2 hs).2
theorem can_4000 (l : List (Int × Int)) (hok : ∀ x ∈ l, okSpan x) : canB l (upP (4000 : Nat)) = true := by
  unfold canB
  simp only [decide_eq_true_eq]
  show l.length < 3 ∨ _
  by_cases h : l.length < 3
  · exact .inl h
  · obtain ⟨n, hn⟩ : ∃ n, l.length = n + 3 := ⟨l.length - 3, by omega⟩
    obtain ⟨x, hx⟩ := reach_all l hok (n + 1) (by omega)
    exact .inr ⟨x, by rw [hn]; exact hx⟩
theorem least_of {p : Nat → Prop} (h : ∃ n, p n) : ∃ n, p n ∧ ∀ m, m < n → ¬ p m := by
  obtain ⟨n, hn⟩ := h
  induction n using Nat.strongRecOn with
  | _ n ih =>
    by_cases hm : ∃ m, m < n ∧ p m
    · obtain ⟨m, h1, h2⟩ := hm
      exact ih m h1 h2
    · exact ⟨n, hn, fun m hlt hp => hm ⟨m, hlt, hp⟩⟩
/-- m is the least bend. -/
def IsLeast (l : List (Int × Int)) (m : Nat) : Prop := canB l (upP m) = true ∧ ∀ k : Nat, k < m → canB l (upP k) = false
theorem least_ex (l : List (Int × Int)) (hok : ∀ x ∈ l, okSpan x) : ∃ m : Nat, IsLeast l m ∧ m ≤ 4000 := by
  obtain ⟨m, h1, h2⟩ := least_of (p := fun n : Nat => canB l (upP n) = true) ⟨4000, can_4000 l hok⟩
  refine ⟨m, ⟨h1, fun k hk => by simpa using h2 k hk⟩, ?_⟩
  rcases Nat.lt_or_ge 4000 m with h | h
  · exact absurd (can_4000 l hok) (h2 4000 h)
  · exact h
theorem IsLeast.eq {l : List (Int × Int)} {m n : Nat} (h : IsLeast l m) (k : IsLeast l n) : m = n := by
  rcases Nat.lt_trichotomy m n with h1 | h1 | h1
  · have := k.2 m h1; rw [h.1] at this; cases this
  · exact h1
  · have := h.2 n h1; rw [k.1] at this; cases this
open Classical in
noncomputable def leastN (l : List (Int × Int)) : Nat := if h : ∃ m, IsLeast l m then Classical.choose h else 0
theorem leastN_is (l : List (Int × Int)) (hok : ∀ x ∈ l, okSpan x) : IsLeast l (leastN l) := by
  obtain ⟨m, hm, _⟩ := least_ex l hok
  unfold leastN
  rw [dif_pos ⟨m, hm⟩]
  exact Classical.choose_spec (⟨m, hm⟩ : ∃ m, IsLeast l m)
theorem leastN_eq {l : List (Int × Int)} (hok : ∀ x ∈ l, okSpan x) {m : Nat} (h : IsLeast l m) : leastN l = m := (leastN_is l hok).eq h
theorem leastN_le (l : List (Int × Int)) (hok : ∀ x ∈ l, okSpan x) : leastN l ≤ 4000 := by
  obtain ⟨m, hm, hl⟩ := least_ex l hok
  rw [leastN_eq hok hm]
  exact hl
/-- The greatest bend at the first k inner stations. -/
def hiF (l : List (Int × Int)) : Nat → Int
  | 0 => 0
  | k + 1 => if hiF l k < (atF l (k + 1)).2 then (atF l (k + 1)).2 else hiF l k
end Go.Fu
end

section
set_option linter.unusedVariables false
set_option linter.unusedSimpArgs false
namespace Go.Proofs.Ytafmgmaelnpehaa
open Go.RowKit Go.TL Go.Shelf Go.Fu
attribute [local go_sem] Oper.semAt_some
theorem run_store_func (P : Program) (w : World) (a : Addr) (f : Fn) (r c : Array Value) (m : Mode) : (store a (.func f r c) m).run P w = stored P w a (.func f r c) m := run_store P w a _ m rfl
attribute [local go_sem] run_store_func
set_option maxRecDepth 100000 in
theorem may_upTo (b : Nat) (n : Int) (w0 : World) (h : Boxed w0 b 3 (.int .i64 n)) : May 94 #[.pointer (some ⟨b, 0, none⟩)] (upP n) w0 where
  ent := enters_of Try.func94 (by kernel_rfl) rfl
  calls s bd W _ _ _ _ hW := by
    have h1 : W.cell? ⟨b, 0, none⟩ = some (.int .i64 n) := (hW.cell h.lt).trans h.cell
    go_enter Try.func94, Try.ntmps94
    go_wp2
    go_ret
    exact ⟨rfl, Below.refl _ _⟩
set_option maxRecDepth 100000 in
theorem upTo_any (n : Int) (w : World) : Calls Try.prog 59 #[.int .i64 n] w fun e w' => e = .returned (.agg #[.func (.func 94) #[] #[.pointer (some ⟨w.heap.size, 0, none⟩)]]) ∧ Below w.heap.size w w' ∧ Boxed w' w.heap.size 3 (.int .i64 n) := by
  have hmf : ∀ fn first cap w, (Instr.makeFunc fn first cap).run Try.prog w = .ok (.func fn first cap) w := fun _ _ _ _ => rfl
  have b1 : Boxed ((w.alloc (.cells #[.int .i64 n] 3)).alloc (.cells #[.nilFunc] 94)) (w.heap.size + 1) 94 .nilFunc := by (simp only [Boxed, Box2, heap_alloc_at, heap_set_at, World.size_alloc, World.size_setCell]; repeat (first | rfl | rw [if_pos (by omega)] | rw [if_neg (by omega)]))
  have c1 := b1.cell
  have f1 := b1.frozen
  go_enter Try.func59, Try.ntmps59
  go_wp2
  have b2 : Boxed ((w.alloc (.cells #[.int .i64 n] 3)).alloc (.cells #[.func (.func 94) #[] #[.pointer (some ⟨w.heap.size, 0, none⟩)]] 94)) (w.heap.size + 1) 94 (.func (.func 94) #[] #[.pointer (some ⟨w.heap.size, 0, none⟩)]) := by (simp only [Boxed, Box2, heap_alloc_at, heap_set_at, World.size_alloc, World.size_setCell]; repeat (first | rfl | rw [if_pos (by omega)] | rw [if_neg (by omega)]))
  have c2 := b2.cell
  refine ⟨rfl, .agg #[.func (.func 94) #[] #[.pointer (some ⟨w.heap.size, 0, none⟩)]], ?_, rfl, ((Below.refl _ w).alloc (Nat.le_refl _) _).alloc (by simp) _, ?_⟩
  · simp [results, Try.f59, go_sem, c2]
  · (simp only [Boxed, Box2, heap_alloc_at, heap_set_at, World.size_alloc, World.size_setCell]; repeat (first | rfl | rw [if_pos (by omega)] | rw [if_neg (by omega)]))
set_option maxRecDepth 100000 in
theorem first_any (gf : FuncId) (cap : Array Value) (ent : ∀ args w, (callFunc gf args).run Try.prog w = .ok (.enter gf args) w) (p : Nat → Bool) (m : Nat) (hm : p m = true) (hlt : ∀ k, k < m → p k = false) (hb : m ≤ 100000) (w : World)
    (hc : ∀ k, k ≤ m → ∀ W, Below w.heap.size w W → Calls Try.prog gf (#[.int .i64 k] ++ cap) W fun e w' => e = .returned (.bool (p k)) ∧ Below W.heap.size W w') :
    Calls Try.prog 90 #[.func (.func gf) #[] cap] w fun e w' => e = .returned (.int .i64 m) ∧ Below w.heap.size w w' := by
  refine calls_of_exec Try.func90 rfl ?_
  simp only [Try.ntmps90, List.size_toArray, List.length_cons, List.length_nil, Nat.reduceAdd, Nat.reduceSub, Array.replicate_succ, Array.replicate_zero, List.push_toArray, List.append_toArray, List.nil_append, List.cons_append]
  refine exec_seq (exec_region_o fun ds => ?_)
  gi_wp2
  refine eq_mk (Keep.refl w) ?_
  show Exec _ _ _ _ _ _
  refine exec_seq (exec_block ?_)
  refine exec_loop (fun j t W => ∃ k : Nat, k ≤ m ∧ j = m - k ∧ Below w.heap.size w W ∧ Slots [some (.func (.func gf) #[] cap), none, some (.int .i64 k), none, none, none, none, none, none, none] t) m ⟨0, by omega, by omega, Below.refl _ _, ⟨rfl, rfl, trivial⟩⟩ ?_
  rintro j t W ⟨k, hk, hj, hB, hF⟩
  obtain ⟨x, hx⟩ := Slots.open_ hF; simp only [fill, Nat.reduceAdd] at hx; subst hx; clear hF
  refine exec_seq (exec_seq (exec_region_o fun ds => ?_))
  gi_wp2_with fail
  refine ⟨trivial, rfl, (callsIn_wide.2 (hc k hk W hB)).mono ?_⟩
  rintro e w' ⟨rfl, hw'⟩
  gi_wp2_with fail
  refine eq_mk (Keep.of_below hw') ?_
  show Exec _ _ _ _ _ _
  have hB' := hB.trans (hw'.mono hB.size)
  refine exec_cond (b := !p k) rfl (fun hp => ?_) (fun hp => ?_)
  · have hp' : p k = false := by simpa using hp
    have hkm : k < m := by
      rcases Nat.lt_or_ge k m with h | h
      · exact h
      · rw [show k = m by omega, hm] at hp'; cases hp'
    refine exec_skip ?_
    show Exec _ _ _ _ _ _
    refine exec_block (exec_region_o fun ds => ?_)
    gi_wp2
    refine eq_mk (Keep.refl _) ⟨j - 1, by omega, k + 1, by omega, by omega, hB', ?_⟩
    exact ⟨rfl, by simp, trivial⟩
  · have hp' : p k = true := by simpa using hp
    have hkm : k = m := by
      rcases Nat.lt_or_ge k m with h | h
      · rw [hlt k h] at hp'; cases hp'
      · omega
    subst hkm
    refine exec_exit ?_
    show Exec _ _ _ _ _ _
    refine exec_seq (exec_region_o fun ds => ?_)
    gi_wp2
    refine eq_mk (Keep.refl _) ?_
    refine exec_ret ⟨.inr rfl, fun W' hG => ⟨.int .i64 k, by simp [results, Try.f90, go_sem], rfl, hB'.trans (hG.below (Nat.le_refl _) hB'.size)⟩⟩
end Go.Proofs.Ytafmgmaelnpehaa
end

section
set_option linter.unusedVariables false
set_option linter.unusedSimpArgs false
namespace Go.Proofs.Ytafmgmaelnpehaa
open Go.RowKit Go.TL Go.Shelf Go.Fu
attribute [local go_sem] Oper.semAt_some
attribute [local go_sem] run_store_func
theorem can_up (A : Option Addr) (c : Nat) (l : List (Int × Int)) (hl : l.length ≤ 8) (hok : ∀ x ∈ l, okSpan x) (n : Int) (W : World) (hf : Spans W A l) (b : Nat) (hb : Boxed W b 3 (.int .i64 n)) :
    Calls Try.prog 58 #[.slice A l.length c, .agg #[.func (.func 94) #[] #[.pointer (some ⟨b, 0, none⟩)]]] W fun e w' => e = .returned (.bool (canB l (upP n))) ∧ Below W.heap.size W w' :=
  can_any A c l hl hok (upP n) W hf 94 _ (may_upTo b n W hb)
set_option maxRecDepth 100000 in
theorem least1_any (A : Option Addr) (c : Nat) (l : List (Int × Int)) (hl : l.length ≤ 8) (hok : ∀ x ∈ l, okSpan x) (n : Int) (w : World) (hf : Spans w A l) (b : Nat) (hb : Boxed w b 91 (.func (.func 58) #[.slice A l.length c] #[])) :
    Calls Try.prog 91 #[.int .i64 n, .pointer (some ⟨b, 0, none⟩)] w fun e w' => e = .returned (.bool (canB l (upP n))) ∧ Below w.heap.size w w' := by
  refine calls_of_exec Try.func91 rfl ?_
  simp only [Try.ntmps91, List.size_toArray, List.length_cons, List.length_nil, Nat.reduceAdd, Nat.reduceSub, Array.replicate_succ, Array.replicate_zero, List.push_toArray, List.append_toArray, List.nil_append, List.cons_append]
  refine exec_seq (exec_region_o fun ds => ?_)
  gi_wp2
  refine eq_mk (Keep.refl w) ?_
  show Exec _ _ _ _ _ _
  refine exec_seq (region_of_tail 5 (by kernel_rfl) (by kernel_rfl) (by kernel_rfl) (fun W' => Below w.heap.size w W') (fun _ _ _ => False) (fun _ _ _ h => h.elim) fun ds => ?_)
  have cb : ∀ W', Below w.heap.size w W' → W'.cell? ⟨b, 0, none⟩ = some (.func (.func 58) #[.slice A l.length c] #[]) := fun W' hw => (hw.cell hb.lt).trans hb.cell
  have hS : Below w.heap.size w w.drew := (Below.refl _ w).drew
  refine held_take 0 (.func (.func 58) #[.slice A l.length c] #[]) rfl (by kernel_rfl) (by kernel_rfl) (by kernel_rfl) (by intro _ _ _ h; first | exact h | (simpa [behind, Act.put] using h)) rfl (by first | exact hS | assumption) (fun wq hq => ?_) ?_; (focus (first | rfl | (simp [go_sem, cb wq hq]; done))); simp only [Act.put, List.setIfInBounds_toArray, List.set_cons_succ, List.set_cons_zero]
  refine held_take 1 (.int .i64 n) rfl (by kernel_rfl) (by kernel_rfl) (by kernel_rfl) (by intro _ _ _ h; first | exact h | (simpa [behind, Act.put] using h)) rfl (by first | exact hS | assumption) (fun wq hq => ?_) ?_; (focus (first | rfl | (simp [go_sem]; done))); simp only [Act.put, List.setIfInBounds_toArray, List.set_cons_succ, List.set_cons_zero]
  refine held_call 2 (f := 59) (args := #[.int .i64 n]) rfl (by kernel_rfl) rfl (by simp [go_sem]) ?_
  refine (upTo_any n w.drew).mono ?_
  rintro e W1 ⟨rfl, hB1, hx1⟩
  have hS1 : Below w.heap.size w W1 := hS.trans hB1
  refine .inl ⟨_, rfl, hS1, ?_⟩
  simp only [Act.put, List.setIfInBounds_toArray, List.set_cons_succ, List.set_cons_zero]
  refine held_call 3 (f := 58) (args := #[.slice A l.length c, .agg #[.func (.func 94) #[] #[.pointer (some ⟨w.heap.size, 0, none⟩)]]]) rfl (by kernel_rfl) rfl (by simp [go_sem]) ?_
  refine (can_up A c l hl hok n W1 (hf.grow (Grow.of_below (B := 0) hS1)) _ hx1).mono ?_
  rintro e W2 ⟨rfl, hB2⟩
  have hS2 : Below w.heap.size w W2 := hS1.trans (hB2.mono hS1.size)
  refine .inl ⟨_, rfl, hS2, ?_⟩
  simp only [Act.put, List.setIfInBounds_toArray, List.set_cons_succ, List.set_cons_zero]
  refine held_take 4 (.bool (canB l (upP n))) rfl (by kernel_rfl) (by kernel_rfl) (by kernel_rfl) (by intro _ _ _ h; first | exact h | (simpa [behind, Act.put] using h)) rfl (by first | exact hS | assumption) (fun wq hq => ?_) ?_; (focus (first | rfl | (simp [go_sem]; done))); simp only [Act.put, List.setIfInBounds_toArray, List.set_cons_succ, List.set_cons_zero]
  refine held_done (by kernel_rfl) ?_
  refine any_done (by kernel_rfl) ⟨rfl, Keep.of_below hS2, ?_⟩
  show Exec _ _ _ _ _ _
  refine exec_ret ⟨.inr rfl, fun W' hG => ⟨.bool (canB l (upP n)), by simp [results, Try.f91, go_sem], rfl, hS2.trans (hG.below (Nat.le_refl _) hS2.size)⟩⟩

/-- Each number is a bend that is enough, from the least one on. -/
noncomputable def upB (l : List (Int × Int)) (n : Nat) : Bool := canB l (upP n)
set_option maxRecDepth 100000 in
theorem least_any (A : Option Addr) (c : Nat) (l : List (Int × Int)) (hl : l.length ≤ 8) (hok : ∀ x ∈ l, okSpan x) (m : Nat) (hm : canB l (upP m) = true) (hlt : ∀ k : Nat, k < m → canB l (upP k) = false) (hb : m ≤ 100000) (w : World) (hf : Spans w A l) :
    Calls Try.prog 49 #[.slice A l.length c] w fun e w' => e = .returned (.int .i64 m) ∧ Below w.heap.size w w' := by
  have hmf : ∀ fn first cap w, (Instr.makeFunc fn first cap).run Try.prog w = .ok (.func fn first cap) w := fun _ _ _ _ => rfl
  refine calls_of_exec Try.func49 rfl ?_
  simp only [Try.ntmps49, List.size_toArray, List.length_cons, List.length_nil, Nat.reduceAdd, Nat.reduceSub, Array.replicate_succ, Array.replicate_zero, List.push_toArray, List.append_toArray, List.nil_append, List.cons_append]
  refine exec_seq (exec_region_o fun ds => ?_)
  gi_wp2
  refine eq_mk (Keep.refl w) ?_
  show Exec _ _ _ _ _ _
  refine exec_seq (exec_region_o fun ds => ?_)
  gi_wp2
  refine eq_mk ((Keep.refl _).alloc _) ?_
  show Exec _ _ _ _ _ _
  have hB := (Below.refl w.heap.size w).alloc (Nat.le_refl _) (.cells #[.func (.func 58) #[.slice A l.length c] #[]] 91)
  have hX := Boxed.new w 91 (.func (.func 58) #[.slice A l.length c] #[])
  have hf' := hf.grow (Grow.of_below (B := 0) hB)
  generalize w.alloc (.cells #[.func (.func 58) #[.slice A l.length c] #[]] 91) = W at *
  refine exec_seq (exec_region_o fun ds => ?_)
  gi_wp2_with fail
  refine ⟨trivial, rfl, (callsIn_wide.2 (first_any 91 #[.pointer (some ⟨w.heap.size, 0, none⟩)] (enters_of Try.func91 (by kernel_rfl) rfl) (upB l) m hm hlt hb W ?_)).mono ?_⟩
  · intro k _ W' hW'
    exact least1_any A c l hl hok k W' (hf'.grow (Grow.of_below (B := 0) hW')) _ ((hW'.block _ hX.lt).trans hX)
  rintro e w' ⟨rfl, hw'⟩
  gi_wp2_with fail
  refine eq_mk (Keep.of_below hw') ?_
  have hB' := hB.trans (hw'.mono hB.size)
  refine exec_ret ⟨.inr rfl, fun W' hG => ⟨.int .i64 m, by simp [results, Try.f49, go_sem], rfl, hB'.trans (hG.below (Nat.le_refl _) hB'.size)⟩⟩
end Go.Proofs.Ytafmgmaelnpehaa
end

section
namespace Go.TL
open Go Go.RowKit
theorem split_rest {F : Fence} {n : Nat} {P : Program} {Q : Exit → Act → World → Prop} {a : Act} {w : World} {x y rest : Code} (h : ∀ rest', rest' = rest → (Code.seq x (.seq y rest')).wpIn F n P Q a w) : (Code.seq x (.seq y rest)).wpIn F n P Q a w := h rest rfl
theorem behind_normal {P : Program} {md : Region.Mode} {pre tail : Array Oper} {Q : Exit → Act → World → Prop} {a : Act} {w : World} (k : Nat) (hk : tail.size = k)
    (h : wpAny P md (pre ++ tail) Q k (Array.replicate pre.size true ++ Array.replicate k false) a w) : behind P md pre tail Q .normal a w := by subst hk; exact h
end Go.TL
end

section
set_option linter.unusedVariables false
set_option linter.unusedSimpArgs false
namespace Go.Proofs.Ytafmgmaelnpehaa
open Go.RowKit Go.TL Go.Shelf Go.Fu
attribute [local go_sem] Oper.semAt_some
open PFurrowAsks
/-- What 'At' answers. -/
noncomputable def atV (b : Bool) (l : List (Int × Int)) (s : Int) : (Int × Int) × Int := if b then if 0 < s ∧ s + 1 < l.length then (atF l s.toNat, 0) else ((0, 0), 2) else ((0, 0), 1)
def Fur.pl (F : Fur) : List (Int × Int) := F.l0.map toP
theorem Fur.pl_len (F : Fur) : F.pl.length = F.l0.length := by simp [Fur.pl]
theorem boxed_set {W : World} {b : Nat} {t : TypeId} {x : Value} (h : Boxed W b t x) (v : Value) : Boxed (W.setCell ⟨b, 0, none⟩ v) b t v := by (simp only [Boxed, Box2, heap_alloc_at, heap_set_at, World.size_alloc, World.size_setCell]; repeat (first | rfl | exact h | rw [if_pos (by omega)] | rw [if_neg (by omega)] | rw [show _ = _ from h]))
theorem box2_far {W : World} {b k : Nat} {t : TypeId} {x y : Int} (h : Box2 W k t x y) (v : Value) (hne : k ≠ b) : Box2 (W.setCell ⟨b, 0, none⟩ v) k t x y := (Below.heap_setCell W _ v k hne).trans h
theorem boxed_far {W : World} {b k : Nat} {t : TypeId} {x : Value} (h : Boxed W k t x) (v : Value) (hne : k ≠ b) : Boxed (W.setCell ⟨b, 0, none⟩ v) k t x := (Below.heap_setCell W _ v k hne).trans h
/-- Results: a span, and an error. -/
theorem results_span {fn : Func} {p q : Tmp} (hr : fn.results = #[.cell p 28, .cell q 29]) {t : Array Value} {x y : Nat} (hp : t[p]? = some (.pointer (some ⟨x, 0, none⟩))) (hq : t[q]? = some (.pointer (some ⟨y, 0, none⟩))) {W : World} {a b e : Int}
    (hx : Box2 W x 28 a b) (hy : Boxed W y 29 (.int .i64 e)) : (results fn t).run Try.prog W = .ok (.tuple #[.agg #[.int .i64 a, .int .i64 b], .int .i64 e]) W := by
  have h0 := hx.cell0
  have h1 := hx.cell1
  have h2 := hy.cell
  simp [results, hr, hp, hq, go_sem, h0, h1, h2]
set_option maxRecDepth 100000 in
set_option maxHeartbeats 2000000 in
theorem At_any (F : Fur) (b : Bool) (s : Int) (w : World) (h : F.At w) (hi : F.Is b) (hl : F.l0.length ≤ 40) (h8 : b = true → F.l0.length ≤ 8 ∧ ∀ x ∈ F.pl, okSpan x) :
    Calls Try.prog 17 #[F.val, .int .i64 s] w fun e w' => e = .returned (.tuple #[.agg #[.int .i64 (atV b F.pl s).1.1, .int .i64 (atV b F.pl s).1.2], .int .i64 (atV b F.pl s).2]) ∧ Below w.heap.size w w' := by
  have hmf : ∀ fn first cap w, (Instr.makeFunc fn first cap).run Try.prog w = .ok (.func fn first cap) w := fun _ _ _ _ => rfl
  refine (callsIn_wide (n := 0)).1 (callsIn_of_wp_marks Try.func17 rfl trivial ?_)
  simp only [Try.ntmps17, List.size_toArray, List.length_cons, List.length_nil, Nat.reduceAdd, Nat.reduceSub, Array.replicate_succ, Array.replicate_zero, List.push_toArray, List.append_toArray, List.nil_append, List.cons_append]
  simp only [Fur.val]
  refine split_rest fun rest hR => ?_
  gi_wp2
  have hB := (((Below.refl w.heap.size w).alloc (Nat.le_refl _) (.cells #[F.s0, F.s1, F.s2] 24)).alloc (by simp) (.cells #[.int .i64 0, .int .i64 0] 28)).alloc (by simp; omega) (.cells #[.int .i64 0] 29)
  have b1 : Box3 (((w.alloc (.cells #[F.s0, F.s1, F.s2] 24)).alloc (.cells #[.int .i64 0, .int .i64 0] 28)).alloc (.cells #[.int .i64 0] 29)) w.heap.size 24 F.s0 F.s1 F.s2 := ((Box3.new w 24 F.s0 F.s1 F.s2).grow (Grow.alloc 0 _ _)).grow (Grow.alloc 0 _ _)
  have b2 : Box2 (((w.alloc (.cells #[F.s0, F.s1, F.s2] 24)).alloc (.cells #[.int .i64 0, .int .i64 0] 28)).alloc (.cells #[.int .i64 0] 29)) (w.heap.size + 1) 28 0 0 := by (simp only [Boxed, Box2, heap_alloc_at, heap_set_at, World.size_alloc, World.size_setCell]; repeat (first | rfl | rw [if_pos (by omega)] | rw [if_neg (by omega)]))
  have b3 : Boxed (((w.alloc (.cells #[F.s0, F.s1, F.s2] 24)).alloc (.cells #[.int .i64 0, .int .i64 0] 28)).alloc (.cells #[.int .i64 0] 29)) (w.heap.size + 1 + 1) 29 (.int .i64 0) := by (simp only [Boxed, Box2, heap_alloc_at, heap_set_at, World.size_alloc, World.size_setCell]; repeat (first | rfl | rw [if_pos (by omega)] | rw [if_neg (by omega)]))
  refine guard_rest (lo := w.heap.size) (T := 132) (b := w.heap.size + 1 + 1) catches52 ⟨_, _, rfl⟩ (fun W => by simp [go_sem]) hB.size ?_
  subst hR
  generalize ((w.alloc (.cells #[F.s0, F.s1, F.s2] 24)).alloc (.cells #[.int .i64 0, .int .i64 0] 28)).alloc (.cells #[.int .i64 0] 29) = V at *
  clear hmf
  have hF := h.below hB
  refine exec_seq (region_of_tail 7 (by kernel_rfl) (by kernel_rfl) (by kernel_rfl) (fun W' => Below V.heap.size V W')
    (fun c t W => ∃ code, c = misfit code ∧ atV b F.pl s = ((0, 0), code) ∧ (t[4]? = some (.pointer (some ⟨w.heap.size + 1, 0, none⟩)) ∧ t[5]? = some (.pointer (some ⟨w.heap.size + 1 + 1, 0, none⟩))) ∧ Below V.heap.size V W) ?_ fun ds => ?_)
  · rintro c t W ⟨code, rfl, hv, ⟨ht4, ht5⟩, hW⟩
    refine .inr ⟨code, 29, 0, rfl, (hW.block _ b3.lt).trans b3, ?_⟩
    rintro W' W'' hG rfl
    have hB2 := hB.trans (hW.mono hB.size)
    have c2 := hG.box2 (show Box2 W (w.heap.size + 1) 28 0 0 from (hW.block _ b2.lt).trans b2)
    have c3 := hG.boxed (show Boxed W (w.heap.size + 1 + 1) 29 (.int .i64 0) from (hW.block _ b3.lt).trans b3)
    refine ⟨_, results_span rfl ht4 ht5 (box2_far c2 _ (by omega)) (boxed_set c3 _), by rw [hv], (hB2.trans (hG.below (Nat.le_refl _) hB2.size)).setCell (by show w.heap.size ≤ w.heap.size + 1 + 1; omega) _⟩
  have hS : Below V.heap.size V V.drew := (Below.refl _ V).drew
  have c0 : ∀ W', Below V.heap.size V W' → W'.cell? ⟨w.heap.size, 0, none⟩ = some F.s0 ∧ W'.cell? ⟨w.heap.size, 1, none⟩ = some F.s1 ∧ W'.cell? ⟨w.heap.size, 2, none⟩ = some F.s2 := fun W' hw =>
    ⟨(hw.cell b1.lt).trans b1.cell0, (hw.cell b1.lt).trans b1.cell1, (hw.cell b1.lt).trans b1.cell2⟩
  refine held_take 0 (.agg #[F.s0, F.s1, F.s2]) rfl (by kernel_rfl) (by kernel_rfl) (by kernel_rfl) (by intro _ _ _ h; first | exact h | (simpa [behind, Act.put] using h)) rfl (by first | exact hS | assumption) (fun wq hq => ?_) ?_; (focus (first | rfl | (simp [go_sem, (c0 wq hq).1, (c0 wq hq).2.1, (c0 wq hq).2.2]; done))); simp only [Act.put, List.setIfInBounds_toArray, List.set_cons_succ, List.set_cons_zero]
  refine held_take 1 (.agg #[F.s0, F.s1, F.s2]) rfl (by kernel_rfl) (by kernel_rfl) (by kernel_rfl) (by intro _ _ _ h; first | exact h | (simpa [behind, Act.put] using h)) rfl (by first | exact hS | assumption) (fun wq hq => ?_) ?_; (focus (first | rfl | (simp [go_sem, (c0 wq hq).1, (c0 wq hq).2.1, (c0 wq hq).2.2]; done))); simp only [Act.put, List.setIfInBounds_toArray, List.set_cons_succ, List.set_cons_zero]
  refine held_take 2 (.int .i64 s) rfl (by kernel_rfl) (by kernel_rfl) (by kernel_rfl) (by intro _ _ _ h; first | exact h | (simpa [behind, Act.put] using h)) rfl (by first | exact hS | assumption) (fun wq hq => ?_) ?_; (focus (first | rfl | (simp [go_sem]; done))); simp only [Act.put, List.setIfInBounds_toArray, List.set_cons_succ, List.set_cons_zero]
  refine held_take 5 (.int .i64 s) rfl (by kernel_rfl) (by kernel_rfl) (by kernel_rfl) (by intro _ _ _ h; first | exact h | (simpa [behind, Act.put] using h)) rfl (by first | exact hS | assumption) (fun wq hq => ?_) ?_; (focus (first | rfl | (simp [go_sem]; done))); simp only [Act.put, List.setIfInBounds_toArray, List.set_cons_succ, List.set_cons_zero]
  refine held_call 3 (f := 53) (args := #[.agg #[F.s0, F.s1, F.s2], .int .i64 s]) rfl (by kernel_rfl) rfl (by simp [go_sem]) ?_
  refine (isInner_any F s V.drew (hF.below hS) (by omega)).mono ?_
  rintro e W1 ⟨rfl, hw1⟩
  have hS1 : Below V.heap.size V W1 := hS.trans hw1
  refine .inl ⟨_, rfl, hS1, ?_⟩
  simp only [Act.put, List.setIfInBounds_toArray, List.set_cons_succ, List.set_cons_zero]
  refine held_call 4 (f := 47) (args := #[.agg #[F.s0, F.s1, F.s2], .bool (decide (0 < s ∧ s + 1 < F.l0.length))]) rfl (by kernel_rfl) rfl (by simp [go_sem]) ?_
  by_cases hb : b = false
  · subst hb
    refine (open_no1 F _ W1 (hF.below hS1) hi).mono ?_
    rintro e W2 ⟨rfl, hw2⟩
    exact .inr ⟨_, rfl, rfl, Keep.of_below (hS1.trans (hw2.mono hS1.size)), 1, rfl, by simp [atV], ⟨rfl, rfl⟩, hS1.trans (hw2.mono hS1.size)⟩
  have hb' : b = true := by simpa using hb
  subst hb'
  obtain ⟨hl8, hok⟩ := h8 rfl
  by_cases hin : 0 < s ∧ s + 1 < F.l0.length
  · simp only [hin, and_self, decide_true]
    refine (open_yes F W1 (hF.below hS1) hi hl8).mono ?_
    rintro e W2 ⟨A, c, rfl, hc, hsp, hw2, hAb⟩
    have hS2 : Below V.heap.size V W2 := hS1.trans (hw2.mono hS1.size)
    refine .inl ⟨_, rfl, hS2, ?_⟩
    simp only [Act.put, List.setIfInBounds_toArray, List.set_cons_succ, List.set_cons_zero]
    obtain ⟨n, rfl⟩ : ∃ n : Nat, s = n := ⟨s.toNat, by omega⟩
    refine held_call 6 (f := 48) (args := #[.slice A F.l0.length c, .int .i64 n]) rfl (by kernel_rfl) rfl (by simp [go_sem]) ?_
    have hat := at_any A c F.pl n (by omega) (by have := F.pl_len; omega) (by have := F.pl_len; omega) hok W2 hsp
    rw [F.pl_len] at hat
    refine hat.mono ?_
    rintro e W3 ⟨rfl, hw3⟩
    have hS3 : Below V.heap.size V W3 := hS2.trans (hw3.mono hS2.size)
    refine .inl ⟨_, rfl, hS3, ?_⟩
    simp only [Act.put, List.setIfInBounds_toArray, List.set_cons_succ, List.set_cons_zero]
    refine held_done (by kernel_rfl) ?_
    have d2 : Box2 W3 (w.heap.size + 1) 28 0 0 := (hS3.block _ b2.lt).trans b2
    have d3 : Boxed W3 (w.heap.size + 1 + 1) 29 (.int .i64 0) := (hS3.block _ b3.lt).trans b3
    have f1 := d2.cell0
    have f2 := d2.cell1
    have f3 := d2.frozen
    have f4 := d3.cell
    have f5 := d3.frozen
    refine behind_normal 2 (by kernel_rfl) ?_
    refine any_skip 7 ((W3.setCell ⟨w.heap.size + 1, 0, none⟩ (.int .i64 (atF F.pl n).1)).setCell ⟨w.heap.size + 1, 1, none⟩ (.int .i64 (atF F.pl n).2)) rfl (by kernel_rfl) rfl (by simp [go_sem, f1, f2, f3]) ?_; simp only [Act.put, List.setIfInBounds_toArray, List.set_cons_succ, List.set_cons_zero]
    have g2 : Box2 ((W3.setCell ⟨w.heap.size + 1, 0, none⟩ (.int .i64 (atF F.pl n).1)).setCell ⟨w.heap.size + 1, 1, none⟩ (.int .i64 (atF F.pl n).2)) (w.heap.size + 1) 28 (atF F.pl n).1 (atF F.pl n).2 := by (simp only [Boxed, Box2, heap_alloc_at, heap_set_at, World.size_alloc, World.size_setCell]; repeat (first | rfl | exact d2 | rw [if_pos (by omega)] | rw [if_neg (by omega)] | rw [show _ = _ from d2]))
    have g3 : Boxed ((W3.setCell ⟨w.heap.size + 1, 0, none⟩ (.int .i64 (atF F.pl n).1)).setCell ⟨w.heap.size + 1, 1, none⟩ (.int .i64 (atF F.pl n).2)) (w.heap.size + 1 + 1) 29 (.int .i64 0) := by (simp only [Boxed, Box2, heap_alloc_at, heap_set_at, World.size_alloc, World.size_setCell]; repeat (first | rfl | exact d3 | rw [if_pos (by omega)] | rw [if_neg (by omega)] | rw [show _ = _ from d3]))
    have hK : Keep V ((W3.setCell ⟨w.heap.size + 1, 0, none⟩ (.int .i64 (atF F.pl n).1)).setCell ⟨w.heap.size + 1, 1, none⟩ (.int .i64 (atF F.pl n).2)) := ((Keep.of_below hS3).setCell _ _).setCell _ _
    have hB4 : Below w.heap.size w ((W3.setCell ⟨w.heap.size + 1, 0, none⟩ (.int .i64 (atF F.pl n).1)).setCell ⟨w.heap.size + 1, 1, none⟩ (.int .i64 (atF F.pl n).2)) := ((hB.trans (hS3.mono hB.size)).setCell (by show w.heap.size ≤ w.heap.size + 1; omega) _).setCell (by show w.heap.size ≤ w.heap.size + 1; omega) _
    generalize (W3.setCell ⟨w.heap.size + 1, 0, none⟩ (.int .i64 (atF F.pl n).1)).setCell ⟨w.heap.size + 1, 1, none⟩ (.int .i64 (atF F.pl n).2) = W4 at *
    have f4 := g3.cell
    have f5 := g3.frozen
    refine any_skip 8 (W4.setCell ⟨w.heap.size + 1 + 1, 0, none⟩ (.int .i64 0)) rfl (by kernel_rfl) rfl (by simp [go_sem, f4, f5]) ?_; simp only [Act.put, List.setIfInBounds_toArray, List.set_cons_succ, List.set_cons_zero]
    have g4 := boxed_set g3 (.int .i64 0)
    have g5 := box2_far g2 (b := w.heap.size + 1 + 1) (.int .i64 0) (by omega)
    have hB5 := hB4.setCell (p := ⟨w.heap.size + 1 + 1, 0, none⟩) (by show w.heap.size ≤ w.heap.size + 1 + 1; omega) (.int .i64 0)
    have hv : atV true F.pl n = (atF F.pl n, 0) := by
      unfold atV
      rw [if_pos rfl, if_pos ⟨hin.1, by have := F.pl_len; omega⟩]
      rfl
    refine any_done (by kernel_rfl) ⟨rfl, hK.setCell _ _, ?_⟩
    show Exec _ _ _ _ _ _
    refine exec_ret (.inl ⟨.inr rfl, g4.lt, fun W' hG => ⟨_, results_span rfl rfl rfl (hG.box2 g5) (hG.boxed g4), by rw [hv], hB5.trans (hG.below (Nat.le_refl _) hB5.size)⟩⟩)
  · have hd : decide (0 < s ∧ s + 1 < (F.l0.length : Int)) = false := decide_eq_false hin
    rw [hd]
    refine (open_no2 F W1 (hF.below hS1) hi).mono ?_
    rintro e W2 ⟨rfl, hw2⟩
    refine .inr ⟨_, rfl, rfl, Keep.of_below (hS1.trans (hw2.mono hS1.size)), 2, rfl, ?_, ⟨rfl, rfl⟩, hS1.trans (hw2.mono hS1.size)⟩
    unfold atV
    rw [if_pos rfl, if_neg (by rw [F.pl_len]; exact hin)]
end Go.Proofs.Ytafmgmaelnpehaa
end

section
set_option linter.unusedVariables false
set_option linter.unusedSimpArgs false
namespace Go.Proofs.Ytafmgmaelnpehaa
open Go.RowKit Go.TL Go.Shelf Go.Fu
attribute [local go_sem] Oper.semAt_some
open PFurrowAsks
theorem Spans.far {W : World} {A : Option Addr} {l : List (Int × Int)} (h : Spans W A l) {p : Addr} {v : Value} (hne : ∀ a, A = some a → a.block ≠ p.block) : Spans (W.setCell p v) A l := by
  rcases h with rfl | ⟨g, off, rfl, hc⟩
  · exact .inl rfl
  · have hb : (W.setCell p v).heap[g]? = W.heap[g]? := Below.heap_setCell W p v g (hne _ rfl)
    have e : ∀ o, (W.setCell p v).cell? ⟨g, o, none⟩ = W.cell? ⟨g, o, none⟩ := fun o => by unfold World.cell?; simp only [hb]
    exact .inr ⟨g, off, rfl, fun i hi => by rw [e, e]; exact hc i hi⟩
/-- What 'Bend' answers. -/
noncomputable def bendV (b : Bool) (l : List (Int × Int)) : (Int × Int) × Int := if b then ((leastN l, hiF l (l.length - 2)), 0) else ((0, 0), 1)
set_option maxRecDepth 100000 in
set_option maxHeartbeats 600000 in
theorem Bend_any (F : Fur) (b : Bool) (w : World) (h : F.At w) (hi : F.Is b) (h8 : b = true → F.l0.length ≤ 8 ∧ ∀ x ∈ F.pl, okSpan x) :
    Calls Try.prog 15 #[F.val] w fun e w' => e = .returned (.tuple #[.agg #[.int .i64 (bendV b F.pl).1.1, .int .i64 (bendV b F.pl).1.2], .int .i64 (bendV b F.pl).2]) ∧ Below w.heap.size w w' := by
  have hmf : ∀ fn first cap w, (Instr.makeFunc fn first cap).run Try.prog w = .ok (.func fn first cap) w := fun _ _ _ _ => rfl
  refine (callsIn_wide (n := 0)).1 (callsIn_of_wp_marks Try.func15 rfl trivial ?_)
  simp only [Try.ntmps15, List.size_toArray, List.length_cons, List.length_nil, Nat.reduceAdd, Nat.reduceSub, Array.replicate_succ, Array.replicate_zero, List.push_toArray, List.append_toArray, List.nil_append, List.cons_append]
  simp only [Fur.val]
  refine split_rest fun rest hR => ?_
  gi_wp2
  have hB := (((Below.refl w.heap.size w).alloc (Nat.le_refl _) (.cells #[F.s0, F.s1, F.s2] 24)).alloc (by simp) (.cells #[.int .i64 0, .int .i64 0] 28)).alloc (by simp; omega) (.cells #[.int .i64 0] 29)
  have b1 : Box3 (((w.alloc (.cells #[F.s0, F.s1, F.s2] 24)).alloc (.cells #[.int .i64 0, .int .i64 0] 28)).alloc (.cells #[.int .i64 0] 29)) w.heap.size 24 F.s0 F.s1 F.s2 := ((Box3.new w 24 F.s0 F.s1 F.s2).grow (Grow.alloc 0 _ _)).grow (Grow.alloc 0 _ _)
  have b2 : Box2 (((w.alloc (.cells #[F.s0, F.s1, F.s2] 24)).alloc (.cells #[.int .i64 0, .int .i64 0] 28)).alloc (.cells #[.int .i64 0] 29)) (w.heap.size + 1) 28 0 0 := by (simp only [Boxed, Box2, heap_alloc_at, heap_set_at, World.size_alloc, World.size_setCell]; repeat (first | rfl | rw [if_pos (by omega)] | rw [if_neg (by omega)]))
  have b3 : Boxed (((w.alloc (.cells #[F.s0, F.s1, F.s2] 24)).alloc (.cells #[.int .i64 0, .int .i64 0] 28)).alloc (.cells #[.int .i64 0] 29)) (w.heap.size + 1 + 1) 29 (.int .i64 0) := by (simp only [Boxed, Box2, heap_alloc_at, heap_set_at, World.size_alloc, World.size_setCell]; repeat (first | rfl | rw [if_pos (by omega)] | rw [if_neg (by omega)]))
  refine guard_rest (lo := w.heap.size) (T := 132) (b := w.heap.size + 1 + 1) catches45 ⟨_, _, rfl⟩ (fun W => by simp [go_sem]) hB.size ?_
  subst hR
  generalize ((w.alloc (.cells #[F.s0, F.s1, F.s2] 24)).alloc (.cells #[.int .i64 0, .int .i64 0] 28)).alloc (.cells #[.int .i64 0] 29) = V at *
  clear hmf
  have hF := h.below hB
  have c0 := b1.cell0
  have c1 := b1.cell1
  have c2 := b1.cell2
  refine exec_seq (exec_region_o fun ds => ?_)
  gi_wp2_with fail
  by_cases hb : b = false
  · subst hb
    refine ⟨trivial, rfl, (callsIn_wide.2 (open_no1 F _ V hF hi)).mono ?_⟩
    rintro e W2 ⟨rfl, hw2⟩
    refine eq_mk (Keep.of_below hw2) ?_
    refine .inr ⟨1, 29, 0, rfl, (hw2.block _ b3.lt).trans b3, ?_⟩
    rintro W' W'' hG rfl
    have hB2 := hB.trans (hw2.mono hB.size)
    have d2 := hG.box2 (show Box2 W2 (w.heap.size + 1) 28 0 0 from (hw2.block _ b2.lt).trans b2)
    have d3 := hG.boxed (show Boxed W2 (w.heap.size + 1 + 1) 29 (.int .i64 0) from (hw2.block _ b3.lt).trans b3)
    exact ⟨_, results_span rfl rfl rfl (box2_far d2 _ (by omega)) (boxed_set d3 _), by simp [bendV], (hB2.trans (hG.below (Nat.le_refl _) hB2.size)).setCell (by show w.heap.size ≤ w.heap.size + 1 + 1; omega) _⟩
  have hb' : b = true := by simpa using hb
  subst hb'
  obtain ⟨hl8, hok⟩ := h8 rfl
  refine ⟨trivial, rfl, (callsIn_wide.2 (open_yes F V hF hi hl8)).mono ?_⟩
  rintro e W2 ⟨A, c, rfl, hc, hsp, hw2, hAb⟩
  gi_wp2_with fail
  refine eq_mk (Keep.of_below hw2) ?_
  show Exec _ _ _ _ _ _
  have d2 : Box2 W2 (w.heap.size + 1) 28 0 0 := (hw2.block _ b2.lt).trans b2
  have d3 : Boxed W2 (w.heap.size + 1 + 1) 29 (.int .i64 0) := (hw2.block _ b3.lt).trans b3
  have hB2 := hB.trans (hw2.mono hB.size)
  have hpl : F.l0.length = F.pl.length := F.pl_len.symm
  rw [hpl] at hl8 hc ⊢
  have hsp' : Spans W2 A F.pl := hsp
  clear hsp
  have hAc : ∀ a, A = some a → w.heap.size + 1 + 1 < a.block := fun a ha => Nat.lt_of_lt_of_le b3.lt (hAb a ha)
  clear b1 b2 b3 c0 c1 c2 hF hw2 hB hAb
  clear V
  generalize F.pl = l at *
  refine exec_seq (exec_seq (exec_region_o fun ds => ?_))
  gi_wp2
  refine eq_mk (Keep.refl _) ?_
  show Exec _ _ _ _ _ _
  refine exec_block ?_
  refine exec_loop (fun j t W => ∃ k : Nat, k ≤ l.length - 2 ∧ j = l.length - 2 - k ∧ Box2 W (w.heap.size + 1) 28 0 (hiF l k) ∧ Boxed W (w.heap.size + 1 + 1) 29 (.int .i64 0) ∧ Below w.heap.size w W ∧ Spans W A l ∧
      Slots [none, none, some (.pointer (some ⟨w.heap.size + 1, 0, none⟩)), some (.pointer (some ⟨w.heap.size + 1 + 1, 0, none⟩)), some (.slice A l.length c), some (.int .i64 ((k : Int) + 1)), none, none, none, none, none, none, none, none, none, none, none, none, none, none, none, none, none, none, none, none, none, none] t) (l.length - 2)
    ⟨0, by omega, by omega, d2, d3, hB2, hsp', ⟨rfl, rfl, rfl, rfl, trivial⟩⟩ ?_
  clear d2 d3 hB2 hsp'
  clear W2
  rintro j t W ⟨k, hk, hj, d2, d3, hB, hsp, hSl⟩
  obtain ⟨x, hx⟩ := Slots.open_ hSl; simp only [fill, Nat.reduceAdd] at hx; subst hx; clear hSl
  refine exec_seq (exec_seq (exec_region_o fun ds => ?_))
  gi_wp2
  refine eq_mk (Keep.refl _) ?_
  show Exec _ _ _ _ _ _
  refine exec_cond (b := decide ((k : Int) + 1 + 1 < l.length)) rfl (fun hp => ?_) (fun hp => ?_)
  · have hkl : k + 2 < l.length := by have := of_decide_eq_true hp; omega
    refine exec_skip ?_
    show Exec _ _ _ _ _ _
    have hst : (if hiF l k < (atF l (k + 1)).2 then (atF l (k + 1)).2 else hiF l k) = hiF l (k + 1) := rfl
    obtain ⟨u, hu⟩ : ∃ u, hiF l (k + 1) = u := ⟨_, rfl⟩
    obtain ⟨x0, hx0⟩ : ∃ u, hiF l k = u := ⟨_, rfl⟩
    obtain ⟨y0, hy0⟩ : ∃ u, (atF l (k + 1)).2 = u := ⟨_, rfl⟩
    rw [hu, hx0, hy0] at hst
    rw [hx0] at d2
    refine exec_seq (exec_block ?_)
    have e1 : ((k : Int) + 1) = ((k + 1 : Nat) : Int) := by omega
    refine region_of_tail 7 (by kernel_rfl) (by kernel_rfl) (by kernel_rfl) (fun W' => Below W.heap.size W W') (fun _ _ _ => False) (fun _ _ _ h => h.elim) fun ds => ?_
    have hS : Below W.heap.size W W.drew := (Below.refl _ W).drew
    have cH : ∀ W', Below W.heap.size W W' → W'.cell? ⟨w.heap.size + 1, 1, none⟩ = some (.int .i64 (x0)) := fun W' hw => (hw.cell d2.lt).trans d2.cell1
    have cL : ∀ W', Below W.heap.size W W' → W'.cell? ⟨w.heap.size + 1, 0, none⟩ = some (.int .i64 0) := fun W' hw => (hw.cell d2.lt).trans d2.cell0
    refine held_take 0 (.pointer (some ⟨w.heap.size + 1, 1, none⟩)) rfl (by kernel_rfl) (by kernel_rfl) (by kernel_rfl) (by intro _ _ _ h; first | exact h | (simpa [behind, Act.put] using h)) rfl (by first | exact hS | assumption) (fun wq hq => ?_) ?_; (focus (first | rfl | (simp [go_sem, cL wq hq]; done))); simp only [Act.put, List.setIfInBounds_toArray, List.set_cons_succ, List.set_cons_zero]
    refine held_take 1 (.int .i64 (x0)) rfl (by kernel_rfl) (by kernel_rfl) (by kernel_rfl) (by intro _ _ _ h; first | exact h | (simpa [behind, Act.put] using h)) rfl (by first | exact hS | assumption) (fun wq hq => ?_) ?_; (focus (first | rfl | (simp [go_sem, cH wq hq]; done))); simp only [Act.put, List.setIfInBounds_toArray, List.set_cons_succ, List.set_cons_zero]
    refine held_take 2 (.slice A l.length c) rfl (by kernel_rfl) (by kernel_rfl) (by kernel_rfl) (by intro _ _ _ h; first | exact h | (simpa [behind, Act.put] using h)) rfl (by first | exact hS | assumption) (fun wq hq => ?_) ?_; (focus (first | rfl | (simp [go_sem]; done))); simp only [Act.put, List.setIfInBounds_toArray, List.set_cons_succ, List.set_cons_zero]
    refine held_take 3 (.int .i64 ((k : Int) + 1)) rfl (by kernel_rfl) (by kernel_rfl) (by kernel_rfl) (by intro _ _ _ h; first | exact h | (simpa [behind, Act.put] using h)) rfl (by first | exact hS | assumption) (fun wq hq => ?_) ?_; (focus (first | rfl | (simp [go_sem]; done))); simp only [Act.put, List.setIfInBounds_toArray, List.set_cons_succ, List.set_cons_zero]
    refine held_call 4 (f := 48) (args := #[.slice A l.length c, .int .i64 ((k : Int) + 1)]) rfl (by kernel_rfl) rfl (by simp [go_sem]) ?_
    rw [e1]
    refine (at_any A c l (k + 1) (by omega) (by omega) hl8 hok W.drew (hsp.grow (Grow.of_below (B := 0) hS))).mono ?_
    rintro e W3 ⟨rfl, hw3⟩
    have hS3 : Below W.heap.size W W3 := hS.trans hw3
    refine .inl ⟨_, rfl, hS3, ?_⟩
    simp only [Act.put, List.setIfInBounds_toArray, List.set_cons_succ, List.set_cons_zero]
    rw [hy0]
    refine held_take 5 (.int .i64 y0) rfl (by kernel_rfl) (by kernel_rfl) (by kernel_rfl) (by intro _ _ _ h; first | exact h | (simpa [behind, Act.put] using h)) rfl (by first | exact hS | assumption) (fun wq hq => ?_) ?_; (focus (first | rfl | (simp [go_sem]; done))); simp only [Act.put, List.setIfInBounds_toArray, List.set_cons_succ, List.set_cons_zero]
    refine held_take 6 (.int .i64 (u)) rfl (by kernel_rfl) (by kernel_rfl) (by kernel_rfl) (by intro _ _ _ h; first | exact h | (simpa [behind, Act.put] using h)) rfl (by first | exact hS | assumption) (fun wq hq => ?_) ?_; (focus (simp [go_sem, hst]; done)); simp only [Act.put, List.setIfInBounds_toArray, List.set_cons_succ, List.set_cons_zero]
    refine held_done (by kernel_rfl) ?_
    refine behind_normal 2 (by kernel_rfl) ?_
    have g2 : Box2 W3 (w.heap.size + 1) 28 0 (x0) := (hS3.block _ d2.lt).trans d2
    have g3 : Boxed W3 (w.heap.size + 1 + 1) 29 (.int .i64 0) := (hS3.block _ d3.lt).trans d3
    have f1 := g2.cell0
    have f2 := g2.cell1
    have f3 := g2.frozen
    refine any_val 7 (.pointer (some ⟨w.heap.size + 1, 1, none⟩)) rfl (by kernel_rfl) rfl (by first | (simp [go_sem, f1]; done) | rfl) ?_; simp only [Act.put, List.setIfInBounds_toArray, List.set_cons_succ, List.set_cons_zero]
    refine any_skip 8 (W3.setCell ⟨w.heap.size + 1, 1, none⟩ (.int .i64 (u))) rfl (by kernel_rfl) rfl (by simp [go_sem, f2, f3]) ?_; simp only [Act.put, List.setIfInBounds_toArray, List.set_cons_succ, List.set_cons_zero]
    refine any_done (by kernel_rfl) ⟨rfl, (Keep.of_below hS3).setCell _ _, ?_⟩
    show Exec _ _ _ _ _ _
    have g4 : Box2 (W3.setCell ⟨w.heap.size + 1, 1, none⟩ (.int .i64 (u))) (w.heap.size + 1) 28 0 (u) := by (simp only [Boxed, Box2, heap_alloc_at, heap_set_at, World.size_alloc, World.size_setCell]; repeat (first | rfl | exact g2 | rw [if_pos (by omega)] | rw [if_neg (by omega)] | rw [show _ = _ from g2]))
    have g5 : Boxed (W3.setCell ⟨w.heap.size + 1, 1, none⟩ (.int .i64 (u))) (w.heap.size + 1 + 1) 29 (.int .i64 0) := by (simp only [Boxed, Box2, heap_alloc_at, heap_set_at, World.size_alloc, World.size_setCell]; repeat (first | rfl | exact g3 | rw [if_pos (by omega)] | rw [if_neg (by omega)] | rw [show _ = _ from g3]))
    have g6 : Spans (W3.setCell ⟨w.heap.size + 1, 1, none⟩ (.int .i64 (u))) A l := (hsp.grow (Grow.of_below (B := 0) hS3)).far (fun a ha => by have := hAc a ha; show a.block ≠ w.heap.size + 1; omega)
    have hB4 := (hB.trans (hS3.mono hB.size)).setCell (p := ⟨w.heap.size + 1, 1, none⟩) (by show w.heap.size ≤ w.heap.size + 1; omega) (.int .i64 (u))
    generalize W3.setCell ⟨w.heap.size + 1, 1, none⟩ (.int .i64 (u)) = W4 at *
    clear f1 f2 f3 g2 g3 cH cL hS hS3 e1 hst hw3 hx0 hy0 d2 d3 hB hsp
    have HU := Lib.hid hu
    clear hu
    refine exec_region_o fun ds => ?_
    gi_wp2
    refine eq_mk (Keep.refl _) ⟨j - 1, by omega, k + 1, by omega, by omega, HU.out ▸ g4, g5, hB4, g6, ⟨rfl, rfl, rfl, by simp, trivial⟩⟩
  · have hkl : k = l.length - 2 := by have := of_decide_eq_false hp; omega
    subst hkl
    refine exec_exit ?_
    show Exec _ _ _ _ _ _
    have hls := leastN_is l hok
    have hll := leastN_le l hok
    refine exec_seq (exec_region_o fun ds => ?_)
    gi_wp2_with fail
    refine ⟨trivial, rfl, (callsIn_wide.2 (least_any A c l hl8 hok (leastN l) hls.1 hls.2 (by omega) W hsp)).mono ?_⟩
    rintro e W3 ⟨rfl, hw3⟩
    have g2 : Box2 W3 (w.heap.size + 1) 28 0 (hiF l (l.length - 2)) := (hw3.block _ d2.lt).trans d2
    have g3 : Boxed W3 (w.heap.size + 1 + 1) 29 (.int .i64 0) := (hw3.block _ d3.lt).trans d3
    have hB3 := hB.trans (hw3.mono hB.size)
    clear d2 d3 hB hsp
    have f1 := g2.cell0
    have f2 := g2.cell1
    have f3 := g2.frozen
    gi_wp2
    refine eq_mk ((Keep.of_below hw3).setCell _ _) ?_
    show Exec _ _ _ _ _ _
    have g4 : Box2 (W3.setCell ⟨w.heap.size + 1, 0, none⟩ (.int .i64 (leastN l))) (w.heap.size + 1) 28 (leastN l) (hiF l (l.length - 2)) := by (simp only [Boxed, Box2, heap_alloc_at, heap_set_at, World.size_alloc, World.size_setCell]; repeat (first | rfl | exact g2 | rw [if_pos (by omega)] | rw [if_neg (by omega)] | rw [show _ = _ from g2]))
    have g5 : Boxed (W3.setCell ⟨w.heap.size + 1, 0, none⟩ (.int .i64 (leastN l))) (w.heap.size + 1 + 1) 29 (.int .i64 0) := by (simp only [Boxed, Box2, heap_alloc_at, heap_set_at, World.size_alloc, World.size_setCell]; repeat (first | rfl | exact g3 | rw [if_pos (by omega)] | rw [if_neg (by omega)] | rw [show _ = _ from g3]))
    have hB4 := hB3.setCell (p := ⟨w.heap.size + 1, 0, none⟩) (by show w.heap.size ≤ w.heap.size + 1; omega) (.int .i64 (leastN l))
    generalize W3.setCell ⟨w.heap.size + 1, 0, none⟩ (.int .i64 (leastN l)) = W4 at *
    clear g2 g3 f1 f2 f3 hw3 hB3
    have f1 := g4.cell0
    have f2 := g4.cell1
    have f3 := g4.frozen
    have f4 := g5.cell
    have f5 := g5.frozen
    refine exec_seq (exec_region_o fun ds => ?_)
    gi_wp2
    refine eq_mk ((((Keep.refl _).setCell _ _).setCell _ _).setCell _ _) ?_
    have g6 : Box2 (((W4.setCell ⟨w.heap.size + 1, 0, none⟩ (.int .i64 (leastN l))).setCell ⟨w.heap.size + 1, 1, none⟩ (.int .i64 (hiF l (l.length - 2)))).setCell ⟨w.heap.size + 1 + 1, 0, none⟩ (.int .i64 0)) (w.heap.size + 1) 28 (leastN l) (hiF l (l.length - 2)) := by (simp only [Boxed, Box2, heap_alloc_at, heap_set_at, World.size_alloc, World.size_setCell]; repeat (first | rfl | exact g4 | rw [if_pos (by omega)] | rw [if_neg (by omega)] | rw [show _ = _ from g4]))
    have g7 : Boxed (((W4.setCell ⟨w.heap.size + 1, 0, none⟩ (.int .i64 (leastN l))).setCell ⟨w.heap.size + 1, 1, none⟩ (.int .i64 (hiF l (l.length - 2)))).setCell ⟨w.heap.size + 1 + 1, 0, none⟩ (.int .i64 0)) (w.heap.size + 1 + 1) 29 (.int .i64 0) := boxed_set (t := 29) (x := .int .i64 0) ((Below.heap_setCell _ _ _ _ (by show w.heap.size + 1 + 1 ≠ w.heap.size + 1; omega)).trans ((Below.heap_setCell _ _ _ _ (by show w.heap.size + 1 + 1 ≠ w.heap.size + 1; omega)).trans g5)) _
    have hB5 : Below w.heap.size w (((W4.setCell ⟨w.heap.size + 1, 0, none⟩ (.int .i64 (leastN l))).setCell ⟨w.heap.size + 1, 1, none⟩ (.int .i64 (hiF l (l.length - 2)))).setCell ⟨w.heap.size + 1 + 1, 0, none⟩ (.int .i64 0)) := ((hB4.setCell (by show w.heap.size ≤ w.heap.size + 1; omega) _).setCell (by show w.heap.size ≤ w.heap.size + 1; omega) _).setCell (by show w.heap.size ≤ w.heap.size + 1 + 1; omega) _
    exact exec_ret (.inl ⟨.inr rfl, g7.lt, fun W' hG => ⟨_, results_span rfl rfl rfl (hG.box2 g6) (hG.boxed g7), rfl, hB5.trans (hG.below (Nat.le_refl _) hB5.size)⟩⟩)
end Go.Proofs.Ytafmgmaelnpehaa
end

section
set_option linter.unusedVariables false
set_option linter.unusedSimpArgs false
namespace Go.Proofs.Ytafmgmaelnpehaa
open Go.RowKit Go.TL Go.Shelf Go.Fu
attribute [local go_sem] Oper.semAt_some
section
variable {F : Fence} {n : Nat} {P : Program} {ops : Array Oper} {rest : List Oper} {o : Oper} {a : Act} {Q : Exit → Act → World → Prop} {w : World}
theorem walk_copy (hg : o.guard = none) {d s : Operand} {t t' : TypeId} (hop : o.op = .call { callee := .builtin .copy, args := #[d, s], argTypes := #[t, t'] }) {v u v' : Value} {w' : World} (hd : a.eval d = v) (hs : a.eval s = u)
    (hr : (Builtin.copy_ #[t, t'] o.type #[v, u]).run P w = .ok v' w') (hK : wpListIn F n P ops Q rest (a.put o.dst v') w') : wpListIn F n P ops Q (o :: rest) a w := by
  refine wpListIn_plain hg fun K' hK' => ?_
  unfold Oper.wpIn
  refine ⟨?_, ?_⟩
  · simp [Oper.about, hop, resolve, Target.leads, Sem.run_pure]
  · rw [Oper.semAt_plain F _ _ (by rw [hop]; intro c hc'; cases hc')]
    simp [execOp, hop, resolve, invoke, builtin, hd, hs, hr, Result.andThen]
    exact hK' _ _ hK
end
theorem flat_set : ∀ (l : List (Int × Int)) (k : Nat) (x : Int × Int), k < l.length → ((flat l).set (k * 2) (.int .i64 x.1)).set (k * 2 + 1) (.int .i64 x.2) = flat (l.set k x)
  | y :: l, 0, x, _ => rfl
  | y :: l, k + 1, x, h => by
    have := flat_set l k x (by simpa using h)
    rw [show (k + 1) * 2 = k * 2 + 1 + 1 by omega]
    show _ :: _ :: _ = _ :: _ :: _
    rw [← this]
theorem flat_one : ∀ (l : List (Int × Int)) (v : Value), v ∈ flat l → v.oneCell' = true
  | [], v, h => by cases h
  | x :: l, v, h => by
    rcases List.mem_cons.1 h with rfl | h
    · rfl
    · rcases List.mem_cons.1 h with rfl | h
      · rfl
      · exact flat_one l v h
theorem flat_src {w : World} {g off : Nat} {l : List (Int × Int)} (hc : ∀ i (h : i < l.length), w.cell? ⟨g, off + i * 2, none⟩ = some (.int .i64 (l[i]'h).1) ∧ w.cell? ⟨g, off + i * 2 + 1, none⟩ = some (.int .i64 (l[i]'h).2)) :
    ∀ j v, (flat l)[j]? = some v → w.cell? ((⟨g, off, none⟩ : Addr).add j) = some v := by
  intro j v hj
  have hlt : j < (flat l).length := (List.getElem?_eq_some_iff.1 hj).1
  rw [flat_len] at hlt
  have hi : j / 2 < l.length := by omega
  have e : (⟨g, off, none⟩ : Addr).add j = ⟨g, off + j, none⟩ := by unfold Addr.add; split <;> simp_all
  rw [e]
  rcases (show j = j / 2 * 2 ∨ j = j / 2 * 2 + 1 by omega) with h | h
  · have h1 := (flat_get l (j / 2) hi).1
    rw [← h, hj] at h1
    have h2 := (hc (j / 2) hi).1
    rw [← h] at h2
    rw [h2, ← h1]
  · have h1 := (flat_get l (j / 2) hi).2
    rw [← h, hj] at h1
    have h2 := (hc (j / 2) hi).2
    rw [Nat.add_assoc, ← h] at h2
    rw [h2, ← h1]
theorem info89' : ∃ i0, Try.prog.info? 89 = some i0 ∧ i0.zero = some (.agg #[.int .i64 0, .int .i64 0]) ∧ i0.size = 2 ∧ i0.bytes = 16 := by
  have := info89
  cases h : Try.prog.info? 89 with
  | none => rw [h] at this; cases this
  | some i0 =>
    rw [h] at this
    have hz := Option.some.inj this
    simp only [Prod.mk.injEq] at hz
    exact ⟨i0, rfl, hz⟩
/-- A copy over the whole of a row of spans. -/
theorem run_copy_all (w : World) (ty : TypeId) (g cap n c : Nat) (ad : Addr) (cur : Array Value) (l : List (Int × Int)) (hl : l.length = n)
    (hg : w.heap[g]? = some (.cells cur 89 (0, 0))) (hsrc : ∀ j v, (flat l)[j]? = some v → w.cell? (ad.add j) = some v) (hfit : n * 2 ≤ cur.size) :
    (Builtin.copy_ #[79, 79] ty #[.slice (some ⟨g, 0, none⟩) n cap, .slice (some ad) n c]).run Try.prog w = .ok (.int .i64 n) (w.setRow g (flat l ++ cur.toList.drop (n * 2)).toArray) := by
  obtain ⟨i0, hi0, hz, hsz, hby⟩ := info89'
  have hlen : (flat l).length = n * 2 := by rw [flat_len, hl]
  have hlo := run_loadCells_list (P := Try.prog) w ad (flat l) hsrc
  have hst := run_storeCells_at Try.prog g 0 89 (flat l) 0 cur w hg (by simpa [hlen] using hfit) (flat_one l)
  rw [hlen] at hlo
  simp only [Nat.zero_add, Nat.add_zero, List.take_zero, List.nil_append, hlen] at hst
  simp [Builtin.copy_, run_underlying Try.underlying79, Builtin.lenOf, Builtin.firstCells, sizeOf, typeInfo, hi0, hsz, hlo, hst, goInt]
/-- .. into a row of its own. -/
theorem copy_own (w : World) (ty : TypeId) (base g cap n c : Nat) (xs : List Value) (ad : Addr) (l : List (Int × Int)) (hl : l.length = n) (h : w.ownsRow base 89 2 (.slice (some ⟨g, 0, none⟩) n cap) n xs)
    (hsrc : ∀ j v, (flat l)[j]? = some v → w.cell? (ad.add j) = some v) :
    ∃ w', (Builtin.copy_ #[79, 79] ty #[.slice (some ⟨g, 0, none⟩) n cap, .slice (some ad) n c]).run Try.prog w = .ok (.int .i64 n) w' ∧ w'.ownsRow base 89 2 (.slice (some ⟨g, 0, none⟩) n cap) n (flat l) ∧ w.grownBy w' (some g) := by
  have hlen : (flat l).length = n * 2 := by rw [flat_len, hl]
  rcases h.2 with ⟨h', _⟩ | ⟨g', cap', cur, h', hb, hh, hn, hm, hs, ht⟩
  · simp at h'
  · simp only [Value.slice.injEq, Option.some.injEq, Addr.mk.injEq, and_true, true_and] at h'
    obtain ⟨rfl, rfl⟩ := h'
    have hfit : n * 2 ≤ cur.size := by rw [hs]; omega
    refine ⟨_, run_copy_all w ty g cap n c ad cur l hl hh hsrc hfit, ⟨hlen, .inr ⟨g, cap, _, rfl, hb, setRow_heap w g cur _ 89 (0, 0) hh, hn, hm, ?_, ?_⟩⟩, ⟨rfl, rfl, rfl, by simp [World.setRow], fun k hk hne => setRow_other w g k _ (by intro e; exact hne (by rw [e]))⟩⟩
    · simp [hlen]
      omega
    · simp [hlen]
/-- An element of it is stored anew. -/
theorem own_set {w : World} {base g cap n : Nat} {l : List (Int × Int)} (hl : l.length = n) (h : w.ownsRow base 89 2 (.slice (some ⟨g, 0, none⟩) n cap) n (flat l)) (k : Nat) (hk : k < n) (x : Int × Int) :
    ((w.setCell ⟨g, k * 2, none⟩ (.int .i64 x.1)).setCell ⟨g, k * 2 + 1, none⟩ (.int .i64 x.2)).ownsRow base 89 2 (.slice (some ⟨g, 0, none⟩) n cap) n (flat (l.set k x)) ∧ w.grownBy ((w.setCell ⟨g, k * 2, none⟩ (.int .i64 x.1)).setCell ⟨g, k * 2 + 1, none⟩ (.int .i64 x.2)) (some g) := by
  obtain ⟨h1, g1⟩ := h.stored (k * 2) (.int .i64 x.1)
  obtain ⟨h2, g2⟩ := h1.stored (k * 2 + 1) (.int .i64 x.2)
  rw [flat_set l k x (by omega)] at h2
  exact ⟨h2, g1.trans g2⟩
theorem spans_own' {w : World} {base g cap n : Nat} {e : TypeId} {l : List (Int × Int)} (hl : l.length = n) (h : w.ownsRow base e 2 (.slice (some ⟨g, 0, none⟩) n cap) n (flat l)) : Spans w (some ⟨g, 0, none⟩) l := by
  subst hl
  obtain ⟨A, c, e1, _, hs, _⟩ := spans_own h
  simp only [Value.slice.injEq] at e1
  rw [e1.1]
  exact hs
end Go.Proofs.Ytafmgmaelnpehaa
end

section
set_option linter.unusedVariables false
set_option linter.unusedSimpArgs false
namespace Go.Proofs.Ytafmgmaelnpehaa
open Go.RowKit Go.TL Go.Shelf Go.Fu
attribute [local go_sem] Oper.semAt_some
open PFurrowAsks
theorem own_grow {w w' : World} {B base size n : Nat} {e : TypeId} {v : Value} {xs : List Value} (h : w.ownsRow base e size v n xs) (hg : Grow B w w') : w'.ownsRow base e size v n xs := by
  refine ⟨h.1, ?_⟩
  rcases h.2 with hn | ⟨g, cap, cur, rfl, hb, hh, r⟩
  · exact .inl hn
  · exact .inr ⟨g, cap, cur, rfl, hb, hg.same _ _ hh (.inr rfl), r⟩
set_option maxRecDepth 100000 in
set_option maxHeartbeats 600000 in
theorem clone_any (A : Option Addr) (c : Nat) (l : List (Int × Int)) (hl : l.length ≤ 8) (w : World) (hf : Spans w A l) (hn : A = none → l = []) : Calls Try.prog 66 #[.slice A l.length c] w fun e w' => ∃ v, e = .returned v ∧ w'.ownsRow w.heap.size 89 2 v l.length (flat l) ∧ Below w.heap.size w w' := by
  refine calls_of_exec Try.func66 rfl ?_
  simp only [Try.ntmps66, List.size_toArray, List.length_cons, List.length_nil, Nat.reduceAdd, Nat.reduceSub, Array.replicate_succ, Array.replicate_zero, List.push_toArray, List.append_toArray, List.nil_append, List.cons_append]
  refine exec_seq (exec_region_o fun ds => ?_)
  gi_wp2
  refine eq_mk (Keep.refl w) ?_
  show Exec _ _ _ _ _ _
  have heq := Lib.run_eql_slice_nil (P := Try.prog) w 79 89 A l.length c 0 0 Try.underlying79
  cases A with
  | none =>
    have hl0 := hn rfl
    subst hl0
    simp only [List.length_nil, Option.isNone] at heq ⊢
    refine exec_seq (exec_seq (exec_region_o fun ds => ?_))
    gi_wp2
    refine eq_mk (Keep.refl w) ?_
    show Exec _ _ _ _ _ _
    refine exec_cond (b := true) rfl (fun _ => ?_) (fun h => by cases h)
    refine exec_seq (exec_region_o fun ds => ?_)
    gi_wp2
    refine eq_mk (Keep.refl w) ?_
    refine exec_ret ⟨.inr rfl, fun W' hG => ⟨.slice none 0 0, by simp [results, Try.f66, go_sem], World.ownsRow_nil _ _ _ _, hG.below (Nat.le_refl _) (Nat.le_refl _)⟩⟩
  | some ad =>
    simp only [Option.isNone] at heq
    refine exec_seq (exec_seq (exec_region_o fun ds => ?_))
    gi_wp2
    refine eq_mk (Keep.refl w) ?_
    show Exec _ _ _ _ _ _
    refine exec_cond (b := false) rfl (fun h => by cases h) (fun _ => ?_)
    refine exec_skip ?_
    show Exec _ _ _ _ _ _
    obtain ⟨i0, hi0, hz0, hz1, hz2⟩ := info89'
    have hown : (w.alloc (.cells #[] 89)).ownsRow w.heap.size 89 2 (.slice (some ⟨w.heap.size, 0, none⟩) 0 0) 0 [] := World.ownsRow_made w #[] 0 (Nat.le_refl _) (by unfold maxLen; omega) rfl
    have hsrc : ∀ j u, (flat l)[j]? = some u → (w.alloc (.cells #[] 89)).cell? (ad.add j) = some u := by
      rcases hf with rfl | ⟨g, off, e, hc⟩
      · intro j u hj
        simp [flat] at hj
      · cases e
        exact flat_src fun i hi => ⟨(Grow.alloc 0 _ _).cell (hc i hi).1, (Grow.alloc 0 _ _).cell (hc i hi).2⟩
    refine exec_seq (exec_region_o fun ds => ?_)
    gi_wp2_with (gi_at_builtin; refine wpListIn_append_own _ rfl _ _ 79 rfl w.heap.size 89 i0 (.agg #[.int .i64 0, .int .i64 0]) 2 16 Try.underlying79 hi0 hz0 hz1 hz2 rfl (by decide) (.slice (some ⟨w.heap.size, 0, none⟩) 0 0) 0 [] rfl hown ad l.length c (flat l) rfl (flat_len l) hsrc (flat_one l) (by unfold maxLen; omega) (by omega) (by simp) ?_; intro v' w' hown2 hgr _)
    have hbk : ∀ j o, (Value.slice (some ⟨w.heap.size, 0, none⟩) 0 0).ownBlock = some j → (w.alloc (.cells #[] 89)).heap[j]? = some o → book o = false := by
      intro j o hv ho
      simp only [Value.ownBlock, Option.some.injEq] at hv
      subst hv
      rw [World.alloc_heap_new] at ho
      cases ho
      rfl
    have hB3 : Below w.heap.size w w' := ((Below.refl _ w).alloc (Nat.le_refl _) (.cells #[] 89)).grown hgr (by simp) (fun q e => by simp only [Value.ownBlock, Option.some.injEq] at e; omega)
    rw [Nat.zero_add, List.nil_append] at hown2
    refine eq_mk (((Keep.refl _).alloc _).grown hgr hbk) ?_
    refine exec_ret ⟨.inr rfl, fun W' hG => ⟨v', by simp [results, Try.f66, go_sem], own_grow hown2 hG, hB3.trans (hG.below (Nat.le_refl _) hB3.size)⟩⟩
/-- One step: the first offset with which it can be as straight. -/
noncomputable def strStep (most : Nat) (s : List (Int × Int) × List Int) (k : Nat) : List (Int × Int) × List Int :=
  match (spanL (s.1.getD k (0, 0))).find? (fun o => canB (s.1.set k (o, o)) (upP most)) with
  | some o => (s.1.set k (o, o), s.2 ++ [o])
  | none => s
noncomputable def strF (most : Nat) (l : List (Int × Int)) (k : Nat) : List (Int × Int) × List Int := (List.range k).foldl (strStep most) (l, [])
noncomputable def strV (b : Bool) (l : List (Int × Int)) : List Int × Int := if b then ((strF (leastN l) l l.length).2, 0) else ([], 1)
end Go.Proofs.Ytafmgmaelnpehaa
end

section
set_option linter.unusedVariables false
set_option linter.unusedSimpArgs false
namespace Go.Proofs.Ytafmgmaelnpehaa
open Go.RowKit Go.TL Go.Shelf Go.Fu
attribute [local go_sem] Oper.semAt_some
open PFurrowAsks
/-- Results: a list of whole numbers, and an error. -/
theorem results_slice {fn : Func} {p q : Tmp} (hr : fn.results = #[.cell p 33, .cell q 29]) {t : Array Value} {x y : Nat} (hp : t[p]? = some (.pointer (some ⟨x, 0, none⟩))) (hq : t[q]? = some (.pointer (some ⟨y, 0, none⟩))) {W : World} {a : Option Addr} {n c : Nat} {e : Int}
    (hx : Boxed W x 33 (.slice a n c)) (hy : Boxed W y 29 (.int .i64 e)) : (results fn t).run Try.prog W = .ok (.tuple #[.slice a n c, .int .i64 e]) W := by
  have h1 := hx.cell
  have h2 := hy.cell
  simp [results, hr, hp, hq, go_sem, h1, h2]
theorem Spans.far' {W : World} {A : Option Addr} {l : List (Int × Int)} (h : Spans W A l) {p : Addr} {v : Value} (hne : l ≠ [] → ∀ a, A = some a → a.block ≠ p.block) : Spans (W.setCell p v) A l := by
  by_cases hl : l = []
  · exact .inl hl
  · exact h.far (hne hl)
theorem Spans.lt {W : World} {A : Option Addr} {l : List (Int × Int)} (h : Spans W A l) (hl : l ≠ []) : ∀ a, A = some a → a.block < W.heap.size := by
  intro a ha
  rcases h with rfl | ⟨g, off, rfl, hc⟩
  · exact absurd rfl hl
  · cases ha
    exact World.block_lt_of_cell? W _ (hc 0 (List.length_pos_iff.2 hl)).1
theorem own_far {w : World} {base size n : Nat} {e : TypeId} {v : Value} {xs : List Value} (h : w.ownsRow base e size v n xs) {p : Addr} {u : Value} (hne : ∀ k, v.ownBlock = some k → k ≠ p.block) : (w.setCell p u).ownsRow base e size v n xs := by
  refine ⟨h.1, ?_⟩
  rcases h.2 with hn | ⟨g, cap, cur, rfl, hb, hh, r⟩
  · exact .inl hn
  · exact .inr ⟨g, cap, cur, rfl, hb, (Below.heap_setCell w p u g (hne g rfl)).trans hh, r⟩
/-- The boxes of 'Straightest'. -/
structure StrB (w : World) (A : Option Addr) (l : List (Int × Int)) (c : Nat) (most : Nat) (b4 b5 : Nat) (v : Value) (out : List Int) (W : World) : Prop where
  f : Boxed W b4 79 (.slice A l.length c)
  sp : Spans W A l
  far : l ≠ [] → ∀ a, A = some a → a.block ≠ w.heap.size + 1 ∧ a.block ≠ w.heap.size + 1 + 1 ∧ a.block ≠ b4 ∧ a.block ≠ b5
  m : Boxed W b5 3 (.int .i64 most)
  o : Boxed W (w.heap.size + 1) 33 v
  own : W.ownsRow (b5 + 1) 3 1 v out.length (out.map (Value.int .i64))
  e : Boxed W (w.heap.size + 1 + 1) 29 (.int .i64 0)
  below : Below w.heap.size w W
  o4 : w.heap.size + 1 + 1 < b4
  o5 : b4 < b5
theorem StrB.grow {w : World} {A : Option Addr} {l : List (Int × Int)} {c most b4 b5 : Nat} {v : Value} {out : List Int} {W W' : World} {B : Nat} (h : StrB w A l c most b4 b5 v out W) (hg : Grow B W W') (hB : w.heap.size ≤ B) : StrB w A l c most b4 b5 v out W' :=
  ⟨hg.boxed h.f, h.sp.grow hg, h.far, hg.boxed h.m, hg.boxed h.o, own_grow h.own hg, hg.boxed h.e, h.below.trans (hg.below hB h.below.size), h.o4, h.o5⟩

/-- What a round leaves. -/
def StrQ (w : World) (A : Option Addr) (ls : List (Int × Int)) (c most b4 b5 b6 : Nat) (v : Value) (out : List Int) (k : Nat) (o : Int) (V : World) (e : Exit) (W : World) : Prop :=
  (e = .normal ∧ canB (ls.set k (o, o)) (upP most) = false ∧ StrB w A ls c most b4 b5 v out W ∧ Boxed W b6 3 (.int .i64 k) ∧ Below V.heap.size V W) ∨
  (e = .exit 2 ∧ canB (ls.set k (o, o)) (upP most) = true ∧ ∃ A' c' v', StrB w A' (ls.set k (o, o)) c' most b4 b5 v' (out ++ [o]) W)
set_option maxRecDepth 100000 in
set_option maxHeartbeats 600000 in
theorem str_round {w : World} {A : Option Addr} {ls : List (Int × Int)} {c most b4 b5 b6 : Nat} {v : Value} {out : List Int} {k : Nat} {o : Int} {V : World} (h : StrB w A ls c most b4 b5 v out V) (h6 : Boxed V b6 3 (.int .i64 k)) (hb6 : b5 < b6) (hn : ls.length ≤ 8) (hk : k < ls.length) (hok : ∀ x ∈ ls, okSpan x) (ho : -1000 ≤ o ∧ o ≤ 1000) (hout : out.length ≤ 100) (l1 : Nat) (t : Array Value)
    (hF : Slots [none, none, some (.pointer (some ⟨w.heap.size + 1, 0, none⟩)), some (.pointer (some ⟨w.heap.size + 1 + 1, 0, none⟩)), some (.pointer (some ⟨b4, 0, none⟩)), some (.pointer (some ⟨b5, 0, none⟩)), some (.pointer (some ⟨b6, 0, none⟩)), some (.int .i64 o), none, none, none, none, none, none, none, none, none, none, none, none, none, none, none, none, none, none, none, none, none, none, none, none, none, none, none, none, none, none, none, none, none, none, none, none, none, none, none, none, none] t) : Exec Try.prog (some l1) (sub (Try.f19.body.getD .skip) [1,1,1,1,0,1,0,0, 1,1,0,0, 1,1,0,1]) t V fun e _ W' => StrQ w A ls c most b4 b5 b6 v out k o V e W' := by
  obtain ⟨x, hx⟩ := Slots.open_ hF; simp only [fill, Nat.reduceAdd] at hx; subst hx; clear hF
  have hlp : 0 < ls.length := by omega
  obtain ⟨g, off, rfl, hc⟩ := h.sp.at_ hlp
  obtain ⟨i0, hi0, hz0, hz1, hz2⟩ := info89'
  have hVb : b5 + 1 ≤ V.heap.size := by have := h6.lt; omega
  obtain ⟨W1, hmk, hown, hgr⟩ := run_makeSlice_full (P := Try.prog) V (b5 + 1) 79 89 i0 _ 2 Try.underlying79 hi0 hz0 hz1 .i64 .i64 ls.length (by omega) (by rw [hz2]; omega) (by unfold maxLen; omega) hVb
  have k1 := h.f.cell
  refine exec_block ?_
  refine exec_seq (exec_region_r fun ds => ?_)
  gi_wp2
  refine eq_mk ((Keep.refl _).grown hgr (fun j o e _ => by cases e)) ?_
  show Exec _ _ _ _ _ _
  have hB1 : Below V.heap.size V W1 := (Below.refl _ V).grown hgr (Nat.le_refl _) (fun q e => by cases e)
  have s1 := h.grow (Grow.of_below (B := w.heap.size) hB1) (Nat.le_refl _)
  have hsrc := flat_src (l := ls) (g := g) (off := off) (w := W1) fun i hi => ⟨(Grow.of_below (B := 0) hB1).cell (hc i hi).1, (Grow.of_below (B := 0) hB1).cell (hc i hi).2⟩
  clear hmk hgr k1
  obtain ⟨W2, hcp, hown2, hgr2⟩ := copy_own W1 3 (b5 + 1) V.heap.size ls.length ls.length c _ ⟨g, off, none⟩ ls rfl hown hsrc
  have k2 := s1.f.cell
  refine exec_seq (exec_region_r fun ds => ?_)
  gi_wp2_with (gi_at_builtin; refine walk_copy rfl rfl rfl rfl hcp ?_)
  have own_bk : ∀ {X : World} {q : Nat} {xs : List Value}, X.ownsRow (b5 + 1) 89 2 (.slice (some ⟨q, 0, none⟩) ls.length ls.length) ls.length xs → ∀ j o, some q = some j → X.heap[j]? = some o → book o = false := by
    intro X q xs hX j o e ho
    cases e
    rcases hX.2 with ⟨h', _⟩ | ⟨g', cap', cur, h', _, hg', _⟩
    · simp at h'
    · simp only [Value.slice.injEq, Option.some.injEq, Addr.mk.injEq, and_true, true_and] at h'
      obtain ⟨rfl, _⟩ := h'
      rw [hg'] at ho
      cases ho
      rfl
  refine eq_mk ((Keep.refl _).grown hgr2 (own_bk hown)) ?_
  show Exec _ _ _ _ _ _
  have hB2 : Below V.heap.size V W2 := hB1.grown hgr2 hB1.size (fun q e => by cases e; exact Nat.le_refl _)
  have s2 := h.grow (Grow.of_below (B := w.heap.size) hB2) (Nat.le_refl _)
  have q6 : Boxed W2 b6 3 (.int .i64 k) := (hB2.block _ h6.lt).trans h6
  clear hcp hgr2 hown s1 k2 hB1 hsrc
  clear W1
  have k6 := q6.cell
  have hkI : (k : Int) < ls.length := by omega
  have f1 := hown2.frozenAt (k * 2)
  have f2 := hown2.frozenAt (k * 2 + 1)
  have c1 := hown2.cellAt (k * 2) (by omega)
  have c2 := hown2.cellAt (k * 2 + 1) (by omega)
  rw [(flat_get ls k hk).1] at c1
  rw [(flat_get ls k hk).2] at c2
  refine exec_seq (exec_region_r fun ds => ?_)
  gi_wp2
  refine eq_mk (((Keep.refl _).setCell _ _).setCell _ _) ?_
  show Exec _ _ _ _ _ _
  obtain ⟨hown3, hgr3⟩ := own_set rfl hown2 k hk (o, o)
  simp only at hown3 hgr3
  have hB3 : Below V.heap.size V ((W2.setCell ⟨V.heap.size, k * 2, none⟩ (.int .i64 o)).setCell ⟨V.heap.size, k * 2 + 1, none⟩ (.int .i64 o)) := hB2.grown hgr3 hB2.size (fun q e => by cases e; exact Nat.le_refl _)
  generalize (W2.setCell ⟨V.heap.size, k * 2, none⟩ (.int .i64 o)).setCell ⟨V.heap.size, k * 2 + 1, none⟩ (.int .i64 o) = W3 at *
  clear f1 f2 c1 c2 k6 s2 q6 hgr3 hown2 own_bk hB2
  clear W2
  have s3 := h.grow (Grow.of_below (B := w.heap.size) hB3) (Nat.le_refl _)
  have hlen' : (ls.set k (o, o)).length = ls.length := by simp
  have hsp := spans_own' hlen' hown3
  have k5 := s3.m.cell
  have hokS : ∀ x ∈ ls.set k (o, o), okSpan x := by
    intro x hx
    rcases List.mem_or_eq_of_mem_set hx with h | rfl
    · exact hok x h
    · exact ⟨ho.1, Int.le_refl _, ho.2⟩
  refine exec_seq (exec_region_r fun ds => ?_)
  gi_wp2_with fail
  refine ⟨trivial, rfl, (CallsIn.inRound l1 (callsIn_wide.2 (upTo_any most W3))).mono ?_⟩
  rintro e W4 ⟨rfl, hw4, hx4⟩
  gi_wp2_with fail
  have hsp4 := hsp.grow (Grow.of_below (B := 0) hw4)
  have hcan := can_up (some ⟨V.heap.size, 0, none⟩) ls.length (ls.set k (o, o)) (by omega) hokS most W4 hsp4 W3.heap.size hx4
  rw [hlen'] at hcan
  refine ⟨trivial, rfl, (CallsIn.inRound l1 (callsIn_wide.2 hcan)).mono ?_⟩
  rintro e W5 ⟨rfl, hw5⟩
  gi_wp2_with fail
  have hw45 := hw4.trans (hw5.mono hw4.size)
  refine eq_mk (Keep.of_below hw45) ?_
  show Exec _ _ _ _ _ _
  have hB5 : Below V.heap.size V W5 := hB3.trans (hw45.mono hB3.size)
  have s5 := h.grow (Grow.of_below (B := w.heap.size) hB5) (Nat.le_refl _)
  have q6 : Boxed W5 b6 3 (.int .i64 k) := (hB5.block _ h6.lt).trans h6
  have hown5 := own_grow hown3 (Grow.of_below (B := 0) hw45)
  clear hsp hsp4 hcan hx4 hw4 hw5 hw45 hown3 s3 k5 hB3
  clear W4
  generalize W3.heap.size = u3
  clear W3
  refine exec_cond (b := canB (ls.set k (o, o)) (upP most)) rfl (fun hp => ?_) (fun hp => exec_skip (.inl ⟨rfl, hp, s5, q6, hB5⟩))
  have k4 := s5.f.cell
  have k4f := s5.f.frozen
  have k2 := s5.o.cell
  have k2f := s5.o.frozen
  obtain ⟨j0, hj0, jz0, jz1, jz2⟩ : ∃ i0, Try.prog.info? 3 = some i0 ∧ i0.zero = some (.int .i64 0) ∧ i0.size = 1 ∧ i0.bytes = 8 := by
    have := info3
    cases h : Try.prog.info? 3 with
    | none => rw [h] at this; cases this
    | some i0 =>
      rw [h] at this
      have hz := Option.some.inj this
      simp only [Prod.mk.injEq] at hz
      exact ⟨i0, rfl, hz⟩
  refine exec_seq (exec_region_r fun ds => ?_)
  gi_wp2_with (gi_at_builtin; refine wpListIn_append_own _ rfl _ _ 33 rfl (b5 + 1) 3 j0 (.int .i64 0) 1 8 Try.underlying33 hj0 jz0 jz1 jz2 rfl (by decide) v out.length (out.map (Value.int .i64)) rfl (s5.own.alloc _) ⟨W5.heap.size, 0, none⟩ 1 1 [.int .i64 o] rfl rfl (cell_one_new _ _ _) (by simp [Value.oneCell']) (by unfold maxLen; omega) (by omega) (by have := s5.below.size; have := hB5.size; simp; omega) ?_; intro v' w' hown2 hgr _; obtain ⟨g', cap', rfl⟩ := ownsRow_succ hown2; have a4 : Boxed w' b4 79 (.slice (some ⟨g, off, none⟩) ls.length c) := ((Grow.alloc 0 W5 _).boxed s5.f).kept hgr (fun e => by have := (s5.own.lt b4 e.symm).1; have := s5.o5; omega); have a2 : Boxed w' (w.heap.size + 1) 33 v := ((Grow.alloc 0 W5 _).boxed s5.o).kept hgr (fun e => by have := (s5.own.lt (w.heap.size + 1) e.symm).1; have := s5.o5; have := s5.o4; omega); have n4 := a4.cell; have n4f := a4.frozen; have a3 := boxed_far (b := b4) a2 (.slice (some ⟨V.heap.size, 0, none⟩) ls.length ls.length) (by have := s5.o4; omega); have n2 := a3.cell; have n2f := a3.frozen)
  have hV := h6.lt
  have hvl := h.own.lt
  have b5own := s5.own.lt
  have o4 := h.o4
  have o5 := h.o5
  have hbk : ∀ j ob, v.ownBlock = some j → (W5.alloc (.cells #[.int .i64 o] 3)).heap[j]? = some ob → book ob = false := by
    intro j ob hv ho
    rcases (s5.own.alloc (.cells #[.int .i64 o] 3)).2 with ⟨rfl, _⟩ | ⟨g', cap', cur, rfl, _, hg', _⟩
    · simp [Value.ownBlock] at hv
    · simp only [Value.ownBlock, Option.some.injEq] at hv
      subst hv
      rw [hg'] at ho
      cases ho
      rfl
  have a5 : Boxed w' b5 3 (.int .i64 most) := ((Grow.alloc 0 W5 _).boxed s5.m).kept hgr (fun e => by have := (b5own b5 e.symm).1; omega)
  have ae : Boxed w' (w.heap.size + 1 + 1) 29 (.int .i64 0) := ((Grow.alloc 0 W5 _).boxed s5.e).kept hgr (fun e => by have := (b5own _ e.symm).1; omega)
  have hsz5 := s5.below.size
  have hBw : Below w.heap.size w w' := (s5.below.alloc hsz5 (.cells #[.int .i64 o] 3)).grown hgr (by simp; omega) (fun q e => by have := (b5own q e).1; omega)
  have hg5 : (W5.alloc (.cells #[.int .i64 o] 3)).ownsRow (b5 + 1) 89 2 (.slice (some ⟨V.heap.size, 0, none⟩) ls.length ls.length) ls.length (flat (ls.set k (o, o))) := hown5.alloc _
  have hown6 := hg5.kept hgr (.inr (fun e => by have := (hvl V.heap.size e.symm).2; omega))
  have hsp6 := spans_own' hlen' hown6
  have hgl := (hown2.lt g' rfl).1
  refine eq_mk ((((Keep.refl _).alloc _).grown hgr hbk).setCell _ _ |>.setCell _ _) ?_
  refine exec_exit ?_
  refine .inr ⟨rfl, hp, some ⟨V.heap.size, 0, none⟩, ls.length, .slice (some ⟨g', 0, none⟩) (out.length + 1) cap', ⟨?_, ?_, ?_, ?_, ?_, ?_, ?_, ?_, o4, o5⟩⟩
  · rw [hlen']
    exact boxed_far (boxed_set a4 _) _ (by omega)
  · exact (hsp6.far (fun a e => by cases e; show V.heap.size ≠ b4; omega)).far (fun a e => by cases e; show V.heap.size ≠ w.heap.size + 1; omega)
  · intro _ a e
    cases e
    show V.heap.size ≠ _ ∧ V.heap.size ≠ _ ∧ V.heap.size ≠ _ ∧ V.heap.size ≠ _
    omega
  · exact boxed_far (boxed_far a5 _ (by omega)) _ (by omega)
  · exact boxed_set a3 _
  · rw [List.length_append, List.map_append]
    exact own_far (own_far hown2 (fun q e => by cases e; show g' ≠ b4; omega)) (fun q e => by cases e; show g' ≠ w.heap.size + 1; omega)
  · exact boxed_far (boxed_far ae _ (by omega)) _ (by omega)
  · exact (hBw.setCell (by show w.heap.size ≤ b4; omega) _).setCell (by show w.heap.size ≤ w.heap.size + 1; omega) _
end Go.Proofs.Ytafmgmaelnpehaa
end

section
set_option linter.unusedVariables false
set_option linter.unusedSimpArgs false
namespace Go.Proofs.Ytafmgmaelnpehaa
open Go.RowKit Go.TL Go.Shelf Go.Fu
attribute [local go_sem] Oper.semAt_some
open PFurrowAsks
theorem own_low {w : World} {base base' size n : Nat} {e : TypeId} {v : Value} {xs : List Value} (h : w.ownsRow base e size v n xs) (hb : base' ≤ base) : w.ownsRow base' e size v n xs := by
  refine ⟨h.1, ?_⟩
  rcases h.2 with hn | ⟨g, cap, cur, rfl, hb', r⟩
  · exact .inl hn
  · exact .inr ⟨g, cap, cur, rfl, Nat.le_trans hb hb', r⟩
def StrI (w : World) (l : List (Int × Int)) (b4 b5 j : Nat) (t : Array Value) (W : World) : Prop := ∃ (k : Nat) (A : Option Addr) (c : Nat) (v : Value) (s : List (Int × Int) × List Int), k ≤ l.length ∧ j = l.length - k ∧ strF (leastN l) l k = s ∧ s.1.length = l.length ∧ s.2.length ≤ k ∧ (∀ x ∈ s.1, okSpan x) ∧ StrB w A s.1 c (leastN l) b4 b5 v s.2 W ∧ Slots [none, none, some (.pointer (some ⟨w.heap.size + 1, 0, none⟩)), some (.pointer (some ⟨w.heap.size + 1 + 1, 0, none⟩)), some (.pointer (some ⟨b4, 0, none⟩)), some (.pointer (some ⟨b5, 0, none⟩)), none, none, none, none, none, none, none, none, none, some (.int .i64 l.length), some (.int .i64 k), none, none, none, none, none, none, none, none, none, none, none, none, none, none, none, none, none, none, none, none, none, none, none, none, none, none, none, none, none, none, none, none] t
/-- Behind a station. -/
def StrM (w : World) (l : List (Int × Int)) (b4 b5 k : Nat) (t : Array Value) (W : World) : Prop :=
  ∃ (A : Option Addr) (c : Nat) (v : Value) (s : List (Int × Int) × List Int), strF (leastN l) l (k + 1) = s ∧ s.1.length = l.length ∧ s.2.length ≤ k + 1 ∧ (∀ x ∈ s.1, okSpan x) ∧ StrB w A s.1 c (leastN l) b4 b5 v s.2 W ∧ Slots [none, none, some (.pointer (some ⟨w.heap.size + 1, 0, none⟩)), some (.pointer (some ⟨w.heap.size + 1 + 1, 0, none⟩)), some (.pointer (some ⟨b4, 0, none⟩)), some (.pointer (some ⟨b5, 0, none⟩)), none, none, none, none, none, none, none, none, none, some (.int .i64 l.length), some (.int .i64 k), none, none, none, none, none, none, none, none, none, none, none, none, none, none, none, none, none, none, none, none, none, none, none, none, none, none, none, none, none, none, none, none] t
/-- None of these fits. -/
def NoneOf (L : List Int) (ls : List (Int × Int)) (k most : Nat) : Prop := ∀ o ∈ L, canB (ls.set k (o, o)) (upP most) = false
def Found (L : List Int) (ls : List (Int × Int)) (k most : Nat) (o : Int) : Prop := L.find? (fun o => canB (ls.set k (o, o)) (upP most)) = some o
theorem found_of {L : List Int} {ls : List (Int × Int)} {k most j : Nat} (hj : j < L.length) (hn : NoneOf (L.take j) ls k most) (h : canB (ls.set k (L[j], L[j])) (upP most) = true) : Found L ls k most L[j] := by
  unfold Found
  rw [List.find?_eq_some_iff_append]
  refine ⟨h, L.take j, L.drop (j + 1), ?_, fun a ha => by simpa using hn a ha⟩
  rw [← List.drop_eq_getElem_cons hj, List.take_append_drop]
set_option maxRecDepth 100000 in
set_option maxHeartbeats 600000 in
theorem Straightest_any (F : Fur) (b : Bool) (w : World) (h : F.At w) (hi : F.Is b) (h8 : b = true → F.l0.length ≤ 8 ∧ ∀ x ∈ F.pl, okSpan x) :
    Calls Try.prog 19 #[F.val] w fun e w' => (∃ A c, e = .returned (.tuple #[.slice A (strV b F.pl).1.length c, .int .i64 (strV b F.pl).2]) ∧ w'.ownsRow w.heap.size 3 1 (.slice A (strV b F.pl).1.length c) (strV b F.pl).1.length ((strV b F.pl).1.map (Value.int .i64))) ∧ Below w.heap.size w w' := by
  have hmf : ∀ fn first cap w, (Instr.makeFunc fn first cap).run Try.prog w = .ok (.func fn first cap) w := fun _ _ _ _ => rfl
  refine (callsIn_wide (n := 0)).1 (callsIn_of_wp_marks Try.func19 rfl trivial ?_)
  simp only [Try.ntmps19, List.size_toArray, List.length_cons, List.length_nil, Nat.reduceAdd, Nat.reduceSub, Array.replicate_succ, Array.replicate_zero, List.push_toArray, List.append_toArray, List.nil_append, List.cons_append]
  simp only [Fur.val]
  refine split_rest fun rest hR => ?_
  gi_wp2
  have hB := (((Below.refl w.heap.size w).alloc (Nat.le_refl _) (.cells #[F.s0, F.s1, F.s2] 24)).alloc (by simp) (.cells #[.slice none 0 0] 33)).alloc (by simp; omega) (.cells #[.int .i64 0] 29)
  have b1 : Box3 (((w.alloc (.cells #[F.s0, F.s1, F.s2] 24)).alloc (.cells #[.slice none 0 0] 33)).alloc (.cells #[.int .i64 0] 29)) w.heap.size 24 F.s0 F.s1 F.s2 := ((Box3.new w 24 F.s0 F.s1 F.s2).grow (Grow.alloc 0 _ _)).grow (Grow.alloc 0 _ _)
  have b2 : Boxed (((w.alloc (.cells #[F.s0, F.s1, F.s2] 24)).alloc (.cells #[.slice none 0 0] 33)).alloc (.cells #[.int .i64 0] 29)) (w.heap.size + 1) 33 (.slice none 0 0) := by (simp only [Boxed, Box2, heap_alloc_at, heap_set_at, World.size_alloc, World.size_setCell]; repeat (first | rfl | rw [if_pos (by omega)] | rw [if_neg (by omega)]))
  have b3 : Boxed (((w.alloc (.cells #[F.s0, F.s1, F.s2] 24)).alloc (.cells #[.slice none 0 0] 33)).alloc (.cells #[.int .i64 0] 29)) (w.heap.size + 1 + 1) 29 (.int .i64 0) := by (simp only [Boxed, Box2, heap_alloc_at, heap_set_at, World.size_alloc, World.size_setCell]; repeat (first | rfl | rw [if_pos (by omega)] | rw [if_neg (by omega)]))
  refine guard_rest (lo := w.heap.size) (T := 132) (b := w.heap.size + 1 + 1) catches56 ⟨_, _, rfl⟩ (fun W => by simp [go_sem]) hB.size ?_
  subst hR
  generalize ((w.alloc (.cells #[F.s0, F.s1, F.s2] 24)).alloc (.cells #[.slice none 0 0] 33)).alloc (.cells #[.int .i64 0] 29) = V at *
  clear hmf
  have hF := h.below hB
  have c0 := b1.cell0
  have c1 := b1.cell1
  have c2 := b1.cell2
  refine exec_seq (exec_region_o fun ds => ?_)
  gi_wp2_with fail
  by_cases hb : b = false
  · subst hb
    refine ⟨trivial, rfl, (callsIn_wide.2 (open_no1 F _ V hF hi)).mono ?_⟩
    rintro e W2 ⟨rfl, hw2⟩
    refine eq_mk (Keep.of_below hw2) ?_
    refine .inr ⟨1, 29, 0, rfl, (hw2.block _ b3.lt).trans b3, ?_⟩
    rintro W' W'' hG rfl
    have hB2 := hB.trans (hw2.mono hB.size)
    have d2 := hG.boxed (show Boxed W2 (w.heap.size + 1) 33 (.slice none 0 0) from (hw2.block _ b2.lt).trans b2)
    have d3 := hG.boxed (show Boxed W2 (w.heap.size + 1 + 1) 29 (.int .i64 0) from (hw2.block _ b3.lt).trans b3)
    exact ⟨_, results_slice rfl rfl rfl (boxed_far d2 _ (by omega)) (boxed_set d3 _), ⟨none, 0, rfl, World.ownsRow_nil _ _ _ _⟩, (hB2.trans (hG.below (Nat.le_refl _) hB2.size)).setCell (by show w.heap.size ≤ w.heap.size + 1 + 1; omega) _⟩
  have hb' : b = true := by simpa using hb
  subst hb'
  obtain ⟨hl8, hok⟩ := h8 rfl
  refine ⟨trivial, rfl, (callsIn_wide.2 (open_yes F V hF hi hl8)).mono ?_⟩
  rintro e W2 ⟨A, c, rfl, hc, hsp, hw2, hAb⟩
  gi_wp2_with fail
  refine eq_mk ((Keep.of_below hw2).alloc _) ?_
  show Exec _ _ _ _ _ _
  have hpl : F.l0.length = F.pl.length := F.pl_len.symm
  have hsp0 : Spans W2 A F.pl := hsp
  have hB2 := hB.trans (hw2.mono hB.size)
  have d2 : Boxed W2 (w.heap.size + 1) 33 (.slice none 0 0) := (hw2.block _ b2.lt).trans b2
  have d3 : Boxed W2 (w.heap.size + 1 + 1) 29 (.int .i64 0) := (hw2.block _ b3.lt).trans b3
  have hV := b3.lt
  have hVW := hw2.size
  have hA1 : ∀ a, A = some a → w.heap.size + 1 + 1 < a.block := fun a ha => Nat.lt_of_lt_of_le hV (hAb a ha)
  clear hsp b1 b2 b3 c0 c1 c2 hF hB hw2 hAb
  have hV2 : w.heap.size + 1 + 1 < W2.heap.size := by omega
  clear hV hVW
  clear V
  rw [hpl] at hl8 hc ⊢
  generalize F.pl = l at *
  have hA2 := hsp0.lt
  have gr := Grow.alloc W2.heap.size W2 (.cells #[.slice A l.length c] 79)
  have e1 := Boxed.new W2 79 (.slice A l.length c)
  have e2 := hsp0.grow gr
  have e3 := gr.boxed d2
  have e4 := gr.boxed d3
  have e5 := hB2.alloc hB2.size (.cells #[.slice A l.length c] 79)
  generalize W2.alloc (.cells #[.slice A l.length c] 79) = W3 at *
  clear gr hsp0 d2 d3 hB2
  generalize W2.heap.size = b4 at *
  clear W2
  have k1 := e1.cell
  have hls := leastN_is l hok
  have hll := leastN_le l hok
  refine exec_seq (exec_region_o fun ds => ?_)
  gi_wp2_with fail
  refine ⟨trivial, rfl, (callsIn_wide.2 (least_any A c l hl8 hok (leastN l) hls.1 hls.2 (by omega) W3 e2)).mono ?_⟩
  rintro e W4 ⟨rfl, hw4⟩
  gi_wp2
  refine eq_mk ((Keep.of_below hw4).alloc _) ?_
  show Exec _ _ _ _ _ _
  have hs4 := hw4.size
  have hl4 := e1.lt
  have gr : Grow 0 W3 (W4.alloc (.cells #[.int .i64 (leastN l)] 3)) := (Grow.of_below hw4).trans (Grow.alloc _ _ _)
  have g1 : StrB w A l c (leastN l) b4 W4.heap.size (.slice none 0 0) [] (W4.alloc (.cells #[.int .i64 (leastN l)] 3)) :=
    ⟨gr.boxed e1, e2.grow gr, fun hne a ha => ⟨by have := hA1 a ha; omega, by have := hA1 a ha; omega, by have := hA2 hne a ha; omega, by have := hA2 hne a ha; omega⟩, Boxed.new W4 3 _, gr.boxed e3, World.ownsRow_nil _ _ _ _, gr.boxed e4, (e5.trans (hw4.mono e5.size)).alloc (by have := e5.size; omega) _, hV2, by omega⟩
  generalize W4.alloc (.cells #[.int .i64 (leastN l)] 3) = W5 at *
  clear gr e1 e2 e3 e4 e5 k1 hw4 hs4 hl4 hA1 hA2
  generalize W4.heap.size = b5 at *
  clear W4 W3
  have k1 := g1.f.cell
  refine exec_seq (exec_seq (exec_region_o fun ds => ?_))
  gi_wp2
  refine eq_mk (Keep.refl _) ?_
  show Exec _ _ _ _ _ _
  refine exec_block ?_
  refine exec_loop (StrI w l b4 b5) l.length
    ⟨0, A, c, _, (l, []), by omega, by omega, rfl, rfl, by simp, hok, g1, ⟨rfl, rfl, rfl, rfl, rfl, rfl, trivial⟩⟩ ?_
  clear g1 k1
  clear W5
  clear hc
  clear A c
  rintro j t W ⟨k, A, c, v, ⟨ls, out⟩, hk, hj, hs, hlen, houtl, hoks, hS, hSl⟩
  simp only at hlen houtl hoks hS
  obtain ⟨x, hx⟩ := Slots.open_ hSl; simp only [fill, Nat.reduceAdd] at hx; subst hx; clear hSl
  refine exec_seq (exec_region_o fun ds => ?_)
  gi_wp2
  refine eq_mk (Keep.refl _) ?_
  show Exec _ _ _ _ _ _
  refine exec_seq (exec_cond (b := decide (k < l.length)) rfl (fun hp => ?_) (fun hp => ?_))
  · have hkl : k < l.length := of_decide_eq_true hp
    have hkls : k < ls.length := by omega
    have hlp : 0 < ls.length := by omega
    obtain ⟨g, off, rfl, hc⟩ := hS.sp.at_ hlp
    have c0 := hc k hkls
    have hstep : strF (leastN l) l (k + 1) = strStep (leastN l) (ls, out) k := by
      unfold strF at hs ⊢
      rw [List.range_succ, List.foldl_append, hs]
      rfl
    have hgd : ls.getD k (0, 0) = ls[k]'hkls := by simp [List.getD_eq_getElem?_getD, hkls]
    have hoks0 := hoks _ (List.getElem_mem hkls)
    generalize ls[k]'hkls = s0 at *
    refine exec_skip ?_
    show Exec _ _ _ _ _ _
    refine exec_cut (StrM w l b4 b5 k) (exec_block (exec_seq (exec_region_o fun ds => ?_))) ?after
    case after =>
      clear hstep hgd hoks0 c0 hc hS
      rintro t W ⟨A, c, v, s, hs', hlen', hout', hok', hS', hSl⟩
      obtain ⟨x, hx⟩ := Slots.open_ hSl; simp only [fill, Nat.reduceAdd] at hx; subst hx; clear hSl
      refine exec_region_o fun ds => ?_
      gi_wp2
      refine eq_mk (Keep.refl _) ⟨j - 1, by omega, k + 1, A, c, v, s, by omega, by omega, hs', hlen', hout', hok', hS', ⟨rfl, rfl, rfl, rfl, rfl, by simp, trivial⟩⟩
    gi_wp2
    refine eq_mk ((Keep.refl _).alloc _) ?_
    show Exec _ _ _ _ _ _
    have gr := Grow.alloc W.heap.size W (.cells #[.int .i64 k] 3)
    have s1 := hS.grow gr hS.below.size
    have q6 := Boxed.new W 3 (.int .i64 k)
    have d0 := gr.cell c0.1
    have d1 := gr.cell c0.2
    have hb6 := hS.m.lt
    clear gr hc c0
    generalize W.alloc (.cells #[.int .i64 k] 3) = W1 at *
    clear hS
    generalize W.heap.size = b6 at *
    clear W
    have k4 := s1.f.cell
    have k6 := q6.cell
    have hkI : (k : Int) < ls.length := by omega
    refine exec_seq (exec_region_o fun ds => ?_)
    gi_wp2_with fail
    refine ⟨trivial, rfl, (callsIn_wide.2 (all_any _ _ _)).mono ?_⟩
    rintro e w' ⟨rfl, rfl⟩
    gi_wp2_with fail
    refine eq_mk ((Keep.refl _).alloc _) ?_
    show Exec _ _ _ _ _ _
    refine exec_block ?_
    have itB := all_iter W1 s0 hoks0
    have gr := Grow.alloc W1.heap.size W1 (.cells #[.int .i64 s0.1, .int .i64 s0.2] 89)
    have p0 := s1.grow gr s1.below.size
    have p6 := gr.boxed q6
    have pC := Box2.new W1 89 s0.1 s0.2
    have hl6 := q6.lt
    have hwW := s1.below.size
    generalize W1.alloc (.cells #[.int .i64 s0.1, .int .i64 s0.2] 89) = W2 at *
    clear gr s1 q6 d0 d1 k4 k6
    generalize W1.heap.size = bC at *
    clear W1
    have okN : ∀ a, a ∈ spanL s0 → -1000 ≤ a ∧ a ≤ 1000 := fun a ha => by have := (mem_spanL _ _).1 ha; obtain ⟨_, _, _⟩ := hoks0; omega
    have HkN := Lib.hid okN
    clear okN
    have hlC := pC.lt
    refine exec_range (L := spanL s0) rfl (enters_of Try.func93 (by kernel_rfl) rfl) itB (fun k hk => by omega) (fun _ => rfl)
      (fun j V => StrB w (some ⟨g, off, none⟩) ls c (leastN l) b4 b5 v out V ∧ Boxed V b6 3 (.int .i64 k) ∧ Box2 V bC 89 s0.1 s0.2 ∧ NoneOf ((spanL s0).take j) ls k (leastN l))
      (fun cd V => ∃ o A' c' v', cd = .exit 2 ∧ Found (spanL s0) ls k (leastN l) o ∧ StrB w A' (ls.set k (o, o)) c' (leastN l) b4 b5 v' (out ++ [o]) V)
      (fun j => Stab.and (fun _ _ h1 hg => h1.grow hg (by omega)) (Stab.and (Stab.boxed _ _ _ _) (Stab.and (Stab.box2 _ _ _ _ _) (Stab.pure _ _))))
      (fun cd => Stab.ex fun o => Stab.ex fun A' => Stab.ex fun c' => Stab.ex fun v' => Stab.and (Stab.pure _ _) (Stab.and (Stab.pure _ _) (fun _ _ h1 hg => h1.grow hg (by omega))))
      ⟨p0, p6, pC, fun o ho => by simp at ho⟩ ?round ?done ?ret ?exit
    case ret =>
      rintro W ⟨o, A', c', v', hcd, _⟩
      cases hcd
    case exit =>
      rintro id W ⟨o, A', c', v', hcd, hfd, hS⟩
      cases hcd
      have hov : -1000 ≤ o ∧ o ≤ 1000 := HkN.out o (List.mem_of_find?_eq_some hfd)
      refine ⟨A', c', v', (ls.set k (o, o), out ++ [o]), ?_, by simp [hlen], by simp; omega, ?_, hS, (by simp only [Slots, Fits, and_self])⟩
      · rw [hstep]
        unfold strStep
        simp only [hgd, show (spanL s0).find? (fun o => canB (ls.set k (o, o)) (upP (leastN l))) = some o from hfd]
      · intro x hx
        rcases List.mem_or_eq_of_mem_set hx with h | rfl
        · exact hoks x h
        · exact ⟨hov.1, Int.le_refl _, hov.2⟩
    case done =>
      rintro W ⟨hS, h6, hC, hno⟩
      rw [List.take_length] at hno
      refine ⟨_, c, v, (ls, out), ?_, hlen, by simp; omega, hoks, hS, (by simp only [Slots, Fits, and_self])⟩
      rw [hstep]
      unfold strStep
      have : (spanL s0).find? (fun o => canB (ls.set k (o, o)) (upP (leastN l))) = none := List.find?_eq_none.2 fun o ho => by simp [hno o ho]
      simp only [hgd, this]
    case round =>
      have hlC2 := pC.lt
      clear p0 p6 pC itB
      rintro l1 j hj V hV ⟨hS, h6, hC, hno⟩
      have ho := HkN.out _ (List.getElem_mem hj)
      have HFO := fun h => found_of (ls := ls) (k := k) (most := leastN l) hj hno h
      have ea : (spanL s0).take (j + 1) = (spanL s0).take j ++ [(spanL s0)[j]'hj] := List.take_succ_eq_append_getElem hj
      have HNO : canB (ls.set k ((spanL s0)[j]'hj, (spanL s0)[j]'hj)) (upP (leastN l)) = false → NoneOf ((spanL s0).take (j + 1)) ls k (leastN l) := by
        intro hf o ho
        rw [ea, List.mem_append, List.mem_singleton] at ho
        rcases ho with ho | rfl
        · exact hno o ho
        · exact hf
      have HF1 := Lib.hid HFO
      have HN1 := Lib.hid HNO
      clear HFO HNO ea hno
      generalize (spanL s0)[j]'hj = o at *
      refine exec_region_r fun ds => ?_
      gi_wp2
      refine eq_mk (Keep.refl _) ⟨rfl, Same.refl _ _, ?_⟩
      intro V1 hG hsz1
      have r0 := hS.grow hG (by omega)
      have r6 := hG.boxed h6
      have rC := hG.box2 hC
      have hcl := rC.lt
      refine (str_round (most := leastN l) r0 r6 hb6 (by omega) hkls hoks ho (by omega) l1 _ (by simp only [Slots, Fits, and_self])).mono ?_
      rintro e t' W' (⟨rfl, hf, hS', h6', hB⟩ | ⟨rfl, ht, A', c', v', hS'⟩)
      · exact ⟨fun q hq => by rw [hq]; exact hB.block bC hcl, hS', h6', (hB.block bC hcl).trans rC, HN1.out hf⟩
      · exact ⟨o, A', c', v', rfl, HF1.out ht, hS'⟩
  · have hkl : k = l.length := by have := of_decide_eq_false hp; omega
    subst hkl
    refine exec_exit ?_
    show Exec _ _ _ _ _ _
    have hv : strV true l = (out, 0) := by unfold strV; rw [if_pos rfl, hs]
    obtain ⟨B', c', rfl⟩ : ∃ B' c', v = .slice B' out.length c' := by
      rcases hS.own.2 with ⟨rfl, h0⟩ | ⟨g, cap, cur, rfl, _⟩
      · exact ⟨none, 0, by rw [h0]⟩
      · exact ⟨_, _, rfl⟩
    have f2 := hS.o.cell
    have f2f := hS.o.frozen
    have f3 := hS.e.cell
    have f3f := hS.e.frozen
    have o4 := hS.o4
    have o5 := hS.o5
    have hwS := hS.below.size
    have a3 := boxed_far (b := w.heap.size + 1) hS.e (.slice B' out.length c') (by omega)
    have n3 := a3.cell
    have n3f := a3.frozen
    refine exec_seq (exec_region_o fun ds => ?_)
    gi_wp2
    refine eq_mk (((Keep.refl _).setCell _ _).setCell _ _) ?_
    have g2 : Boxed ((W.setCell ⟨w.heap.size + 1, 0, none⟩ (.slice B' out.length c')).setCell ⟨w.heap.size + 1 + 1, 0, none⟩ (.int .i64 0)) (w.heap.size + 1) 33 (.slice B' out.length c') := boxed_far (boxed_set hS.o _) _ (by omega)
    have g3 : Boxed ((W.setCell ⟨w.heap.size + 1, 0, none⟩ (.slice B' out.length c')).setCell ⟨w.heap.size + 1 + 1, 0, none⟩ (.int .i64 0)) (w.heap.size + 1 + 1) 29 (.int .i64 0) := boxed_set a3 _
    have g4 : ((W.setCell ⟨w.heap.size + 1, 0, none⟩ (.slice B' out.length c')).setCell ⟨w.heap.size + 1 + 1, 0, none⟩ (.int .i64 0)).ownsRow w.heap.size 3 1 (.slice B' out.length c') out.length (out.map (Value.int .i64)) :=
      own_far (own_far (own_low hS.own (by omega)) (fun q e => by have := (hS.own.lt q e).1; show q ≠ w.heap.size + 1; omega)) (fun q e => by have := (hS.own.lt q e).1; show q ≠ w.heap.size + 1 + 1; omega)
    have hB5 : Below w.heap.size w ((W.setCell ⟨w.heap.size + 1, 0, none⟩ (.slice B' out.length c')).setCell ⟨w.heap.size + 1 + 1, 0, none⟩ (.int .i64 0)) := (hS.below.setCell (by show w.heap.size ≤ w.heap.size + 1; omega) _).setCell (by show w.heap.size ≤ w.heap.size + 1 + 1; omega) _
    refine exec_ret (.inl ⟨.inr rfl, g3.lt, fun W' hG => ⟨_, results_slice rfl rfl rfl (hG.boxed g2) (hG.boxed g3), ⟨B', c', by rw [hv], ?_⟩, hB5.trans (hG.below (Nat.le_refl _) hB5.size)⟩⟩)
    rw [hv]
    exact own_grow g4 hG
end Go.Proofs.Ytafmgmaelnpehaa
end

section
set_option linter.unusedVariables false
set_option linter.unusedSimpArgs false
namespace Go.Proofs.Ytafmgmaelnpehaa
open Go.RowKit Go.TL Go.Shelf Go.Fu
attribute [local go_sem] Oper.semAt_some
open PFurrowAsks

/-- The stations of a set are free: of the first k. -/
def freeK (s : Nat) (l : List (Int × Int)) : Nat → List (Int × Int)
  | 0 => l
  | k + 1 => if s / 2 ^ k % 2 = 1 then (freeK s l k).set k (-12, 12) else freeK s l k
theorem freeK_len (s : Nat) (l : List (Int × Int)) : ∀ k, (freeK s l k).length = l.length
  | 0 => rfl
  | k + 1 => by unfold freeK; split <;> simp [freeK_len s l k]
theorem freeK_ok (s : Nat) (l : List (Int × Int)) (hok : ∀ x ∈ l, okSpan x) : ∀ k, ∀ x ∈ freeK s l k, okSpan x
  | 0 => hok
  | k + 1 => by
    intro x hx
    unfold freeK at hx
    split at hx
    · rcases List.mem_or_eq_of_mem_set hx with h | rfl
      · exact freeK_ok s l hok k x h
      · exact ⟨by decide, by decide, by decide⟩
    · exact freeK_ok s l hok k x hx
def freeS (s : Nat) (l : List (Int × Int)) : List (Int × Int) := freeK s l l.length
def FreeI (w : World) (base : Nat) (most : Int) (A : Option Addr) (l : List (Int × Int)) (c size s : Nat) (v : Value) (V : World) (j : Nat) (t : Array Value) (W : World) : Prop :=
  ∃ k : Nat, k ≤ l.length ∧ j = l.length - k ∧ W.ownsRow base 89 2 v l.length (flat (freeK s l k)) ∧ Below base V W ∧ Slots [none, some (.int .i64 most), none, none, none, some (.pointer (some ⟨w.heap.size + 1, 0, none⟩)), some (.slice A l.length c), some (.int .i64 size), some (.int .u64 s), some (v), none, none, none, none, none, none, none, none, some (.int .i64 ((l.length : Int) + 1)), some (.int .i64 size), none, none, none, none, some (.int .u64 ((2 : Int) ^ l.length)), some (.int .u64 s), none, none, none, none, none, none, none, none, none, some (.int .i64 l.length), some (.int .i64 k), none, none, none, none, none, none, none, none, none, none, none, none, none, none, none, none, none, none, none, none, none, none, none, none, none] t
def FreeM (w : World) (base : Nat) (most : Int) (A : Option Addr) (l : List (Int × Int)) (c size s : Nat) (v : Value) (V : World) (k : Nat) (t : Array Value) (W : World) : Prop :=
  W.ownsRow base 89 2 v l.length (flat (freeK s l (k + 1))) ∧ Below base V W ∧ Slots [none, some (.int .i64 most), none, none, none, some (.pointer (some ⟨w.heap.size + 1, 0, none⟩)), some (.slice A l.length c), some (.int .i64 size), some (.int .u64 s), some (v), none, none, none, none, none, none, none, none, some (.int .i64 ((l.length : Int) + 1)), some (.int .i64 size), none, none, none, none, some (.int .u64 ((2 : Int) ^ l.length)), some (.int .u64 s), none, none, none, none, none, none, none, none, none, some (.int .i64 l.length), some (.int .i64 k), none, none, none, none, none, none, none, none, none, none, none, none, none, none, none, none, none, none, none, none, none, none, none, none, none] t
theorem bit_all : (List.range 256).all (fun s => (List.range 8).all fun k => (bits .and .u64 ((s : Int) / 2 ^ k) 1 == 1) == decide (s / 2 ^ k % 2 = 1)) = true := by kernel_rfl
theorem bit_is (s k : Nat) (hs : s < 256) (hk : k < 8) : (bits .and .u64 ((s : Int) / 2 ^ k) 1 == 1) = decide (s / 2 ^ k % 2 = 1) := by
  have h := List.all_eq_true.1 bit_all s (List.mem_range.2 hs)
  have h2 := List.all_eq_true.1 h k (List.mem_range.2 hk)
  simpa using h2
set_option maxRecDepth 100000 in
set_option maxHeartbeats 600000 in
theorem wrong_free {w : World} {base : Nat} {most : Int} {A : Option Addr} {l : List (Int × Int)} {c size s : Nat} {v : Value} {V : World} (hown : V.ownsRow base 89 2 v l.length (flat l)) (hl : l.length ≤ 8) (hs : s < 256) (hb : base ≤ V.heap.size) (t : Array Value)
    (hF : Slots [none, some (.int .i64 most), none, none, none, some (.pointer (some ⟨w.heap.size + 1, 0, none⟩)), some (.slice A l.length c), some (.int .i64 size), some (.int .u64 s), some (v), none, none, none, none, none, none, none, none, some (.int .i64 ((l.length : Int) + 1)), some (.int .i64 size), none, none, none, none, some (.int .u64 ((2 : Int) ^ l.length)), some (.int .u64 s), none, none, none, none, none, none, none, none, none, some (.int .i64 l.length), some (.int .i64 (0 : Nat)), none, none, none, none, none, none, none, none, none, none, none, none, none, none, none, none, none, none, none, none, none, none, none, none, none] t) :
    Exec Try.prog none (sub (Try.f24.body.getD .skip) [1,1,1,0,1, 0,0, 1,1,0, 0, 1,1, 0,0, 1,1,0, 0, 1,1,1,0,1]) t V fun e t' W' => e = .normal ∧ W'.ownsRow base 89 2 v l.length (flat (freeS s l)) ∧ Below base V W' ∧ Slots [none, some (.int .i64 most), none, none, none, some (.pointer (some ⟨w.heap.size + 1, 0, none⟩)), some (.slice A l.length c), some (.int .i64 size), some (.int .u64 s), some (v), none, none, none, none, none, none, none, none, some (.int .i64 ((l.length : Int) + 1)), some (.int .i64 size), none, none, none, none, some (.int .u64 ((2 : Int) ^ l.length)), some (.int .u64 s), none, none, none, none, none, none, none, none, none, none, none, none, none, none, none, none, none, none, none, none, none, none, none, none, none, none, none, none, none, none, none, none, none, none, none, none] t' := by
  refine exec_block ?_
  refine exec_loop (FreeI w base most A l c size s v V) l.length ⟨0, by omega, by omega, hown, Below.refl _ _, hF⟩ ?_
  clear hF hown
  clear t
  rintro j t W ⟨k, hk, hj, hown, hB, hF⟩
  obtain ⟨x, hx⟩ := Slots.open_ hF; simp only [fill, Nat.reduceAdd] at hx; subst hx; clear hF
  refine exec_seq (exec_region_o fun ds => ?_)
  gi_wp2
  refine eq_mk (Keep.refl _) ?_
  show Exec _ _ _ _ _ _
  refine exec_seq (exec_cond (b := decide (k < l.length)) rfl (fun hp => ?_) (fun hp => ?_))
  · have hkl : k < l.length := of_decide_eq_true hp
    have hfl := freeK_len s l k
    obtain ⟨g, cap, rfl⟩ : ∃ g cap, v = .slice (some ⟨g, 0, none⟩) l.length cap := by
      rcases hown.2 with ⟨_, h0⟩ | ⟨g, cap, _, rfl, _⟩
      · omega
      · exact ⟨g, cap, rfl⟩
    have f1 := hown.frozenAt (k * 2)
    have f2 := hown.frozenAt (k * 2 + 1)
    have c1 := hown.cellAt (k * 2) (by omega)
    have c2 := hown.cellAt (k * 2 + 1) (by omega)
    rw [(flat_get _ k (by omega)).1] at c1
    rw [(flat_get _ k (by omega)).2] at c2
    have hkI : (k : Int) < l.length := by omega
    refine exec_skip ?_
    show Exec _ _ _ _ _ _
    refine exec_cut (FreeM w base most A l c size s (.slice (some ⟨g, 0, none⟩) l.length cap) V k) (exec_block (exec_seq (exec_region_o fun ds => ?_))) ?_
    · gi_wp2
      refine eq_mk (Keep.refl _) ?_
      show Exec _ _ _ _ _ _
      refine exec_seq (exec_region_o fun ds => ?_)
      gi_wp2
      refine eq_mk (Keep.refl _) ?_
      show Exec _ _ _ _ _ _
      refine exec_cond (b := (bits .and .u64 ((s : Int) / 2 ^ k) 1 == 1)) rfl (fun hb1 => ?_) (fun hb1 => ?_)
      · rw [bit_is s k hs (by omega)] at hb1
        have hbit := of_decide_eq_true hb1
        have hK : freeK s l (k + 1) = (freeK s l k).set k (-12, 12) := by
          show (if s / 2 ^ k % 2 = 1 then _ else _) = _
          rw [if_pos hbit]
        obtain ⟨ho3, hg3⟩ := own_set hfl hown k hkl (-12, 12)
        simp only at ho3 hg3
        have hBs := hB.size
        refine exec_region_o fun ds => ?_
        gi_wp2
        refine eq_mk (((Keep.refl _).setCell _ _).setCell _ _) ⟨by rw [hK]; exact ho3, hB.grown hg3 (by omega) (fun q e => (hown.lt q (by rw [← e]; rfl)).1), (by simp only [Slots, Fits, and_self])⟩
      · rw [bit_is s k hs (by omega)] at hb1
        have hbit := of_decide_eq_false hb1
        have hK : freeK s l (k + 1) = freeK s l k := by
          show (if s / 2 ^ k % 2 = 1 then _ else _) = _
          rw [if_neg hbit]
        exact exec_skip ⟨by rw [hK]; exact hown, hB, (by simp only [Slots, Fits, and_self])⟩
    · clear f1 f2 c1 c2 hown hB
      rintro t W ⟨hown, hB, hF⟩
      obtain ⟨x, hx⟩ := Slots.open_ hF; simp only [fill, Nat.reduceAdd] at hx; subst hx; clear hF
      refine exec_region_o fun ds => ?_
      gi_wp2
      refine eq_mk (Keep.refl _) ⟨j - 1, by omega, k + 1, by omega, by omega, hown, hB, ?_⟩
      exact ⟨rfl, rfl, rfl, rfl, rfl, rfl, rfl, rfl, rfl, rfl, rfl, by simp, trivial⟩
  · have hkl : k = l.length := by have := of_decide_eq_false hp; omega
    subst hkl
    exact exec_exit ⟨rfl, hown, hB, (by simp only [Slots, Fits, and_self])⟩
end Go.Proofs.Ytafmgmaelnpehaa
end

section
set_option linter.unusedVariables false
set_option linter.unusedSimpArgs false
namespace Go.Proofs.Ytafmgmaelnpehaa
open Go.RowKit Go.TL Go.Shelf Go.Fu
attribute [local go_sem] Oper.semAt_some
open PFurrowAsks


/-- How many bits are set, of the lowest k ones. -/
def ones : Nat → Nat → Nat
  | 0, _ => 0
  | k + 1, s => s % 2 + ones k (s / 2)
theorem ones_all : (List.range 256).all (fun s => bits_OnesCount.f (s : Int) == some (ones 8 s : Int)) = true := by kernel_rfl
theorem ones_is (s : Nat) (hs : s < 256) : bits_OnesCount.f (s : Int) = some (ones 8 s : Int) := by
  have h := List.all_eq_true.1 ones_all s (List.mem_range.2 hs)
  simpa using h
/-- The set is of that size, and enough. -/
noncomputable def okSet (l : List (Int × Int)) (most : Int) (size s : Nat) : Bool := decide (ones 8 s = size) && canB (freeS s l) (upP most)
structure WrB (w : World) (A : Option Addr) (l : List (Int × Int)) (W : World) : Prop where
  sp : Spans W A l
  nil : A = none → l = []
  e : Boxed W (w.heap.size + 1) 29 (.int .i64 0)
  below : Below w.heap.size w W
theorem WrB.grow {w : World} {A : Option Addr} {l : List (Int × Int)} {W W' : World} {B : Nat} (h : WrB w A l W) (hg : Grow B W W') (hB : w.heap.size ≤ B) : WrB w A l W' := ⟨h.sp.grow hg, h.nil, hg.boxed h.e, h.below.trans (hg.below hB h.below.size)⟩
def WrQ (w : World) (most : Int) (A : Option Addr) (l : List (Int × Int)) (c size s : Nat) (e : Exit) (t : Array Value) (W : World) : Prop :=
  (e = .normal ∧ okSet l most size s = false ∧ WrB w A l W ∧ Slots [none, some (.int .i64 most), none, none, none, some (.pointer (some ⟨w.heap.size + 1, 0, none⟩)), some (.slice A l.length c), some (.int .i64 size), none, none, none, none, none, none, none, none, none, none, some (.int .i64 ((l.length : Int) + 1)), some (.int .i64 size), none, none, none, none, some (.int .u64 ((2 : Int) ^ l.length)), some (.int .u64 s), none, none, none, none, none, none, none, none, none, none, none, none, none, none, none, none, none, none, none, none, none, none, none, none, none, none, none, none, none, none, none, none, none, none, none, none] t) ∨
  (e = .ret ∧ okSet l most size s = true ∧ Boxed W (w.heap.size + 1) 29 (.int .i64 0) ∧ Below w.heap.size w W ∧ Slots [none, none, none, none, some (.int .i64 s), some (.pointer (some ⟨w.heap.size + 1, 0, none⟩)), none, none, none, none, none, none, none, none, none, none, none, none, none, none, none, none, none, none, none, none, none, none, none, none, none, none, none, none, none, none, none, none, none, none, none, none, none, none, none, none, none, none, none, none, none, none, none, none, none, none, none, none, none, none, none, none] t)
set_option maxRecDepth 100000 in
set_option maxHeartbeats 600000 in
theorem wrong_one {w : World} {most : Int} {A : Option Addr} {l : List (Int × Int)} {c size s : Nat} {V : World} (h : WrB w A l V) (hl : l.length ≤ 8) (hok : ∀ x ∈ l, okSpan x) (hs : s < 256) (t : Array Value)
    (hF : Slots [none, some (.int .i64 most), none, none, none, some (.pointer (some ⟨w.heap.size + 1, 0, none⟩)), some (.slice A l.length c), some (.int .i64 size), none, none, none, none, none, none, none, none, none, none, some (.int .i64 ((l.length : Int) + 1)), some (.int .i64 size), none, none, none, none, some (.int .u64 ((2 : Int) ^ l.length)), some (.int .u64 s), none, none, none, none, none, none, none, none, none, none, none, none, none, none, none, none, none, none, none, none, none, none, none, none, none, none, none, none, none, none, none, none, none, none, none, none] t) :
    Exec Try.prog none (sub (Try.f24.body.getD .skip) [1,1,1,0,1, 0,0, 1,1,0, 0, 1,1, 0,0, 1,1,0]) t V (WrQ w most A l c size s) := by
  obtain ⟨x, hx⟩ := Slots.open_ hF; simp only [fill, Nat.reduceAdd] at hx; subst hx; clear hF
  refine exec_block ?_
  refine exec_seq (exec_region_o fun ds => ?_)
  gi_wp2
  refine eq_mk (Keep.refl _) ?_
  show Exec _ _ _ _ _ _
  refine exec_seq (exec_seq (exec_region_o fun ds => ?_))
  gi_wp2_with fail
  refine ⟨trivial, rfl, (callsIn_wide.2 (bits_OnesCount.calls s _ V (ones_is s hs))).mono ?_⟩
  rintro e W1 ⟨rfl, hw1⟩
  gi_wp2_with fail
  have hb1 := hw1.below
  refine eq_mk (Keep.of_below hb1) ?_
  show Exec _ _ _ _ _ _
  have h1 := h.grow (Grow.of_below (B := w.heap.size) hb1) (Nat.le_refl _)
  clear h hw1 hb1
  clear V
  refine exec_cond (b := ((ones 8 s : Int) != (size : Int))) rfl (fun hp => ?_) (fun hp => ?_)
  · have hne : ones 8 s ≠ size := by intro e; rw [e] at hp; simp at hp
    exact exec_exit (.inl ⟨rfl, by unfold okSet; simp [hne], h1, (by simp only [Slots, Fits, and_self])⟩)
  have heq : ones 8 s = size := by
    have : (ones 8 s : Int) = (size : Int) := by simpa using hp
    omega
  refine exec_skip ?_
  show Exec _ _ _ _ _ _
  refine exec_seq (exec_region_o fun ds => ?_)
  gi_wp2_with fail
  refine ⟨trivial, rfl, (callsIn_wide.2 (clone_any A c l hl W1 h1.sp h1.nil)).mono ?_⟩
  rintro e W2 ⟨v, rfl, hown, hb2⟩
  gi_wp2_with fail
  refine eq_mk (Keep.of_below hb2) ?_
  show Exec _ _ _ _ _ _
  have h2 := h1.grow (Grow.of_below (B := w.heap.size) hb2) (Nat.le_refl _)
  obtain ⟨A', c', hv⟩ : ∃ A' c', v = .slice A' l.length c' := by
    rcases hown.2 with ⟨rfl, h0⟩ | ⟨g, cap, _, rfl, _⟩
    · exact ⟨none, 0, by rw [h0]⟩
    · exact ⟨_, _, rfl⟩
  refine exec_cut (fun t' W' => W'.ownsRow W1.heap.size 89 2 v l.length (flat (freeS s l)) ∧ Below W1.heap.size W2 W' ∧ Slots [none, some (.int .i64 most), none, none, none, some (.pointer (some ⟨w.heap.size + 1, 0, none⟩)), some (.slice A l.length c), some (.int .i64 size), some (.int .u64 s), some (v), none, none, none, none, none, none, none, none, some (.int .i64 ((l.length : Int) + 1)), some (.int .i64 size), none, none, none, none, some (.int .u64 ((2 : Int) ^ l.length)), some (.int .u64 s), none, none, none, none, none, none, none, none, none, none, none, none, none, none, none, none, none, none, none, none, none, none, none, none, none, none, none, none, none, none, none, none, none, none, none, none] t') (exec_seq (exec_region_o fun ds => ?_)) ?_
  · rw [hv]
    gi_wp2
    refine eq_mk (Keep.refl _) ?_
    show Exec _ _ _ _ _ _
    rw [hv] at hown
    refine (wrong_free (w := w) (most := most) (A := A) (c := c) (size := size) hown hl hs hb2.size _ (by simp [Slots, Fits])).mono ?_
    rintro e t' W' ⟨rfl, hx⟩
    exact hx
  · rintro t W3 ⟨hown3, hb3, hF⟩
    rw [hv] at hF
    obtain ⟨x, hx⟩ := Slots.open_ hF; simp only [fill, Nat.reduceAdd] at hx; subst hx; clear hF
    have hb23 : Below W1.heap.size W1 W3 := hb2.trans hb3
    have h3 := h1.grow (Grow.of_below (B := w.heap.size) hb23) (Nat.le_refl _)
    clear h1 h2 hown hb2 hb3 hb23
    have hfl : (freeS s l).length = l.length := freeK_len s l _
    have hsp : Spans W3 A' (freeS s l) := by
      rw [← hfl] at hown3
      obtain ⟨A2, c2, e2, _, hs2, _⟩ := spans_own hown3
      rw [hv, hfl] at e2
      simp only [Value.slice.injEq] at e2
      rw [e2.1]
      exact hs2
    have hokF := freeK_ok s l hok l.length
    refine exec_seq (exec_region_o fun ds => ?_)
    gi_wp2_with fail
    refine ⟨trivial, rfl, (callsIn_wide.2 (upTo_any most W3)).mono ?_⟩
    rintro e W4 ⟨rfl, hw4, hx4⟩
    gi_wp2_with fail
    have hcan := can_up A' c' (freeS s l) (by omega) hokF most W4 (hsp.grow (Grow.of_below (B := 0) hw4)) W3.heap.size hx4
    rw [hfl] at hcan
    refine ⟨trivial, rfl, (callsIn_wide.2 hcan).mono ?_⟩
    rintro e W5 ⟨rfl, hw5⟩
    gi_wp2_with fail
    have hw45 := hw4.trans (hw5.mono hw4.size)
    refine eq_mk (Keep.of_below hw45) ?_
    show Exec _ _ _ _ _ _
    have h5 := h3.grow (Grow.of_below (B := w.heap.size) hw45) (Nat.le_refl _)
    clear h3 hsp hcan hw4 hw5 hw45 hx4 hown3
    clear W4 W1 W2
    generalize W3.heap.size = u3
    clear W3
    have hokS : okSet l most size s = canB (freeS s l) (upP most) := by unfold okSet; simp [heq]
    refine exec_cond (b := canB (freeS s l) (upP most)) rfl (fun hp => ?_) (fun hp => exec_skip (.inl ⟨rfl, by rw [hokS]; exact hp, h5, (by simp only [Slots, Fits, and_self])⟩))
    have f3 := h5.e.cell
    have f3f := h5.e.frozen
    refine exec_seq (exec_region_o fun ds => ?_)
    gi_wp2
    exact eq_mk ((Keep.refl _).setCell _ _) (exec_ret (.inr ⟨rfl, by rw [hokS]; exact hp, boxed_set h5.e _, h5.below.setCell (by show w.heap.size ≤ w.heap.size + 1; omega) _, (by simp only [Slots, Fits, and_self])⟩))
end Go.Proofs.Ytafmgmaelnpehaa
end

section
set_option linter.unusedVariables false
set_option linter.unusedSimpArgs false
namespace Go.Proofs.Ytafmgmaelnpehaa
open Go.RowKit Go.TL Go.Shelf Go.Fu
attribute [local go_sem] Oper.semAt_some
open PFurrowAsks



/-- No set of that size before this one is enough. -/
def NoneTo (l : List (Int × Int)) (most : Int) (size s : Nat) : Prop := ∀ r, r < s → okSet l most size r = false
def SzI (w : World) (most : Int) (A : Option Addr) (l : List (Int × Int)) (c size N : Nat) (j : Nat) (t : Array Value) (W : World) : Prop :=
  ∃ s : Nat, s ≤ N ∧ j = N - s ∧ NoneTo l most size s ∧ WrB w A l W ∧ Slots [none, some (.int .i64 most), none, none, none, some (.pointer (some ⟨w.heap.size + 1, 0, none⟩)), some (.slice A l.length c), some (.int .i64 size), none, none, none, none, none, none, none, none, none, none, some (.int .i64 ((l.length : Int) + 1)), some (.int .i64 size), none, none, none, none, some (.int .u64 ((2 : Int) ^ l.length)), some (.int .u64 s), none, none, none, none, none, none, none, none, none, none, none, none, none, none, none, none, none, none, none, none, none, none, none, none, none, none, none, none, none, none, none, none, none, none, none, none] t
def SzQ (w : World) (most : Int) (A : Option Addr) (l : List (Int × Int)) (c size N : Nat) (e : Exit) (t : Array Value) (W : World) : Prop :=
  (e = .normal ∧ NoneTo l most size N ∧ WrB w A l W ∧ Slots [none, some (.int .i64 most), none, none, none, some (.pointer (some ⟨w.heap.size + 1, 0, none⟩)), some (.slice A l.length c), none, none, none, none, none, none, none, none, none, none, none, some (.int .i64 ((l.length : Int) + 1)), some (.int .i64 size), none, none, none, none, none, none, none, none, none, none, none, none, none, none, none, none, none, none, none, none, none, none, none, none, none, none, none, none, none, none, none, none, none, none, none, none, none, none, none, none, none, none] t) ∨
  (e = .ret ∧ ∃ s : Nat, s < N ∧ NoneTo l most size s ∧ okSet l most size s = true ∧ Boxed W (w.heap.size + 1) 29 (.int .i64 0) ∧ Below w.heap.size w W ∧ Slots [none, none, none, none, some (.int .i64 s), some (.pointer (some ⟨w.heap.size + 1, 0, none⟩)), none, none, none, none, none, none, none, none, none, none, none, none, none, none, none, none, none, none, none, none, none, none, none, none, none, none, none, none, none, none, none, none, none, none, none, none, none, none, none, none, none, none, none, none, none, none, none, none, none, none, none, none, none, none, none, none] t)
theorem pow_le (n : Nat) (h : n ≤ 8) : 2 ^ n ≤ 256 := by
  have : 2 ^ n ≤ 2 ^ 8 := Nat.pow_le_pow_right (by omega) h
  exact this
set_option maxRecDepth 100000 in
set_option maxHeartbeats 600000 in
theorem wrong_size {w : World} {most : Int} {A : Option Addr} {l : List (Int × Int)} {c size N : Nat} {V : World} (h : WrB w A l V) (hl : l.length ≤ 8) (hok : ∀ x ∈ l, okSpan x) (hN : (2 : Int) ^ l.length = N) (hN2 : N ≤ 256) (t : Array Value)
    (hF : Slots [none, some (.int .i64 most), none, none, none, some (.pointer (some ⟨w.heap.size + 1, 0, none⟩)), some (.slice A l.length c), some (.int .i64 size), none, none, none, none, none, none, none, none, none, none, some (.int .i64 ((l.length : Int) + 1)), some (.int .i64 size), none, none, none, none, some (.int .u64 ((2 : Int) ^ l.length)), some (.int .u64 (0 : Nat)), none, none, none, none, none, none, none, none, none, none, none, none, none, none, none, none, none, none, none, none, none, none, none, none, none, none, none, none, none, none, none, none, none, none, none, none] t) :
    Exec Try.prog none (sub (Try.f24.body.getD .skip) [1,1,1,0,1, 0,0, 1,1,0, 0, 1,1]) t V (SzQ w most A l c size N) := by
  have HN := Lib.hid hN
  clear hN
  refine exec_block ?_
  refine exec_loop (SzI w most A l c size N) N ⟨0, by omega, by omega, fun r hr => by omega, h, hF⟩ ?_
  clear hF h
  clear t V
  rintro j t W ⟨s, hs, hj, hno, hW, hF⟩
  obtain ⟨x, hx⟩ := Slots.open_ hF; simp only [fill, Nat.reduceAdd] at hx; subst hx; clear hF
  refine exec_seq (exec_region_o fun ds => ?_)
  gi_wp2
  refine eq_mk (Keep.refl _) ?_
  show Exec _ _ _ _ _ _
  refine exec_seq (exec_cond (b := decide ((s : Int) < 2 ^ l.length)) rfl (fun hp => ?_) (fun hp => ?_))
  · have hsN : s < N := by have := of_decide_eq_true hp; rw [HN.out] at this; omega
    refine exec_skip ?_
    show Exec _ _ _ _ _ _
    refine exec_seq ((wrong_one (most := most) (c := c) (size := size) (s := s) hW hl hok (by omega) _ (by simp only [Slots, Fits, and_self])).mono ?_)
    rintro e t' W' (⟨rfl, hf, hW', hF'⟩ | ⟨rfl, ht, hE, hB, hF'⟩)
    · clear hp
      show Exec _ _ _ _ _ _
      obtain ⟨x, hx⟩ := Slots.open_ hF'; simp only [fill, Nat.reduceAdd] at hx; subst hx; clear hF'
      refine exec_region_o fun ds => ?_
      gi_wp2
      refine eq_mk (Keep.refl _) ⟨N - (s + 1), by omega, s + 1, by omega, rfl, ?_, hW', ?_⟩
      · intro r hr
        rcases Nat.lt_or_ge r s with h | h
        · exact hno r h
        · rw [show r = s by omega]; exact hf
      · simp [Slots, Fits]
    · exact .inr ⟨rfl, s, hsN, hno, ht, hE, hB, hF'⟩
  · have hsN : s = N := by have := of_decide_eq_false hp; rw [HN.out] at this; omega
    subst hsN
    exact exec_exit (.inl ⟨rfl, hno, hW, (by simp only [Slots, Fits, and_self])⟩)
end Go.Proofs.Ytafmgmaelnpehaa
end

section
set_option linter.unusedVariables false
set_option linter.unusedSimpArgs false
namespace Go.Proofs.Ytafmgmaelnpehaa
open Go.RowKit Go.TL Go.Shelf Go.Fu
attribute [local go_sem] Oper.semAt_some
open PFurrowAsks




/-- What 'Wrong' answers of a valid furrow. -/
def WrongIs (l : List (Int × Int)) (most : Int) (r : Nat) : Prop :=
  (∃ size : Nat, size ≤ l.length ∧ r < 2 ^ l.length ∧ NoneTo l most size r ∧ okSet l most size r = true ∧ ∀ z, z < size → NoneTo l most z (2 ^ l.length)) ∨
  ((∀ z, z < l.length + 1 → NoneTo l most z (2 ^ l.length)) ∧ r = 2 ^ l.length - 1)
def WrongV (b : Bool) (most : Int) (l : List (Int × Int)) (r : Int × Int) : Prop := if b then if 0 ≤ most then ∃ n : Nat, r = ((n : Int), 0) ∧ WrongIs l most n else r = (0, 2) else r = (0, 1)
theorem results_num {fn : Func} {p q : Tmp} (hr : fn.results = #[.tmp p, .cell q 29]) {t : Array Value} {y : Nat} {n : Int} (hp : t[p]? = some (.int .i64 n)) (hq : t[q]? = some (.pointer (some ⟨y, 0, none⟩))) {W : World} {e : Int} (hy : Boxed W y 29 (.int .i64 e)) : (results fn t).run Try.prog W = .ok (.tuple #[.int .i64 n, .int .i64 e]) W := by
  have h2 := hy.cell
  simp [results, hr, hp, hq, go_sem, h2]
theorem wrap_all : (List.range 9).all (fun n => IntKind.u64.wrap ((2 : Int) ^ n) == (2 : Int) ^ n) = true := by kernel_rfl
theorem wrap_pow (n : Nat) (h : n ≤ 8) : IntKind.u64.wrap ((2 : Int) ^ n) = (2 : Int) ^ n := by
  have h := List.all_eq_true.1 wrap_all n (List.mem_range.2 (by omega))
  simpa using h
theorem wrap_all2 : (List.range 9).all (fun n => IntKind.i64.wrap ((2 : Int) ^ n) == (2 : Int) ^ n) = true := by kernel_rfl
theorem wrap_pow2 (n : Nat) (h : n ≤ 8) : IntKind.i64.wrap ((2 : Int) ^ n) = (2 : Int) ^ n := by
  have h := List.all_eq_true.1 wrap_all2 n (List.mem_range.2 (by omega))
  simpa using h
theorem wrap_all3 : (List.range 9).all (fun n => wrap64 ((2 : Int) ^ n - 1) == ((2 ^ n - 1 : Nat) : Int)) = true := by kernel_rfl
theorem wrap_pow3 (n : Nat) (h : n ≤ 8) : wrap64 ((2 : Int) ^ n - 1) = ((2 ^ n - 1 : Nat) : Int) := by
  have h := List.all_eq_true.1 wrap_all3 n (List.mem_range.2 (by omega))
  exact eq_of_beq h
def OuI (w : World) (most : Int) (A : Option Addr) (l : List (Int × Int)) (c : Nat) (j : Nat) (t : Array Value) (W : World) : Prop :=
  ∃ size : Nat, size ≤ l.length + 1 ∧ j = l.length + 1 - size ∧ (∀ z, z < size → NoneTo l most z (2 ^ l.length)) ∧ WrB w A l W ∧ Slots [none, some (.int .i64 most), none, none, none, some (.pointer (some ⟨w.heap.size + 1, 0, none⟩)), some (.slice A l.length c), none, none, none, none, none, none, none, none, none, none, none, some (.int .i64 ((l.length : Int) + 1)), some (.int .i64 size), none, none, none, none, none, none, none, none, none, none, none, none, none, none, none, none, none, none, none, none, none, none, none, none, none, none, none, none, none, none, none, none, none, none, none, none, none, none, none, none, none, none] t
set_option maxRecDepth 100000 in
set_option maxHeartbeats 600000 in
theorem Wrong_any (F : Fur) (b : Bool) (most : Int) (w : World) (h : F.At w) (hi : F.Is b) (h8 : b = true → F.l0.length ≤ 8 ∧ ∀ x ∈ F.pl, okSpan x) :
    Calls Try.prog 24 #[F.val, .int .i64 most] w fun e w' => (∃ r, e = .returned (.tuple #[.int .i64 r.1, .int .i64 r.2]) ∧ WrongV b most F.pl r) ∧ Below w.heap.size w w' := by
  have hmf : ∀ fn first cap w, (Instr.makeFunc fn first cap).run Try.prog w = .ok (.func fn first cap) w := fun _ _ _ _ => rfl
  refine (callsIn_wide (n := 0)).1 (callsIn_of_wp_marks Try.func24 rfl trivial ?_)
  simp only [Try.ntmps24, List.size_toArray, List.length_cons, List.length_nil, Nat.reduceAdd, Nat.reduceSub, Array.replicate_succ, Array.replicate_zero, List.push_toArray, List.append_toArray, List.nil_append, List.cons_append]
  simp only [Fur.val]
  refine split_rest fun rest hR => ?_
  gi_wp2
  have hB := ((Below.refl w.heap.size w).alloc (Nat.le_refl _) (.cells #[F.s0, F.s1, F.s2] 24)).alloc (by simp) (.cells #[.int .i64 0] 29)
  have b1 : Box3 ((w.alloc (.cells #[F.s0, F.s1, F.s2] 24)).alloc (.cells #[.int .i64 0] 29)) w.heap.size 24 F.s0 F.s1 F.s2 := (Box3.new w 24 F.s0 F.s1 F.s2).grow (Grow.alloc 0 _ _)
  have b3 : Boxed ((w.alloc (.cells #[F.s0, F.s1, F.s2] 24)).alloc (.cells #[.int .i64 0] 29)) (w.heap.size + 1) 29 (.int .i64 0) := by (simp only [Boxed, Box2, heap_alloc_at, heap_set_at, World.size_alloc, World.size_setCell]; repeat (first | rfl | rw [if_pos (by omega)] | rw [if_neg (by omega)]))
  refine guard_rest (lo := w.heap.size) (T := 132) (b := w.heap.size + 1) catches64 ⟨_, _, rfl⟩ (fun W => by simp [go_sem]) hB.size ?_
  subst hR
  generalize (w.alloc (.cells #[F.s0, F.s1, F.s2] 24)).alloc (.cells #[.int .i64 0] 29) = V at *
  clear hmf
  have hF := h.below hB
  have c0 := b1.cell0
  have c1 := b1.cell1
  have c2 := b1.cell2
  refine exec_seq (exec_region_o fun ds => ?_)
  gi_wp2_with fail
  have stop : ∀ (code : Int) (t : Array Value) (W2 : World), Below V.heap.size V W2 → t[4]? = some (.int .i64 0) → t[5]? = some (.pointer (some ⟨w.heap.size + 1, 0, none⟩)) → WrongV b most F.pl (0, code) →
      guardEnd Try.f24 132 (w.heap.size + 1) w.heap.size (fun e w' => (∃ r, e = .returned (.tuple #[.int .i64 r.1, .int .i64 r.2]) ∧ WrongV b most F.pl r) ∧ Below w.heap.size w w') Try.prog (.panic (misfit code)) t W2 := by
    intro code t W2 hw2 h4 h5 hv
    refine .inr ⟨code, 29, 0, rfl, (hw2.block _ b3.lt).trans b3, ?_⟩
    rintro W' W'' hG rfl
    have hB2 := hB.trans (hw2.mono hB.size)
    have d3 := hG.boxed (show Boxed W2 (w.heap.size + 1) 29 (.int .i64 0) from (hw2.block _ b3.lt).trans b3)
    exact ⟨_, results_num rfl h4 h5 (boxed_set d3 _), ⟨(0, code), rfl, hv⟩, (hB2.trans (hG.below (Nat.le_refl _) hB2.size)).setCell (by show w.heap.size ≤ w.heap.size + 1; omega) _⟩
  by_cases hb : b = false
  · subst hb
    refine ⟨trivial, rfl, (callsIn_wide.2 (open_no1 F _ V hF hi)).mono ?_⟩
    rintro e W2 ⟨rfl, hw2⟩
    exact eq_mk (Keep.of_below hw2) (stop 1 _ W2 hw2 rfl rfl (by simp [WrongV]))
  have hb' : b = true := by simpa using hb
  subst hb'
  obtain ⟨hl8, hok⟩ := h8 rfl
  by_cases hm : 0 ≤ most
  case neg =>
    have hd : decide (0 ≤ most) = false := decide_eq_false hm
    rw [hd]
    refine ⟨trivial, rfl, (callsIn_wide.2 (open_no2 F V hF hi)).mono ?_⟩
    rintro e W2 ⟨rfl, hw2⟩
    exact eq_mk (Keep.of_below hw2) (stop 2 _ W2 hw2 rfl rfl (by simp [WrongV, hm]))
  clear stop
  have hd : decide (0 ≤ most) = true := decide_eq_true hm
  rw [hd]
  refine ⟨trivial, rfl, (callsIn_wide.2 (open_yes F V hF hi hl8)).mono ?_⟩
  rintro e W2 ⟨A, c, rfl, hc, hsp, hw2, hAb⟩
  gi_wp2_with fail
  refine eq_mk (Keep.of_below hw2) ?_
  show Exec _ _ _ _ _ _
  have hpl : F.l0.length = F.pl.length := F.pl_len.symm
  have hsp0 : Spans W2 A F.pl := hsp
  have hB2 := hB.trans (hw2.mono hB.size)
  have d3 : Boxed W2 (w.heap.size + 1) 29 (.int .i64 0) := (hw2.block _ b3.lt).trans b3
  have hWV : ∀ n : Nat, WrongIs F.pl most n → WrongV true most F.pl ((n : Int), 0) := fun n hn => by
    unfold WrongV
    rw [if_pos rfl, if_pos hm]
    exact ⟨n, rfl, hn⟩
  clear hsp b1 b3 c0 c1 c2 hF hB hw2 hAb hd
  clear V
  rw [hpl] at hl8 hc ⊢
  generalize F.pl = l at *
  have hnil : A = none → l = [] := fun hA => by
    rcases hsp0 with h | ⟨g, off, e, _⟩
    · exact h
    · rw [hA] at e
      cases e
  have hW0 : WrB w A l W2 := ⟨hsp0, hnil, d3, hB2⟩
  clear hsp0 d3 hB2 hnil
  refine exec_seq (exec_seq (exec_region_o fun ds => ?_))
  gi_wp2
  refine eq_mk (Keep.refl _) ?_
  show Exec _ _ _ _ _ _
  refine exec_block ?_
  refine exec_loop (OuI w most A l c) (l.length + 1) ⟨0, by omega, by omega, fun z hz => by omega, hW0, by simp [Slots, Fits]⟩ ?_
  clear hW0
  clear W2
  rintro j t W ⟨size, hsz, hj, hno, hW, hSl⟩
  obtain ⟨x, hx⟩ := Slots.open_ hSl; simp only [fill, Nat.reduceAdd] at hx; subst hx; clear hSl
  refine exec_seq (exec_region_o fun ds => ?_)
  gi_wp2
  refine eq_mk (Keep.refl _) ?_
  show Exec _ _ _ _ _ _
  have hpw := pow_le l.length hl8
  have hcast : ((2 : Int) ^ l.length) = ((2 ^ l.length : Nat) : Int) := by simp
  refine exec_seq (exec_cond (b := decide ((size : Int) < l.length + 1)) rfl (fun hp => ?_) (fun hp => ?_))
  · have hzl : size < l.length + 1 := by have := of_decide_eq_true hp; omega
    have HC := Lib.hid hcast
    have HP := Lib.hid hpw
    clear hcast hpw
    refine exec_skip ?_
    show Exec _ _ _ _ _ _
    refine exec_seq (exec_block (exec_seq (exec_region_o fun ds => ?_)))
    gi_wp2
    refine eq_mk (Keep.refl _) ?_
    show Exec _ _ _ _ _ _
    refine exec_seq (exec_region_o fun ds => ?_)
    gi_wp2
    rw [wrap_pow l.length hl8]
    refine eq_mk (Keep.refl _) ?_
    show Exec _ _ _ _ _ _
    refine (wrong_size (most := most) (c := c) (size := size) (N := 2 ^ l.length) hW hl8 hok HC.out HP.out _ (by simp [Slots, Fits])).mono ?_
    rintro e t' W' (⟨rfl, hf, hW', hF'⟩ | ⟨rfl, s, hs1, hs2, hs3, hE, hBe, hF'⟩)
    · show Exec _ _ _ _ _ _
      clear hp
      have HNO : Hid (∀ z, z < size + 1 → NoneTo l most z (2 ^ l.length)) := Lib.hid fun z hz => by
        rcases Nat.lt_or_ge z size with h | h
        · exact hno z h
        · rw [show z = size by omega]; exact hf
      clear hno hf
      obtain ⟨x, hx⟩ := Slots.open_ hF'; simp only [fill, Nat.reduceAdd] at hx; subst hx; clear hF'
      refine exec_region_o fun ds => ?_
      gi_wp2
      refine eq_mk (Keep.refl _) ⟨l.length + 1 - (size + 1), by omega, size + 1, by omega, rfl, HNO.out, hW', ?_⟩
      simp [Slots, Fits]
    · obtain ⟨x, hx⟩ := Slots.open_ hF'; simp only [fill, Nat.reduceAdd] at hx; subst hx; clear hF'
      refine .inl ⟨.inr rfl, hE.lt, fun W'' hG => ⟨_, results_num rfl rfl rfl (hG.boxed hE), ⟨((s : Int), 0), rfl, hWV s ?_⟩, hBe.trans (hG.below (Nat.le_refl _) hBe.size)⟩⟩
      exact .inl ⟨size, by omega, hs1, hs2, hs3, hno⟩
  · have hzl : size = l.length + 1 := by have := of_decide_eq_false hp; omega
    subst hzl
    refine exec_exit ?_
    show Exec _ _ _ _ _ _
    have HV := Lib.hid (hWV (2 ^ l.length - 1) (.inr ⟨hno, rfl⟩))
    have hE := hW.e
    have hBe := hW.below
    have f1 := hE.cell
    have f2 := hE.frozen
    have hwp := wrap_pow2 l.length hl8
    have HC := Lib.hid hcast
    have HP := Lib.hid hpw
    clear hcast hpw hno hWV hp
    refine exec_seq (exec_region_o fun ds => ?_)
    gi_wp2
    rw [wrap_pow3 l.length hl8]
    have g3 := boxed_set hE (.int .i64 0)
    have hB5 := hBe.setCell (p := ⟨w.heap.size + 1, 0, none⟩) (by show w.heap.size ≤ w.heap.size + 1; omega) (.int .i64 0)
    exact eq_mk ((Keep.refl _).setCell _ _) (exec_ret (.inl ⟨.inr rfl, g3.lt, fun W'' hG => ⟨_, results_num rfl rfl rfl (hG.boxed g3), ⟨(((2 ^ l.length - 1 : Nat) : Int), 0), rfl, HV.out⟩, hB5.trans (hG.below (Nat.le_refl _) hB5.size)⟩⟩))
end Go.Proofs.Ytafmgmaelnpehaa
end

section
set_option linter.unusedVariables false
set_option linter.unusedSimpArgs false
namespace Go.Proofs.Ytafmgmaelnpehaa
open Go.RowKit Go.TL Go.Shelf Go.Fu
attribute [local go_sem] Oper.semAt_some
open PFurrowAsks





theorem results_pair {fn : Func} {p : Tmp} (hr : fn.results = #[.cell p 28]) {t : Array Value} {x : Nat} (hp : t[p]? = some (.pointer (some ⟨x, 0, none⟩))) {W : World} {a b : Int} (hx : Box2 W x 28 a b) : (results fn t).run Try.prog W = .ok (.agg #[.int .i64 a, .int .i64 b]) W := by
  have h0 := hx.cell0
  have h1 := hx.cell1
  simp [results, hr, hp, go_sem, h0, h1]
set_option maxRecDepth 100000 in
theorem deep_any (a b : Int) (w : World) : Calls Try.prog 133 #[.agg #[.int .i64 a, .int .i64 b]] w fun e w' => e = .returned (.agg #[.int .i64 a, .int .i64 b]) ∧ Below w.heap.size w w' := by
  refine calls_of_exec Try.func133 rfl ?_
  simp only [Try.ntmps133, List.size_toArray, List.length_cons, List.length_nil, Nat.reduceAdd, Nat.reduceSub, Array.replicate_succ, Array.replicate_zero, List.push_toArray, List.append_toArray, List.nil_append, List.cons_append]
  refine exec_seq (exec_region_o fun ds => ?_)
  gi_wp2
  refine eq_mk (((Keep.refl w).alloc _).alloc _) ?_
  show Exec _ _ _ _ _ _
  have hB := ((Below.refl w.heap.size w).alloc (Nat.le_refl _) (.cells #[.int .i64 a, .int .i64 b] 104)).alloc (by simp) (.cells #[.int .i64 0, .int .i64 0] 28)
  have b1 : Box2 ((w.alloc (.cells #[.int .i64 a, .int .i64 b] 104)).alloc (.cells #[.int .i64 0, .int .i64 0] 28)) w.heap.size 104 a b := by (simp only [Boxed, Box2, heap_alloc_at, heap_set_at, World.size_alloc, World.size_setCell]; repeat (first | rfl | rw [if_pos (by omega)] | rw [if_neg (by omega)]))
  have b2 : Box2 ((w.alloc (.cells #[.int .i64 a, .int .i64 b] 104)).alloc (.cells #[.int .i64 0, .int .i64 0] 28)) (w.heap.size + 1) 28 0 0 := by (simp only [Boxed, Box2, heap_alloc_at, heap_set_at, World.size_alloc, World.size_setCell]; repeat (first | rfl | rw [if_pos (by omega)] | rw [if_neg (by omega)]))
  generalize (w.alloc (.cells #[.int .i64 a, .int .i64 b] 104)).alloc (.cells #[.int .i64 0, .int .i64 0] 28) = V at *
  have c0 := b1.cell0
  have c1 := b1.cell1
  have d0 := b2.cell0
  have d1 := b2.cell1
  have d2 := b2.frozen
  refine exec_seq (exec_region_o fun ds => ?_)
  gi_wp2
  have g2 : Box2 ((V.setCell ⟨w.heap.size + 1, 0, none⟩ (.int .i64 a)).setCell ⟨w.heap.size + 1, 1, none⟩ (.int .i64 b)) (w.heap.size + 1) 28 a b := by (simp only [Boxed, Box2, heap_alloc_at, heap_set_at, World.size_alloc, World.size_setCell]; repeat (first | rfl | exact b2 | rw [if_pos (by omega)] | rw [if_neg (by omega)] | rw [show _ = _ from b2]))
  have hB2 : Below w.heap.size w ((V.setCell ⟨w.heap.size + 1, 0, none⟩ (.int .i64 a)).setCell ⟨w.heap.size + 1, 1, none⟩ (.int .i64 b)) := (hB.setCell (by show w.heap.size ≤ w.heap.size + 1; omega) _).setCell (by show w.heap.size ≤ w.heap.size + 1; omega) _
  exact eq_mk (((Keep.refl _).setCell _ _).setCell _ _) (exec_ret ⟨.inr rfl, fun W' hG => ⟨_, results_pair rfl rfl (hG.box2 g2), rfl, hB2.trans (hG.below (Nat.le_refl _) hB2.size)⟩⟩)
/-- A box of four whole numbers. -/
def Box4 (W : World) (B : Nat) (t : TypeId) (a b c d : Int) : Prop := W.heap[B]? = some (.cells #[.int .i64 a, .int .i64 b, .int .i64 c, .int .i64 d] t (0, 0))
theorem Box4.cells {W : World} {B : Nat} {t : TypeId} {a b c d : Int} (h : Box4 W B t a b c d) : W.cell? ⟨B, 0, none⟩ = some (.int .i64 a) ∧ W.cell? ⟨B, 1, none⟩ = some (.int .i64 b) ∧ W.cell? ⟨B, 2, none⟩ = some (.int .i64 c) ∧ W.cell? ⟨B, 3, none⟩ = some (.int .i64 d) := by
  refine ⟨?_, ?_, ?_, ?_⟩ <;> simp [World.cell?, show W.heap[B]? = _ from h]
set_option maxRecDepth 100000 in
theorem turned_any (a b c d : Int) (h1 : -1000000 ≤ a * c ∧ a * c ≤ 1000000) (h2 : -1000000 ≤ b * d ∧ b * d ≤ 1000000) (w : World) : Calls Try.prog 134 #[.agg #[.int .i64 a, .int .i64 b, .int .i64 c, .int .i64 d]] w fun e w' => e = .returned (.agg #[.int .i64 (a * c), .int .i64 (b * d)]) ∧ Below w.heap.size w w' := by
  refine calls_of_exec Try.func134 rfl ?_
  simp only [Try.ntmps134, List.size_toArray, List.length_cons, List.length_nil, Nat.reduceAdd, Nat.reduceSub, Array.replicate_succ, Array.replicate_zero, List.push_toArray, List.append_toArray, List.nil_append, List.cons_append]
  refine exec_seq (exec_region_o fun ds => ?_)
  gi_wp2
  refine eq_mk (((Keep.refl w).alloc _).alloc _) ?_
  show Exec _ _ _ _ _ _
  have hB := ((Below.refl w.heap.size w).alloc (Nat.le_refl _) (.cells #[.int .i64 a, .int .i64 b, .int .i64 c, .int .i64 d] 108)).alloc (by simp) (.cells #[.int .i64 0, .int .i64 0] 28)
  have b1 : Box4 ((w.alloc (.cells #[.int .i64 a, .int .i64 b, .int .i64 c, .int .i64 d] 108)).alloc (.cells #[.int .i64 0, .int .i64 0] 28)) w.heap.size 108 a b c d := by
    unfold Box4
    (simp only [Boxed, Box2, heap_alloc_at, heap_set_at, World.size_alloc, World.size_setCell]; repeat (first | rfl | rw [if_pos (by omega)] | rw [if_neg (by omega)]))
  have b2 : Box2 ((w.alloc (.cells #[.int .i64 a, .int .i64 b, .int .i64 c, .int .i64 d] 108)).alloc (.cells #[.int .i64 0, .int .i64 0] 28)) (w.heap.size + 1) 28 0 0 := by (simp only [Boxed, Box2, heap_alloc_at, heap_set_at, World.size_alloc, World.size_setCell]; repeat (first | rfl | rw [if_pos (by omega)] | rw [if_neg (by omega)]))
  generalize (w.alloc (.cells #[.int .i64 a, .int .i64 b, .int .i64 c, .int .i64 d] 108)).alloc (.cells #[.int .i64 0, .int .i64 0] 28) = V at *
  obtain ⟨c0, c1, c2, c3⟩ := b1.cells
  have d0 := b2.cell0
  have d1 := b2.cell1
  have d2 := b2.frozen
  have hw1 : wrap64 (a * c) = a * c := by rw [← IntWalk.i64_left]; exact IntWalk.i64_in _ (by omega)
  have hw2 : wrap64 (b * d) = b * d := by rw [← IntWalk.i64_left]; exact IntWalk.i64_in _ (by omega)
  refine exec_seq (exec_region_o fun ds => ?_)
  gi_wp2
  have g2 : Box2 ((V.setCell ⟨w.heap.size + 1, 0, none⟩ (.int .i64 (a * c))).setCell ⟨w.heap.size + 1, 1, none⟩ (.int .i64 (b * d))) (w.heap.size + 1) 28 (a * c) (b * d) := by (simp only [Boxed, Box2, heap_alloc_at, heap_set_at, World.size_alloc, World.size_setCell]; repeat (first | rfl | exact b2 | rw [if_pos (by omega)] | rw [if_neg (by omega)] | rw [show _ = _ from b2]))
  have hB2 : Below w.heap.size w ((V.setCell ⟨w.heap.size + 1, 0, none⟩ (.int .i64 (a * c))).setCell ⟨w.heap.size + 1, 1, none⟩ (.int .i64 (b * d))) := (hB.setCell (by show w.heap.size ≤ w.heap.size + 1; omega) _).setCell (by show w.heap.size ≤ w.heap.size + 1; omega) _
  exact eq_mk (((Keep.refl _).setCell _ _).setCell _ _) (exec_ret ⟨.inr rfl, fun W' hG => ⟨_, results_pair rfl rfl (hG.box2 g2), rfl, hB2.trans (hG.below (Nat.le_refl _) hB2.size)⟩⟩)
/-- The furrow lies in a box. -/
def FBox (F : Fur) (b : Nat) (W : World) : Prop := Box3 W b 24 F.s0 F.s1 F.s2 ∧ F.At W
theorem FBox.below {F : Fur} {b : Nat} {W W' : World} (h : FBox F b W) (hb : Below W.heap.size W W') : FBox F b W' := ⟨h.1.grow (Grow.of_below (B := 0) hb), h.2.below hb⟩
theorem row_at {W : World} {A : Option Addr} {l : List S28} (h : Row W A l) (k : Nat) (hk : k < l.length) : ∃ ad, A = some ad ∧ W.cell? (ad.add (k * 2)) = some (.int .i64 (l[k]'hk).f0) ∧ W.cell? ⟨(ad.add (k * 2)).block, (ad.add (k * 2)).off + 1, none⟩ = some (.int .i64 (l[k]'hk).f1) := by
  obtain ⟨ad, hA, hc0, hc1⟩ := at_T28 h (k : Int) (by omega) (by omega)
  have hrd : rd_T28 l (k : Int) = l[k]'hk := by simp [rd_T28, hk]
  rw [hrd] at hc0 hc1
  exact ⟨ad, hA, hc0, hc1⟩
set_option maxRecDepth 100000 in
theorem shallow2_any (F : Fur) (b k : Nat) (hk : k < F.l2.length) (h40 : F.l2.length ≤ 40) (w : World) (h : FBox F b w) : Calls Try.prog 71 #[.int .i64 k, .pointer (some ⟨b, 0, none⟩)] w fun e w' => e = .returned (.iface 104 (.agg #[.int .i64 (F.l2[k]'hk).f0, .int .i64 (F.l2[k]'hk).f1])) ∧ Below w.heap.size w w' := by
  obtain ⟨hX, hA⟩ := h
  have c2 := hX.cell2
  have c0 := hX.cell0
  simp only [Fur.s2] at c2
  obtain ⟨ad, hA2, hc0, hc1⟩ := row_at hA.r2 k hk
  rw [hA2] at c2
  have hkI : (k : Int) < F.l2.length := by omega
  generalize F.l2[k]'hk = y at *
  obtain ⟨y0, y1⟩ := y
  simp only at hc0 hc1 ⊢
  refine calls_of_exec Try.func71 rfl ?_
  simp only [Try.ntmps71, List.size_toArray, List.length_cons, List.length_nil, Nat.reduceAdd, Nat.reduceSub, Array.replicate_succ, Array.replicate_zero, List.push_toArray, List.append_toArray, List.nil_append, List.cons_append]
  refine exec_seq (exec_region_o fun ds => ?_)
  gi_wp2
  refine eq_mk (Keep.refl w) ?_
  show Exec _ _ _ _ _ _
  refine exec_seq (exec_region_o fun ds => ?_)
  gi_wp2
  refine eq_mk (Keep.refl w) ?_
  refine exec_ret ⟨.inr rfl, fun W' hG => ⟨.iface 104 (.agg #[.int .i64 y0, .int .i64 y1]), by simp [results, Try.f71, go_sem], rfl, hG.below (Nat.le_refl _) (Nat.le_refl _)⟩⟩
set_option maxRecDepth 100000 in
theorem soil2_any (F : Fur) (b k : Nat) (hk : k < F.l2.length) (hk1 : k < F.l1.length) (h40 : F.l2.length ≤ 40) (h41 : F.l1.length ≤ 40) (w : World) (h : FBox F b w) :
    Calls Try.prog 74 #[.int .i64 k, .pointer (some ⟨b, 0, none⟩)] w fun e w' => e = .returned (.iface 108 (.agg #[.int .i64 (F.l2[k]'hk).f0, .int .i64 (F.l2[k]'hk).f1, .int .i64 (F.l1[k]'hk1).f0, .int .i64 (F.l1[k]'hk1).f1])) ∧ Below w.heap.size w w' := by
  obtain ⟨hX, hA⟩ := h
  have c2 := hX.cell2
  have c1 := hX.cell1
  have c0 := hX.cell0
  simp only [Fur.s2] at c2
  simp only [Fur.s1] at c1
  obtain ⟨ad, hA2, hc0, hc1⟩ := row_at hA.r2 k hk
  obtain ⟨ae, hA1, he0, he1⟩ := row_at hA.r1 k hk1
  rw [hA2] at c2
  rw [hA1] at c1
  have hkI : (k : Int) < F.l2.length := by omega
  have hkI1 : (k : Int) < F.l1.length := by omega
  generalize F.l2[k]'hk = y at *
  generalize F.l1[k]'hk1 = z at *
  obtain ⟨y0, y1⟩ := y
  obtain ⟨z0, z1⟩ := z
  simp only at hc0 hc1 he0 he1 ⊢
  refine calls_of_exec Try.func74 rfl ?_
  simp only [Try.ntmps74, List.size_toArray, List.length_cons, List.length_nil, Nat.reduceAdd, Nat.reduceSub, Array.replicate_succ, Array.replicate_zero, List.push_toArray, List.append_toArray, List.nil_append, List.cons_append]
  refine exec_seq (exec_region_o fun ds => ?_)
  gi_wp2
  refine eq_mk (Keep.refl w) ?_
  show Exec _ _ _ _ _ _
  refine exec_seq (region_of_quiet (by kernel_rfl) (by kernel_rfl) (by kernel_rfl) (fun W' => Below w.heap.size w W') (below_drew w) fun ds => ?_)
  have hlt := hX.lt
  have m0 : ∀ W', Below w.heap.size w W' → W'.cell? ⟨b, 0, none⟩ = some F.s0 := fun W' hw => (hw.cell hlt).trans c0
  have m1 : ∀ W', Below w.heap.size w W' → W'.cell? ⟨b, 1, none⟩ = some (.slice (some ae) F.l1.length F.c1) := fun W' hw => (hw.cell hlt).trans c1
  have m2 : ∀ W', Below w.heap.size w W' → W'.cell? ⟨b, 2, none⟩ = some (.slice (some ad) F.l2.length F.c2) := fun W' hw => (hw.cell hlt).trans c2
  have n0 : ∀ W', Below w.heap.size w W' → W'.cell? (ad.add (k * 2)) = some (.int .i64 y0) := fun W' hw => (Grow.of_below (B := 0) hw).cell hc0
  have n1 : ∀ W', Below w.heap.size w W' → W'.cell? ⟨(ad.add (k * 2)).block, (ad.add (k * 2)).off + 1, none⟩ = some (.int .i64 y1) := fun W' hw => (Grow.of_below (B := 0) hw).cell hc1
  have o0 : ∀ W', Below w.heap.size w W' → W'.cell? (ae.add (k * 2)) = some (.int .i64 z0) := fun W' hw => (Grow.of_below (B := 0) hw).cell he0
  have o1 : ∀ W', Below w.heap.size w W' → W'.cell? ⟨(ae.add (k * 2)).block, (ae.add (k * 2)).off + 1, none⟩ = some (.int .i64 z1) := fun W' hw => (Grow.of_below (B := 0) hw).cell he1
  clear c0 c1 c2 hc0 hc1 he0 he1 hX hA
  refine BigFrame.wpQuiet_want rfl (fun K hK => quiet_val (.pointer (some ⟨b, 2, none⟩)) (fun wq hq => ?_) (hK _ ?_)); (focus (first | (simp [go_sem, m0 wq hq]; done) | rfl)); clear hK K; simp only [Act.put, List.setIfInBounds_toArray, List.set_cons_succ, List.set_cons_zero]
  refine BigFrame.wpQuiet_want rfl (fun K hK => quiet_val (.slice (some ad) F.l2.length F.c2) (fun wq hq => ?_) (hK _ ?_)); (focus (first | (simp [go_sem, m2 wq hq]; done) | rfl)); clear hK K; simp only [Act.put, List.setIfInBounds_toArray, List.set_cons_succ, List.set_cons_zero]
  refine BigFrame.wpQuiet_want rfl (fun K hK => quiet_val (.int .i64 k) (fun wq hq => ?_) (hK _ ?_)); (focus (first | (simp [go_sem]; done) | rfl)); clear hK K; simp only [Act.put, List.setIfInBounds_toArray, List.set_cons_succ, List.set_cons_zero]
  refine BigFrame.wpQuiet_want rfl (fun K hK => quiet_val (.pointer (some (ad.add (k * 2)))) (fun wq hq => ?_) (hK _ ?_)); (focus (first | (simp [go_sem, hkI, hk]; done) | rfl)); clear hK K; simp only [Act.put, List.setIfInBounds_toArray, List.set_cons_succ, List.set_cons_zero]
  refine BigFrame.wpQuiet_want rfl (fun K hK => quiet_val (.agg #[.int .i64 y0, .int .i64 y1]) (fun wq hq => ?_) (hK _ ?_)); (focus (first | (simp [go_sem, n0 wq hq, n1 wq hq]; done) | rfl)); clear hK K; simp only [Act.put, List.setIfInBounds_toArray, List.set_cons_succ, List.set_cons_zero]
  refine BigFrame.wpQuiet_want rfl (fun K hK => quiet_val (.agg #[.int .i64 y0, .int .i64 y1]) (fun wq hq => ?_) (hK _ ?_)); (focus (first | (simp [go_sem]; done) | rfl)); clear hK K; simp only [Act.put, List.setIfInBounds_toArray, List.set_cons_succ, List.set_cons_zero]
  refine BigFrame.wpQuiet_want rfl (fun K hK => quiet_val (.pointer (some ⟨b, 1, none⟩)) (fun wq hq => ?_) (hK _ ?_)); (focus (first | (simp [go_sem, m0 wq hq]; done) | rfl)); clear hK K; simp only [Act.put, List.setIfInBounds_toArray, List.set_cons_succ, List.set_cons_zero]
  refine BigFrame.wpQuiet_want rfl (fun K hK => quiet_val (.slice (some ae) F.l1.length F.c1) (fun wq hq => ?_) (hK _ ?_)); (focus (first | (simp [go_sem, m1 wq hq]; done) | rfl)); clear hK K; simp only [Act.put, List.setIfInBounds_toArray, List.set_cons_succ, List.set_cons_zero]
  refine BigFrame.wpQuiet_want rfl (fun K hK => quiet_val (.int .i64 k) (fun wq hq => ?_) (hK _ ?_)); (focus (first | (simp [go_sem]; done) | rfl)); clear hK K; simp only [Act.put, List.setIfInBounds_toArray, List.set_cons_succ, List.set_cons_zero]
  refine BigFrame.wpQuiet_want rfl (fun K hK => quiet_val (.pointer (some (ae.add (k * 2)))) (fun wq hq => ?_) (hK _ ?_)); (focus (first | (simp [go_sem, hkI1, hk1]; done) | rfl)); clear hK K; simp only [Act.put, List.setIfInBounds_toArray, List.set_cons_succ, List.set_cons_zero]
  refine BigFrame.wpQuiet_want rfl (fun K hK => quiet_val (.agg #[.int .i64 z0, .int .i64 z1]) (fun wq hq => ?_) (hK _ ?_)); (focus (first | (simp [go_sem, o0 wq hq, o1 wq hq]; done) | rfl)); clear hK K; simp only [Act.put, List.setIfInBounds_toArray, List.set_cons_succ, List.set_cons_zero]
  refine BigFrame.wpQuiet_want rfl (fun K hK => quiet_val (.agg #[.int .i64 y0, .int .i64 y1, .int .i64 z0, .int .i64 z1]) (fun wq hq => ?_) (hK _ ?_)); (focus (first | (simp [go_sem]; done) | rfl)); clear hK K; simp only [Act.put, List.setIfInBounds_toArray, List.set_cons_succ, List.set_cons_zero]
  refine BigFrame.wpQuiet_want rfl (fun K hK => quiet_val (.iface 108 (.agg #[.int .i64 y0, .int .i64 y1, .int .i64 z0, .int .i64 z1])) (fun wq hq => ?_) (hK _ ?_)); (focus (first | (simp [go_sem]; done) | rfl)); clear hK K; simp only [Act.put, List.setIfInBounds_toArray, List.set_cons_succ, List.set_cons_zero]
  refine BigFrame.wpQuiet_want rfl (fun K hK => quiet_val (.iface 108 (.agg #[.int .i64 y0, .int .i64 y1, .int .i64 z0, .int .i64 z1])) (fun wq hq => ?_) (hK _ ?_)); (focus (first | (simp [go_sem]; done) | rfl)); clear hK K; simp only [Act.put, List.setIfInBounds_toArray, List.set_cons_succ, List.set_cons_zero]
  refine wpQuiet_nil ⟨rfl, fun W' hW' => ⟨Keep.of_below hW', ?_⟩⟩
  refine exec_ret ⟨.inr rfl, fun W'' hG => ⟨.iface 108 (.agg #[.int .i64 y0, .int .i64 y1, .int .i64 z0, .int .i64 z1]), by simp [results, Try.f74, go_sem], rfl, hW'.trans (hG.below (Nat.le_refl _) hW'.size)⟩⟩
end Go.Proofs.Ytafmgmaelnpehaa
end

section
set_option linter.unusedVariables false
set_option linter.unusedSimpArgs false
namespace Go.Proofs.Ytafmgmaelnpehaa
open Go.RowKit Go.TL Go.Shelf Go.Fu
attribute [local go_sem] Oper.semAt_some
open PFurrowAsks






theorem meth104 (a b : Int) (W : World) : (method 298 104 (.agg #[.int .i64 a, .int .i64 b]) "furrowworks/furrow.span").run Try.prog W = .ok (133, .agg #[.int .i64 a, .int .i64 b]) W := by kernel_rfl
theorem meth108 (a b c d : Int) (W : World) : (method 298 108 (.agg #[.int .i64 a, .int .i64 b, .int .i64 c, .int .i64 d]) "furrowworks/furrow.span").run Try.prog W = .ok (134, .agg #[.int .i64 a, .int .i64 b, .int .i64 c, .int .i64 d]) W := by kernel_rfl
theorem info28' : ∃ i0, Try.prog.info? 28 = some i0 ∧ i0.zero = some (.agg #[.int .i64 0, .int .i64 0]) ∧ i0.size = 2 ∧ i0.bytes = 16 := by
  have := info28
  cases h : Try.prog.info? 28 with
  | none => rw [h] at this; cases this
  | some i0 =>
    rw [h] at this
    have hz := Option.some.inj this
    simp only [Prod.mk.injEq] at hz
    exact ⟨i0, rfl, hz⟩
def listOf (y : Nat → Int × Int) (n : Nat) : List (Int × Int) := (List.range n).map y
theorem listOf_succ (y : Nat → Int × Int) (n : Nat) : listOf y (n + 1) = listOf y n ++ [y n] := by simp [listOf, List.range_succ]
theorem listOf_len (y : Nat → Int × Int) (n : Nat) : (listOf y n).length = n := by simp [listOf]
/-- What is measured: a function value that makes a value of a type with a method that tells a span. -/
structure Meas (gf : FuncId) (cap : Array Value) (ty m : Nat) (x : Nat → Value) (y : Nat → Int × Int) (n : Nat) (w : World) : Prop where
  ent : ∀ args w, (callFunc gf args).run Try.prog w = .ok (.enter gf args) w
  make : ∀ k, k < n → ∀ W, Below w.heap.size w W → Calls Try.prog gf (#[.int .i64 k] ++ cap) W fun e w' => e = .returned (.iface ty (x k)) ∧ Below W.heap.size W w'
  tell : ∀ k, k < n → ∀ W, Calls Try.prog m #[x k] W fun e w' => e = .returned (.agg #[.int .i64 (y k).1, .int .i64 (y k).2]) ∧ Below W.heap.size W w'
def SpI (F : Fur) (gf : FuncId) (cap : Array Value) (y : Nat → Int × Int) (w : World) (j : Nat) (t : Array Value) (W : World) : Prop :=
  ∃ (k : Nat) (v : Value), k ≤ F.l2.length ∧ j = F.l2.length - k ∧ W.ownsRow w.heap.size 28 2 v k (flat (listOf y k)) ∧ Below w.heap.size w W ∧ Slots [none, some (.func (.func gf) #[] cap), none, none, some (v), none, none, none, some (.int .i64 F.l2.length), some (.int .i64 k), none, none, none, none, none, none, none, none, none, none, none] t
set_option maxRecDepth 100000 in
set_option maxHeartbeats 600000 in
theorem spans104 (F : Fur) (gf : FuncId) (cap : Array Value) (y : Nat → Int × Int) (w : World) (h : F.At w) (h40 : F.l2.length ≤ 40) (hM : Meas gf cap 104 133 (fun k => .agg #[.int .i64 (y k).1, .int .i64 (y k).2]) y F.l2.length w) :
    Calls Try.prog 70 #[F.val, .func (.func gf) #[] cap] w fun e w' => ∃ v, e = .returned v ∧ w'.ownsRow w.heap.size 28 2 v F.l2.length (flat (listOf y F.l2.length)) ∧ Below w.heap.size w w' := by
  refine calls_of_exec Try.func70 rfl ?_
  simp only [Try.ntmps70, List.size_toArray, List.length_cons, List.length_nil, Nat.reduceAdd, Nat.reduceSub, Array.replicate_succ, Array.replicate_zero, List.push_toArray, List.append_toArray, List.nil_append, List.cons_append]
  simp only [Fur.val]
  refine exec_seq (exec_region_o fun ds => ?_)
  gi_wp2
  refine eq_mk ((Keep.refl w).alloc _) ?_
  show Exec _ _ _ _ _ _
  have hB := (Below.refl w.heap.size w).alloc (Nat.le_refl _) (.cells #[F.s0, F.s1, F.s2] 24)
  have hX := Box3.new w 24 F.s0 F.s1 F.s2
  generalize w.alloc (.cells #[F.s0, F.s1, F.s2] 24) = W at *
  have c2 := hX.cell2
  have c0 := hX.cell0
  simp only [Fur.s2] at c2
  refine exec_seq (exec_seq (exec_region_o fun ds => ?_))
  gi_wp2
  refine eq_mk (Keep.refl _) ?_
  show Exec _ _ _ _ _ _
  refine exec_block ?_
  refine exec_loop (SpI F gf cap y w) F.l2.length ⟨0, _, by omega, by omega, World.ownsRow_nil _ _ _ _, hB, by simp [Slots, Fits]⟩ ?_
  clear hX c2 c0 hB
  clear W
  rintro j t W ⟨k, v, hk, hj, hown, hB, hSl⟩
  obtain ⟨x, hx⟩ := Slots.open_ hSl; simp only [fill, Nat.reduceAdd] at hx; subst hx; clear hSl
  refine exec_seq (exec_region_o fun ds => ?_)
  gi_wp2
  refine eq_mk (Keep.refl _) ?_
  show Exec _ _ _ _ _ _
  refine exec_seq (exec_cond (b := decide (k < F.l2.length)) rfl (fun hp => ?_) (fun hp => ?_))
  · have hkl : k < F.l2.length := of_decide_eq_true hp
    refine exec_skip ?_
    show Exec _ _ _ _ _ _
    refine exec_seq (exec_block (exec_seq (exec_region_o fun ds => ?_)))
    gi_wp2
    refine eq_mk (Keep.refl _) ?_
    show Exec _ _ _ _ _ _
    have hent := hM.ent
    have hmeth := meth104 (y k).1 (y k).2
    have hen2 := enters_of Try.func133 (by kernel_rfl) rfl
    refine exec_region_o fun ds => ?_
    gi_wp2_with fail
    refine ⟨trivial, rfl, (callsIn_wide.2 (hM.make k hkl W hB)).mono ?_⟩
    rintro e W1 ⟨rfl, hw1⟩
    gi_wp2_with fail
    refine ⟨trivial, rfl, (callsIn_wide.2 (hM.tell k hkl W1)).mono ?_⟩
    rintro e W2 ⟨rfl, hw2⟩
    have hw12 : Below W.heap.size W W2 := hw1.trans (hw2.mono hw1.size)
    have hown2 := own_grow hown (Grow.of_below (B := 0) hw12)
    have hB2 := hB.trans (hw12.mono hB.size)
    have hL := listOf_succ y k
    have hLl := listOf_len y k
    generalize y k = q at *
    obtain ⟨q0, q1⟩ := q
    simp only
    obtain ⟨i0, hi0, hz0, hz1, hz2⟩ := info28'
    gi_wp2_with (gi_at_builtin; refine wpListIn_append_own _ rfl _ _ 22 rfl w.heap.size 28 i0 (.agg #[.int .i64 0, .int .i64 0]) 2 16 Try.underlying22 hi0 hz0 hz1 hz2 rfl (by decide) v k (flat (listOf y k)) rfl (hown2.alloc _) ⟨W2.heap.size, 0, none⟩ 1 1 [.int .i64 q0, .int .i64 q1] rfl rfl (cell_pair_new _ _ _ _) (by simp [Value.oneCell']) (by unfold maxLen; omega) (by omega) (by have := hB2.size; simp; omega) ?_; intro v' w' hown3 hgr _)
    have hbk : ∀ j o, v.ownBlock = some j → (W2.alloc (.cells #[.int .i64 q0, .int .i64 q1] 28)).heap[j]? = some o → book o = false := by
      intro j o hv ho
      rcases (hown2.alloc (.cells #[.int .i64 q0, .int .i64 q1] 28)).2 with ⟨rfl, _⟩ | ⟨g', cap', cur, rfl, _, hg', _⟩
      · simp [Value.ownBlock] at hv
      · simp only [Value.ownBlock, Option.some.injEq] at hv
        subst hv
        rw [hg'] at ho
        cases ho
        rfl
    have hsB := hB2.size
    have hB3 : Below w.heap.size w w' := (hB2.alloc hsB (.cells #[.int .i64 q0, .int .i64 q1] 28)).grown hgr (by simp; omega) (fun q e => (hown2.lt q e).1)
    refine eq_mk ((((Keep.of_below hw12).alloc _).grown hgr hbk)) ?_
    show Exec _ _ _ _ _ _
    have hown4 : w'.ownsRow w.heap.size 28 2 v' (k + 1) (flat (listOf y (k + 1))) := by
      rw [hL, flat_app]
      exact hown3
    clear hown3 hgr hbk hown2 hB2 hw12 hw1 hw2 hown hsB hent hp hL
    refine exec_region_o fun ds => ?_
    gi_wp2
    refine eq_mk (Keep.refl _) ⟨F.l2.length - (k + 1), by omega, k + 1, v', by omega, rfl, hown4, hB3, ?_⟩
    simp [Slots, Fits]
  · have hkl : k = F.l2.length := by have := of_decide_eq_false hp; omega
    subst hkl
    refine exec_exit ?_
    show Exec _ _ _ _ _ _
    refine exec_seq (exec_region_o fun ds => ?_)
    gi_wp2
    refine eq_mk (Keep.refl _) ?_
    refine exec_ret ⟨.inr rfl, fun W' hG => ⟨v, by simp [results, Try.f70, go_sem], v, rfl, own_grow hown hG, hB.trans (hG.below (Nat.le_refl _) hB.size)⟩⟩
set_option maxRecDepth 100000 in
set_option maxHeartbeats 600000 in
theorem spans108 (F : Fur) (gf : FuncId) (cap : Array Value) (y d f : Nat → Int × Int) (w : World) (h : F.At w) (h40 : F.l2.length ≤ 40) (hM : Meas gf cap 108 134 (fun k => .agg #[.int .i64 (d k).1, .int .i64 (d k).2, .int .i64 (f k).1, .int .i64 (f k).2]) y F.l2.length w) :
    Calls Try.prog 70 #[F.val, .func (.func gf) #[] cap] w fun e w' => ∃ v, e = .returned v ∧ w'.ownsRow w.heap.size 28 2 v F.l2.length (flat (listOf y F.l2.length)) ∧ Below w.heap.size w w' := by
  refine calls_of_exec Try.func70 rfl ?_
  simp only [Try.ntmps70, List.size_toArray, List.length_cons, List.length_nil, Nat.reduceAdd, Nat.reduceSub, Array.replicate_succ, Array.replicate_zero, List.push_toArray, List.append_toArray, List.nil_append, List.cons_append]
  simp only [Fur.val]
  refine exec_seq (exec_region_o fun ds => ?_)
  gi_wp2
  refine eq_mk ((Keep.refl w).alloc _) ?_
  show Exec _ _ _ _ _ _
  have hB := (Below.refl w.heap.size w).alloc (Nat.le_refl _) (.cells #[F.s0, F.s1, F.s2] 24)
  have hX := Box3.new w 24 F.s0 F.s1 F.s2
  generalize w.alloc (.cells #[F.s0, F.s1, F.s2] 24) = W at *
  have c2 := hX.cell2
  have c0 := hX.cell0
  simp only [Fur.s2] at c2
  refine exec_seq (exec_seq (exec_region_o fun ds => ?_))
  gi_wp2
  refine eq_mk (Keep.refl _) ?_
  show Exec _ _ _ _ _ _
  refine exec_block ?_
  refine exec_loop (SpI F gf cap y w) F.l2.length ⟨0, _, by omega, by omega, World.ownsRow_nil _ _ _ _, hB, by simp [Slots, Fits]⟩ ?_
  clear hX c2 c0 hB
  clear W
  rintro j t W ⟨k, v, hk, hj, hown, hB, hSl⟩
  obtain ⟨x, hx⟩ := Slots.open_ hSl; simp only [fill, Nat.reduceAdd] at hx; subst hx; clear hSl
  refine exec_seq (exec_region_o fun ds => ?_)
  gi_wp2
  refine eq_mk (Keep.refl _) ?_
  show Exec _ _ _ _ _ _
  refine exec_seq (exec_cond (b := decide (k < F.l2.length)) rfl (fun hp => ?_) (fun hp => ?_))
  · have hkl : k < F.l2.length := of_decide_eq_true hp
    refine exec_skip ?_
    show Exec _ _ _ _ _ _
    refine exec_seq (exec_block (exec_seq (exec_region_o fun ds => ?_)))
    gi_wp2
    refine eq_mk (Keep.refl _) ?_
    show Exec _ _ _ _ _ _
    have hent := hM.ent
    have hmeth := meth108 (d k).1 (d k).2 (f k).1 (f k).2
    have hen2 := enters_of Try.func134 (by kernel_rfl) rfl
    refine exec_region_o fun ds => ?_
    gi_wp2_with fail
    refine ⟨trivial, rfl, (callsIn_wide.2 (hM.make k hkl W hB)).mono ?_⟩
    rintro e W1 ⟨rfl, hw1⟩
    gi_wp2_with fail
    refine ⟨trivial, rfl, (callsIn_wide.2 (hM.tell k hkl W1)).mono ?_⟩
    rintro e W2 ⟨rfl, hw2⟩
    have hw12 : Below W.heap.size W W2 := hw1.trans (hw2.mono hw1.size)
    have hown2 := own_grow hown (Grow.of_below (B := 0) hw12)
    have hB2 := hB.trans (hw12.mono hB.size)
    have hL := listOf_succ y k
    have hLl := listOf_len y k
    generalize y k = q at *
    obtain ⟨q0, q1⟩ := q
    simp only
    obtain ⟨i0, hi0, hz0, hz1, hz2⟩ := info28'
    gi_wp2_with (gi_at_builtin; refine wpListIn_append_own _ rfl _ _ 22 rfl w.heap.size 28 i0 (.agg #[.int .i64 0, .int .i64 0]) 2 16 Try.underlying22 hi0 hz0 hz1 hz2 rfl (by decide) v k (flat (listOf y k)) rfl (hown2.alloc _) ⟨W2.heap.size, 0, none⟩ 1 1 [.int .i64 q0, .int .i64 q1] rfl rfl (cell_pair_new _ _ _ _) (by simp [Value.oneCell']) (by unfold maxLen; omega) (by omega) (by have := hB2.size; simp; omega) ?_; intro v' w' hown3 hgr _)
    have hbk : ∀ j o, v.ownBlock = some j → (W2.alloc (.cells #[.int .i64 q0, .int .i64 q1] 28)).heap[j]? = some o → book o = false := by
      intro j o hv ho
      rcases (hown2.alloc (.cells #[.int .i64 q0, .int .i64 q1] 28)).2 with ⟨rfl, _⟩ | ⟨g', cap', cur, rfl, _, hg', _⟩
      · simp [Value.ownBlock] at hv
      · simp only [Value.ownBlock, Option.some.injEq] at hv
        subst hv
        rw [hg'] at ho
        cases ho
        rfl
    have hsB := hB2.size
    have hB3 : Below w.heap.size w w' := (hB2.alloc hsB (.cells #[.int .i64 q0, .int .i64 q1] 28)).grown hgr (by simp; omega) (fun q e => (hown2.lt q e).1)
    refine eq_mk ((((Keep.of_below hw12).alloc _).grown hgr hbk)) ?_
    show Exec _ _ _ _ _ _
    have hown4 : w'.ownsRow w.heap.size 28 2 v' (k + 1) (flat (listOf y (k + 1))) := by
      rw [hL, flat_app]
      exact hown3
    clear hown3 hgr hbk hown2 hB2 hw12 hw1 hw2 hown hsB hent hp hL
    refine exec_region_o fun ds => ?_
    gi_wp2
    refine eq_mk (Keep.refl _) ⟨F.l2.length - (k + 1), by omega, k + 1, v', by omega, rfl, hown4, hB3, ?_⟩
    simp [Slots, Fits]
  · have hkl : k = F.l2.length := by have := of_decide_eq_false hp; omega
    subst hkl
    refine exec_exit ?_
    show Exec _ _ _ _ _ _
    refine exec_seq (exec_region_o fun ds => ?_)
    gi_wp2
    refine eq_mk (Keep.refl _) ?_
    refine exec_ret ⟨.inr rfl, fun W' hG => ⟨v, by simp [results, Try.f70, go_sem], v, rfl, own_grow hown hG, hB.trans (hG.below (Nat.le_refl _) hB.size)⟩⟩
end Go.Proofs.Ytafmgmaelnpehaa
end
