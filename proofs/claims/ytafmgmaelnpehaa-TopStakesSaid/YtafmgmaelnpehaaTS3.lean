/- Parts of the proof: TopStakes: whether lengths are right. TopStakes: whether lengths are right, walked. Code that keeps no books of its own: a plainer triple. TopStakes: all truths, and what is kept while they are told. TopStakes: a peg is placed. TopStakes: a peg is placed at a place. TopStakes: all truths, walked. TopStakes: truths as an iterator. TopStakes: the least and the greatest number. TopStakes: a triangle; the least and the greatest number is kept. TopStakes: what is asked of a truth. TopStakes: how a truth is seen. TopStakes: all truths are asked. -/
import Derived.Test.YtafmgmaelnpehaaProg
import Derived.Test.YtafmgmaelnpehaaTS2
import Derived.Deep.Upon
import Derived.ArgAppend
import Derived.Maps.AppendAt
import Derived.WalkKit
import Derived.WalkSpells
import Derived.WalkLawsBesides
import Derived.Outline
import Derived.OwnWalkIn
import Derived.TacticsInMore
import Derived.LoopNIn
import Derived.LoopIn
import Derived.Shelf.RegionOpen
import Derived.Deep.QuietTactic
import Derived.BigQuiet
import Derived.Lib.Hide
set_option linter.unusedVariables false
set_option linter.unusedSimpArgs false
section
namespace Go.Proofs.Ytafmgmaelnpehaa.Tp
open Go.RowKit Go.TL Go.Shelf
attribute [local go_sem] Oper.semAt_some
attribute [local go_sem] run_store_func
def lenV (T : List Int) (peg : Nat) (l : P4) : Bool := decide (max l.1 l.2.1 ≠ (peg : Int)) || inB (sq2 (T.getD (l.1.toNat * 2) 0) (T.getD (l.1.toNat * 2 + 1) 0) (T.getD (l.2.1.toNat * 2) 0) (T.getD (l.2.1.toNat * 2 + 1) 0)) (sqs [l.2.2.1]) (sqs [l.2.2.2])
def fitsV (L : List P4) (T : List Int) (peg : Nat) : Bool := L.all (lenV T peg)
theorem row_one {X : World} {g : Nat} {n : Int} (h : X.heap[g]? = some (.cells #[vi n] 3 (0, 0))) : RowV X (some ⟨g, 0, none⟩) ([n].map vi) := fun i v hv => by
  refine ⟨_, rfl, ?_⟩
  rw [addr_at]
  exact cells_get (cs := [vi n]) h hv
def f5_0t : It := ⟨(Op.move (Operand.tmp 2)), some 36, 176, true, none⟩
def f5_1t : It := ⟨(Op.fieldAddr 166 (Operand.tmp 10) 0), some 37, 0, true, none⟩
def f5_2t : It := ⟨(Op.load 3 (Operand.tmp 37)), some 38, 3, true, none⟩
def f5_3t : It := ⟨(Op.nilCheck (Operand.tmp 36)), some 39, 0, true, none⟩
def f5_4t : It := ⟨(Op.fieldAddr 116 (Operand.tmp 39) 0), some 40, 0, true, none⟩
def f5_5t : It := ⟨(Op.indexAddr 114 (Operand.tmp 40) (Operand.tmp 38)), some 41, 0, true, none⟩
def f5_6t : It := ⟨(Op.load 113 (Operand.tmp 41)), some 42, 113, true, none⟩
def f5_7t : It := ⟨(Op.move (Operand.tmp 2)), some 43, 176, true, none⟩
def f5_8t : It := ⟨(Op.fieldAddr 166 (Operand.tmp 10) 1), some 44, 0, true, none⟩
def f5_9t : It := ⟨(Op.load 3 (Operand.tmp 44)), some 45, 3, true, none⟩
def f5_10t : It := ⟨(Op.nilCheck (Operand.tmp 43)), some 46, 0, true, none⟩
def f5_11t : It := ⟨(Op.fieldAddr 116 (Operand.tmp 46) 0), some 47, 0, true, none⟩
def f5_12t : It := ⟨(Op.indexAddr 114 (Operand.tmp 47) (Operand.tmp 45)), some 48, 0, true, none⟩
def f5_13t : It := ⟨(Op.load 113 (Operand.tmp 48)), some 49, 113, true, none⟩
def f5_15t : It := ⟨(Op.fieldAddr 166 (Operand.tmp 10) 2), some 51, 0, true, none⟩
def f5_16t : It := ⟨(Op.fieldAddr 28 (Operand.tmp 51) 0), some 52, 0, true, none⟩
def f5_17t : It := ⟨(Op.load 3 (Operand.tmp 52)), some 53, 3, true, none⟩
def f5_20t : It := ⟨(Op.fieldAddr 166 (Operand.tmp 10) 2), some 56, 0, true, none⟩
def f5_21t : It := ⟨(Op.fieldAddr 28 (Operand.tmp 56) 1), some 57, 0, true, none⟩
def f5_22t : It := ⟨(Op.load 3 (Operand.tmp 57)), some 58, 3, true, none⟩
def f5_14 : It := ⟨(Op.call { callee := (Callee.value (Operand.func 116)), args := #[(Operand.tmp 42), (Operand.tmp 49)], argTypes := #[113, 113] }), some 50, 3, false, none⟩
def f5_18 : It := ⟨(Op.buildSlice 33 1 #[(0, (Operand.tmp 53))]), some 54, 33, false, none⟩
def f5_19 : It := ⟨(Op.call { callee := (Callee.value (Operand.func 117)), args := #[(Operand.tmp 54)], argTypes := #[33] }), some 55, 3, false, none⟩
def f5_23 : It := ⟨(Op.buildSlice 33 1 #[(0, (Operand.tmp 58))]), some 59, 33, false, none⟩
def f5_24 : It := ⟨(Op.call { callee := (Callee.value (Operand.func 117)), args := #[(Operand.tmp 59)], argTypes := #[33] }), some 60, 3, false, none⟩
def f5_25 : It := ⟨(Op.call { callee := (Callee.value (Operand.func 100)), args := #[(Operand.tmp 50), (Operand.tmp 55), (Operand.tmp 60)], argTypes := #[3, 3, 3] }), some 61, 4, false, none⟩
def f5_26 : It := ⟨(Op.unOp UnOp.not 4 (Operand.tmp 61)), some 62, 4, false, none⟩
set_option maxRecDepth 100000 in
set_option maxHeartbeats 4000000 in
theorem fits_r5 {w W : World} {a : Pg} {pb tb z N peg k f s : Nat} {ax ay bx by_ lo hi : Int} {q : Bool} (hf : f < 4) (hs : s < 4) (hxy : (0 ≤ ax ∧ ax ≤ 100) ∧ (0 ≤ ay ∧ ay ≤ 100) ∧ (0 ≤ bx ∧ bx ≤ 100) ∧ 0 ≤ by_ ∧ by_ ≤ 100) (hlo : 0 ≤ lo ∧ lo ≤ 100) (hhi : 0 ≤ hi ∧ hi ≤ 100) (hqv : inB (sq2 ax ay bx by_) (sqs [lo]) (sqs [hi]) = q) (hck : ∀ Y, Below w.heap.size w Y → Y.cell? ⟨tb, f * 2, none⟩ = some (vi ax) ∧ Y.cell? ⟨tb, f * 2 + 1, none⟩ = some (vi ay) ∧ Y.cell? ⟨tb, s * 2, none⟩ = some (vi bx) ∧ Y.cell? ⟨tb, s * 2 + 1, none⟩ = some (vi by_)) (hT : Tr w W W [(z, .cells #[iv f, iv s, vi lo, vi hi] 166 (0, 0))]) {t : Array Value} (hSl : Slots [some (.pointer (some ⟨pb, 0, none⟩)), some (.int .u64 ((N : Nat) : Int)), some (.pointer (some ⟨tb, 0, none⟩)), some (iv peg), none, none, none, none, none, some (iv k), some (.pointer (some ⟨z, 0, none⟩)), none, none, none, none, some (.slice a.AL a.L.length a.cL), some (iv a.L.length), some (iv k), none, none, none, none, none, none, none, none, none, none, none, none, none, none, none, none, none, none, none, none, none, none, none, none, none, none, none, none, none, none, none, none, none, none, none, none, none, none, none, none, none, none, none, none, none, none] t) :
    Exec Try.prog none (sub (Try.f113.body.getD .skip) [1, 0, 1, 0, 0, 1, 1, 0, 0, 1, 1, 0]) t W (andThen (fun t' W' => Below W.heap.size W W' ∧ Slots [some (.pointer (some ⟨pb, 0, none⟩)), some (.int .u64 ((N : Nat) : Int)), some (.pointer (some ⟨tb, 0, none⟩)), some (iv peg), none, none, none, none, none, some (iv k), some (.pointer (some ⟨z, 0, none⟩)), none, none, none, none, some (.slice a.AL a.L.length a.cL), some (iv a.L.length), some (iv k), none, none, none, none, none, none, none, none, none, none, none, none, none, none, none, none, none, none, none, none, none, none, none, none, none, none, none, none, none, none, none, none, none, none, none, none, none, none, none, none, none, none, none, none, some (.bool (!q)), none] t') fun _ _ _ => False) := by
  have hu166 := Try.underlying166
  have hu116 := Try.underlying116
  have hu114 := Try.underlying114
  have hu113 := Try.underlying113
  have hu28 := Try.underlying28
  have hu33 := Try.underlying33
  have hfI : (f : Int) < 4 := by omega
  have hsI : (s : Int) < 4 := by omega
  have hwi := fun X => within100 (sq2 ax ay bx by_) (sqs [lo]) (sqs [hi]) X
  rw [hqv] at hwi
  have hi0 : True := trivial
  have hs0 : True := trivial
  have hbw : Below W.heap.size W W.drew := (Below.refl _ W).drew
  have hT0 := hT.again.drew
  refine region_tree (c := (sub (Try.f113.body.getD .skip) [1, 0, 1, 0, 0, 1, 1, 0, 0, 1, 1, 0])) (id := 5) (.one 0 true (.one 1 true (.one 2 true (.one 3 true (.one 4 true (.one 5 true (.one 6 true (.one 7 true (.one 8 true (.one 9 true (.one 10 true (.one 11 true (.one 12 true (.one 13 true (.one 15 true (.one 16 true (.one 17 true (.one 20 true (.one 21 true (.one 22 true (.three 14 18 23 (.two 18 23 (.two 19 23 (.one 23 false (.one 24 false (.one 25 false (.one 26 false (.nil))))) (.one 19 false (.one 24 false (.one 25 false (.one 26 false (.nil)))))) (.one 18 false (.one 19 false (.one 24 false (.one 25 false (.one 26 false (.nil))))))) (.two 14 23 (.two 19 23 (.one 23 false (.one 24 false (.one 25 false (.one 26 false (.nil))))) (.one 19 false (.one 24 false (.one 25 false (.one 26 false (.nil)))))) (.one 14 false (.one 19 false (.one 24 false (.one 25 false (.one 26 false (.nil))))))) (.two 14 18 (.one 18 false (.one 19 false (.one 24 false (.one 25 false (.one 26 false (.nil)))))) (.one 14 false (.one 19 false (.one 24 false (.one 25 false (.one 26 false (.nil)))))))))))))))))))))))))))) (Opq (regOps (sub (Try.f113.body.getD .skip) [1, 0, 1, 0, 0, 1, 1, 0, 0, 1, 1, 0]))) rfl (by kernel_rfl) (by kernel_rfl) (by kernel_rfl) (by kernel_rfl) (by kernel_rfl) (by kernel_rfl) [0, 0, 2, 1, 8, 20, 32, 0, 0, 256, 128, 1024, 2560, 4096, 8256, 0, 32768, 65536, 131072, 278528, 0, 1048576, 2097152, 4194304, 8912896, 17317888, 33554432] (by kernel_rfl) (by kernel_rfl) (fun W' => W'.cell? ⟨z, 0, none⟩ = some (iv f) ∧ W'.cell? ⟨z, 1, none⟩ = some (iv s) ∧ W'.cell? ⟨z, 2, none⟩ = some (vi lo) ∧ W'.cell? ⟨z, 3, none⟩ = some (vi hi) ∧ W'.cell? ⟨tb, f * 2, none⟩ = some (vi ax) ∧ W'.cell? ⟨tb, f * 2 + 1, none⟩ = some (vi ay) ∧ W'.cell? ⟨tb, s * 2, none⟩ = some (vi bx) ∧ W'.cell? ⟨tb, s * 2 + 1, none⟩ = some (vi by_)) (fun _ _ _ => False) (fun _ _ _ h => h.elim) (fun _ _ _ _ _ _ _ _ h => h.elim) fun ds Q' hQn hQp => ?_
  have F0 : Fr [some (.pointer (some ⟨pb, 0, none⟩)), some (.int .u64 ((N : Nat) : Int)), some (.pointer (some ⟨tb, 0, none⟩)), some (iv peg), none, none, none, none, none, some (iv k), some (.pointer (some ⟨z, 0, none⟩)), none, none, none, none, some (.slice a.AL a.L.length a.cL), some (iv a.L.length), some (iv k), none, none, none, none, none, none, none, none, none, none, none, none, none, none, none, none, none, none, none, none, none, none, none, none, none, none, none, none, none, none, none, none, none, none, none, none, none, none, none, none, none, none, none, none, none, none] ds { tmps := t, defers := ds } := Fr.start hSl
  clear hSl
  generalize ({ tmps := t, defers := ds } : Act) = a0 at *
  generalize W.drew = X0 at *
  refine tr_take f5_0t (.pointer (some ⟨tb, 0, none⟩)) (by kernel_rfl) rfl rfl (fun wq hq => ?_) ⟨hT0.cell 0 rfl rfl, hT0.cell 0 rfl rfl, hT0.cell 0 rfl rfl, hT0.cell 0 rfl rfl, (hck _ hT0.below).1, (hck _ hT0.below).2.1, (hck _ hT0.below).2.2.1, (hck _ hT0.below).2.2.2⟩ ?_; (focus (have e2 : a0.eval (.tmp 2) = (.pointer (some ⟨tb, 0, none⟩)) := F0.ev 2 (by kernel_rfl); generalize a0.eval = ev at e2 ⊢; simp [go_sem, mkO, f5_0t, e2]; done))
  refine F0.next 36 (.pointer (some ⟨tb, 0, none⟩)) fun a1 F1 => ?_
  clear F0
  refine tr_take f5_1t (.pointer (some ⟨z, 0, none⟩)) (by kernel_rfl) rfl rfl (fun wq hq => ?_) ⟨hT0.cell 0 rfl rfl, hT0.cell 0 rfl rfl, hT0.cell 0 rfl rfl, hT0.cell 0 rfl rfl, (hck _ hT0.below).1, (hck _ hT0.below).2.1, (hck _ hT0.below).2.2.1, (hck _ hT0.below).2.2.2⟩ ?_; (focus (have e10 : a1.eval (.tmp 10) = (.pointer (some ⟨z, 0, none⟩)) := F1.ev 10 (by kernel_rfl); generalize a1.eval = ev at e10 ⊢; simp [go_sem, mkO, f5_1t, e10, hu166]; done))
  refine F1.next 37 (.pointer (some ⟨z, 0, none⟩)) fun a2 F2 => ?_
  clear F1 a1
  refine tr_take f5_2t (iv f) (by kernel_rfl) rfl rfl (fun wq hq => ?_) ⟨hT0.cell 0 rfl rfl, hT0.cell 0 rfl rfl, hT0.cell 0 rfl rfl, hT0.cell 0 rfl rfl, (hck _ hT0.below).1, (hck _ hT0.below).2.1, (hck _ hT0.below).2.2.1, (hck _ hT0.below).2.2.2⟩ ?_; (focus (have e37 : a2.eval (.tmp 37) = (.pointer (some ⟨z, 0, none⟩)) := F2.ev 37 (by kernel_rfl); generalize a2.eval = ev at e37 ⊢; simp [go_sem, mkO, f5_2t, e37, hq.1]; done))
  refine F2.next 38 (iv f) fun a3 F3 => ?_
  clear F2 a2
  refine tr_take f5_3t (.pointer (some ⟨tb, 0, none⟩)) (by kernel_rfl) rfl rfl (fun wq hq => ?_) ⟨hT0.cell 0 rfl rfl, hT0.cell 0 rfl rfl, hT0.cell 0 rfl rfl, hT0.cell 0 rfl rfl, (hck _ hT0.below).1, (hck _ hT0.below).2.1, (hck _ hT0.below).2.2.1, (hck _ hT0.below).2.2.2⟩ ?_; (focus (have e36 : a3.eval (.tmp 36) = (.pointer (some ⟨tb, 0, none⟩)) := F3.ev 36 (by kernel_rfl); generalize a3.eval = ev at e36 ⊢; simp [go_sem, mkO, f5_3t, e36]; done))
  refine F3.next 39 (.pointer (some ⟨tb, 0, none⟩)) fun a4 F4 => ?_
  clear F3 a3
  refine tr_take f5_4t (.pointer (some ⟨tb, 0, none⟩)) (by kernel_rfl) rfl rfl (fun wq hq => ?_) ⟨hT0.cell 0 rfl rfl, hT0.cell 0 rfl rfl, hT0.cell 0 rfl rfl, hT0.cell 0 rfl rfl, (hck _ hT0.below).1, (hck _ hT0.below).2.1, (hck _ hT0.below).2.2.1, (hck _ hT0.below).2.2.2⟩ ?_; (focus (have e39 : a4.eval (.tmp 39) = (.pointer (some ⟨tb, 0, none⟩)) := F4.ev 39 (by kernel_rfl); generalize a4.eval = ev at e39 ⊢; simp [go_sem, mkO, f5_4t, e39, hu116]; done))
  refine F4.next 40 (.pointer (some ⟨tb, 0, none⟩)) fun a5 F5 => ?_
  clear F4 a4
  refine tr_take f5_5t (.pointer (some ⟨tb, f * 2, none⟩)) (by kernel_rfl) rfl rfl (fun wq hq => ?_) ⟨hT0.cell 0 rfl rfl, hT0.cell 0 rfl rfl, hT0.cell 0 rfl rfl, hT0.cell 0 rfl rfl, (hck _ hT0.below).1, (hck _ hT0.below).2.1, (hck _ hT0.below).2.2.1, (hck _ hT0.below).2.2.2⟩ ?_; (focus (have e38 : a5.eval (.tmp 38) = (iv f) := F5.ev 38 (by kernel_rfl); have e40 : a5.eval (.tmp 40) = (.pointer (some ⟨tb, 0, none⟩)) := F5.ev 40 (by kernel_rfl); generalize a5.eval = ev at e38 e40 ⊢; simp [go_sem, mkO, f5_5t, e38, e40, hu114, hu113, hi0, hs0, hfI]; done))
  refine F5.next 41 (.pointer (some ⟨tb, f * 2, none⟩)) fun a6 F6 => ?_
  clear F5 a5
  refine tr_take f5_6t (.agg #[vi ax, vi ay]) (by kernel_rfl) rfl rfl (fun wq hq => ?_) ⟨hT0.cell 0 rfl rfl, hT0.cell 0 rfl rfl, hT0.cell 0 rfl rfl, hT0.cell 0 rfl rfl, (hck _ hT0.below).1, (hck _ hT0.below).2.1, (hck _ hT0.below).2.2.1, (hck _ hT0.below).2.2.2⟩ ?_; (focus (have e41 : a6.eval (.tmp 41) = (.pointer (some ⟨tb, f * 2, none⟩)) := F6.ev 41 (by kernel_rfl); generalize a6.eval = ev at e41 ⊢; simp [go_sem, mkO, f5_6t, e41, hu113, hq.2.2.2.2.1, hq.2.2.2.2.2.1]; done))
  refine F6.next 42 (.agg #[vi ax, vi ay]) fun a7 F7 => ?_
  clear F6 a6
  refine tr_take f5_7t (.pointer (some ⟨tb, 0, none⟩)) (by kernel_rfl) rfl rfl (fun wq hq => ?_) ⟨hT0.cell 0 rfl rfl, hT0.cell 0 rfl rfl, hT0.cell 0 rfl rfl, hT0.cell 0 rfl rfl, (hck _ hT0.below).1, (hck _ hT0.below).2.1, (hck _ hT0.below).2.2.1, (hck _ hT0.below).2.2.2⟩ ?_; (focus (have e2 : a7.eval (.tmp 2) = (.pointer (some ⟨tb, 0, none⟩)) := F7.ev 2 (by kernel_rfl); generalize a7.eval = ev at e2 ⊢; simp [go_sem, mkO, f5_7t, e2]; done))
  refine F7.next 43 (.pointer (some ⟨tb, 0, none⟩)) fun a8 F8 => ?_
  clear F7 a7
  refine tr_take f5_8t (.pointer (some ⟨z, 1, none⟩)) (by kernel_rfl) rfl rfl (fun wq hq => ?_) ⟨hT0.cell 0 rfl rfl, hT0.cell 0 rfl rfl, hT0.cell 0 rfl rfl, hT0.cell 0 rfl rfl, (hck _ hT0.below).1, (hck _ hT0.below).2.1, (hck _ hT0.below).2.2.1, (hck _ hT0.below).2.2.2⟩ ?_; (focus (have e10 : a8.eval (.tmp 10) = (.pointer (some ⟨z, 0, none⟩)) := F8.ev 10 (by kernel_rfl); generalize a8.eval = ev at e10 ⊢; simp [go_sem, mkO, f5_8t, e10, hu166]; done))
  refine F8.next 44 (.pointer (some ⟨z, 1, none⟩)) fun a9 F9 => ?_
  clear F8 a8
  refine tr_take f5_9t (iv s) (by kernel_rfl) rfl rfl (fun wq hq => ?_) ⟨hT0.cell 0 rfl rfl, hT0.cell 0 rfl rfl, hT0.cell 0 rfl rfl, hT0.cell 0 rfl rfl, (hck _ hT0.below).1, (hck _ hT0.below).2.1, (hck _ hT0.below).2.2.1, (hck _ hT0.below).2.2.2⟩ ?_; (focus (have e44 : a9.eval (.tmp 44) = (.pointer (some ⟨z, 1, none⟩)) := F9.ev 44 (by kernel_rfl); generalize a9.eval = ev at e44 ⊢; simp [go_sem, mkO, f5_9t, e44, hq.2.1]; done))
  refine F9.next 45 (iv s) fun a10 F10 => ?_
  clear F9 a9
  refine tr_take f5_10t (.pointer (some ⟨tb, 0, none⟩)) (by kernel_rfl) rfl rfl (fun wq hq => ?_) ⟨hT0.cell 0 rfl rfl, hT0.cell 0 rfl rfl, hT0.cell 0 rfl rfl, hT0.cell 0 rfl rfl, (hck _ hT0.below).1, (hck _ hT0.below).2.1, (hck _ hT0.below).2.2.1, (hck _ hT0.below).2.2.2⟩ ?_; (focus (have e43 : a10.eval (.tmp 43) = (.pointer (some ⟨tb, 0, none⟩)) := F10.ev 43 (by kernel_rfl); generalize a10.eval = ev at e43 ⊢; simp [go_sem, mkO, f5_10t, e43]; done))
  refine F10.next 46 (.pointer (some ⟨tb, 0, none⟩)) fun a11 F11 => ?_
  clear F10 a10
  refine tr_take f5_11t (.pointer (some ⟨tb, 0, none⟩)) (by kernel_rfl) rfl rfl (fun wq hq => ?_) ⟨hT0.cell 0 rfl rfl, hT0.cell 0 rfl rfl, hT0.cell 0 rfl rfl, hT0.cell 0 rfl rfl, (hck _ hT0.below).1, (hck _ hT0.below).2.1, (hck _ hT0.below).2.2.1, (hck _ hT0.below).2.2.2⟩ ?_; (focus (have e46 : a11.eval (.tmp 46) = (.pointer (some ⟨tb, 0, none⟩)) := F11.ev 46 (by kernel_rfl); generalize a11.eval = ev at e46 ⊢; simp [go_sem, mkO, f5_11t, e46, hu116]; done))
  refine F11.next 47 (.pointer (some ⟨tb, 0, none⟩)) fun a12 F12 => ?_
  clear F11 a11
  refine tr_take f5_12t (.pointer (some ⟨tb, s * 2, none⟩)) (by kernel_rfl) rfl rfl (fun wq hq => ?_) ⟨hT0.cell 0 rfl rfl, hT0.cell 0 rfl rfl, hT0.cell 0 rfl rfl, hT0.cell 0 rfl rfl, (hck _ hT0.below).1, (hck _ hT0.below).2.1, (hck _ hT0.below).2.2.1, (hck _ hT0.below).2.2.2⟩ ?_; (focus (have e45 : a12.eval (.tmp 45) = (iv s) := F12.ev 45 (by kernel_rfl); have e47 : a12.eval (.tmp 47) = (.pointer (some ⟨tb, 0, none⟩)) := F12.ev 47 (by kernel_rfl); generalize a12.eval = ev at e45 e47 ⊢; simp [go_sem, mkO, f5_12t, e45, e47, hu114, hu113, hi0, hs0, hsI]; done))
  refine F12.next 48 (.pointer (some ⟨tb, s * 2, none⟩)) fun a13 F13 => ?_
  clear F12 a12
  refine tr_take f5_13t (.agg #[vi bx, vi by_]) (by kernel_rfl) rfl rfl (fun wq hq => ?_) ⟨hT0.cell 0 rfl rfl, hT0.cell 0 rfl rfl, hT0.cell 0 rfl rfl, hT0.cell 0 rfl rfl, (hck _ hT0.below).1, (hck _ hT0.below).2.1, (hck _ hT0.below).2.2.1, (hck _ hT0.below).2.2.2⟩ ?_; (focus (have e48 : a13.eval (.tmp 48) = (.pointer (some ⟨tb, s * 2, none⟩)) := F13.ev 48 (by kernel_rfl); generalize a13.eval = ev at e48 ⊢; simp [go_sem, mkO, f5_13t, e48, hu113, hq.2.2.2.2.2.2.1, hq.2.2.2.2.2.2.2]; done))
  refine F13.next 49 (.agg #[vi bx, vi by_]) fun a14 F14 => ?_
  clear F13 a13
  refine tr_take f5_15t (.pointer (some ⟨z, 2, none⟩)) (by kernel_rfl) rfl rfl (fun wq hq => ?_) ⟨hT0.cell 0 rfl rfl, hT0.cell 0 rfl rfl, hT0.cell 0 rfl rfl, hT0.cell 0 rfl rfl, (hck _ hT0.below).1, (hck _ hT0.below).2.1, (hck _ hT0.below).2.2.1, (hck _ hT0.below).2.2.2⟩ ?_; (focus (have e10 : a14.eval (.tmp 10) = (.pointer (some ⟨z, 0, none⟩)) := F14.ev 10 (by kernel_rfl); generalize a14.eval = ev at e10 ⊢; simp [go_sem, mkO, f5_15t, e10, hu166]; done))
  refine F14.next 51 (.pointer (some ⟨z, 2, none⟩)) fun a15 F15 => ?_
  clear F14 a14
  refine tr_take f5_16t (.pointer (some ⟨z, 2, none⟩)) (by kernel_rfl) rfl rfl (fun wq hq => ?_) ⟨hT0.cell 0 rfl rfl, hT0.cell 0 rfl rfl, hT0.cell 0 rfl rfl, hT0.cell 0 rfl rfl, (hck _ hT0.below).1, (hck _ hT0.below).2.1, (hck _ hT0.below).2.2.1, (hck _ hT0.below).2.2.2⟩ ?_; (focus (have e51 : a15.eval (.tmp 51) = (.pointer (some ⟨z, 2, none⟩)) := F15.ev 51 (by kernel_rfl); generalize a15.eval = ev at e51 ⊢; simp [go_sem, mkO, f5_16t, e51, hu28]; done))
  refine F15.next 52 (.pointer (some ⟨z, 2, none⟩)) fun a16 F16 => ?_
  clear F15 a15
  refine tr_take f5_17t (vi lo) (by kernel_rfl) rfl rfl (fun wq hq => ?_) ⟨hT0.cell 0 rfl rfl, hT0.cell 0 rfl rfl, hT0.cell 0 rfl rfl, hT0.cell 0 rfl rfl, (hck _ hT0.below).1, (hck _ hT0.below).2.1, (hck _ hT0.below).2.2.1, (hck _ hT0.below).2.2.2⟩ ?_; (focus (have e52 : a16.eval (.tmp 52) = (.pointer (some ⟨z, 2, none⟩)) := F16.ev 52 (by kernel_rfl); generalize a16.eval = ev at e52 ⊢; simp [go_sem, mkO, f5_17t, e52, hq.2.2.1]; done))
  refine F16.next 53 (vi lo) fun a17 F17 => ?_
  clear F16 a16
  refine tr_take f5_20t (.pointer (some ⟨z, 2, none⟩)) (by kernel_rfl) rfl rfl (fun wq hq => ?_) ⟨hT0.cell 0 rfl rfl, hT0.cell 0 rfl rfl, hT0.cell 0 rfl rfl, hT0.cell 0 rfl rfl, (hck _ hT0.below).1, (hck _ hT0.below).2.1, (hck _ hT0.below).2.2.1, (hck _ hT0.below).2.2.2⟩ ?_; (focus (have e10 : a17.eval (.tmp 10) = (.pointer (some ⟨z, 0, none⟩)) := F17.ev 10 (by kernel_rfl); generalize a17.eval = ev at e10 ⊢; simp [go_sem, mkO, f5_20t, e10, hu166]; done))
  refine F17.next 56 (.pointer (some ⟨z, 2, none⟩)) fun a18 F18 => ?_
  clear F17 a17
  refine tr_take f5_21t (.pointer (some ⟨z, 3, none⟩)) (by kernel_rfl) rfl rfl (fun wq hq => ?_) ⟨hT0.cell 0 rfl rfl, hT0.cell 0 rfl rfl, hT0.cell 0 rfl rfl, hT0.cell 0 rfl rfl, (hck _ hT0.below).1, (hck _ hT0.below).2.1, (hck _ hT0.below).2.2.1, (hck _ hT0.below).2.2.2⟩ ?_; (focus (have e56 : a18.eval (.tmp 56) = (.pointer (some ⟨z, 2, none⟩)) := F18.ev 56 (by kernel_rfl); generalize a18.eval = ev at e56 ⊢; simp [go_sem, mkO, f5_21t, e56, hu28]; done))
  refine F18.next 57 (.pointer (some ⟨z, 3, none⟩)) fun a19 F19 => ?_
  clear F18 a18
  refine tr_take f5_22t (vi hi) (by kernel_rfl) rfl rfl (fun wq hq => ?_) ⟨hT0.cell 0 rfl rfl, hT0.cell 0 rfl rfl, hT0.cell 0 rfl rfl, hT0.cell 0 rfl rfl, (hck _ hT0.below).1, (hck _ hT0.below).2.1, (hck _ hT0.below).2.2.1, (hck _ hT0.below).2.2.2⟩ ?_; (focus (have e57 : a19.eval (.tmp 57) = (.pointer (some ⟨z, 3, none⟩)) := F19.ev 57 (by kernel_rfl); generalize a19.eval = ev at e57 ⊢; simp [go_sem, mkO, f5_22t, e57, hq.2.2.2.1]; done))
  refine F19.next 58 (vi hi) fun a20 F20 => ?_
  clear F19 a19
  refine ⟨?_, ?_, ?_⟩
  · refine tr_call f5_14 (f := 116) (args := #[.agg #[vi ax, vi ay], .agg #[vi bx, vi by_]]) (by kernel_rfl) rfl rfl ?_ ?_
    · (have e42 : a20.eval (.tmp 42) = (.agg #[vi ax, vi ay]) := F20.ev 42 (by kernel_rfl); have e49 : a20.eval (.tmp 49) = (.agg #[vi bx, vi by_]) := F20.ev 49 (by kernel_rfl); have ef : ∀ f, a20.eval (.func f) = .func (.func f) #[] #[] := fun _ => rfl; generalize a20.eval = ev at e42 e49 ef ⊢; simp [go_sem, mkO, f5_14, ef, e42, e49]; done)
    refine (square116 ax ay bx by_ hxy X0).mono ?_
    rintro e X1 ⟨rfl, hy⟩
    have hT1 := hT0.step hy
    replace hbw := hbw.trans (hy.mono hbw.size)
    refine .inl ⟨_, rfl, ⟨hT1.cell 0 rfl rfl, hT1.cell 0 rfl rfl, hT1.cell 0 rfl rfl, hT1.cell 0 rfl rfl, (hck _ hT1.below).1, (hck _ hT1.below).2.1, (hck _ hT1.below).2.2.1, (hck _ hT1.below).2.2.2⟩, ?_⟩
    clear hy hT0
    clear X0
    refine F20.next 50 (vi (sq2 ax ay bx by_)) fun a21 F21 => ?_
    clear F20 a20
    refine ⟨?_, ?_⟩
    · have hT2 : Tr w W (X1.alloc (.cells #[vi lo] 3)) [(X1.heap.size, .cells #[vi lo] 3 (0, 0)), (z, .cells #[iv f, iv s, vi lo, vi hi] 166 (0, 0))] := hT1.alloc (.cells #[vi lo] 3)
      refine tr_make f5_18 (.slice (some ⟨X1.heap.size, 0, none⟩) 1 1) (X1.alloc (.cells #[vi lo] 3)) (by kernel_rfl) rfl rfl ?_ ⟨hT2.cell 1 rfl rfl, hT2.cell 1 rfl rfl, hT2.cell 1 rfl rfl, hT2.cell 1 rfl rfl, (hck _ hT2.below).1, (hck _ hT2.below).2.1, (hck _ hT2.below).2.2.1, (hck _ hT2.below).2.2.2⟩ ?_; (focus (have e53 : a21.eval (.tmp 53) = (vi lo) := F21.ev 53 (by kernel_rfl); generalize a21.eval = ev at e53 ⊢; simp [go_sem, mkO, f5_18, e53, hu33]; done))
      replace hbw := hbw.alloc hbw.size (.cells #[vi lo] 3)
      obtain ⟨gl, hggl⟩ : ∃ b, X1.heap.size = b := ⟨_, rfl⟩
      simp only [hggl] at hT2 ⊢
      generalize X1.alloc (.cells #[vi lo] 3) = X2 at *
      clear hggl hT1
      clear X1
      refine F21.next 54 (.slice (some ⟨gl, 0, none⟩) 1 1) fun a22 F22 => ?_
      clear F21 a21
      refine ⟨?_, ?_⟩
      · refine tr_call f5_19 (f := 117) (args := #[.slice (some ⟨gl, 0, none⟩) 1 1]) (by kernel_rfl) rfl rfl ?_ ?_
        · (have e54 : a22.eval (.tmp 54) = (.slice (some ⟨gl, 0, none⟩) 1 1) := F22.ev 54 (by kernel_rfl); have ef : ∀ f, a22.eval (.func f) = .func (.func f) #[] #[] := fun _ => rfl; generalize a22.eval = ev at e54 ef ⊢; simp [go_sem, mkO, f5_19, ef, e54]; done)
        refine (squares117 (some ⟨gl, 0, none⟩) 1 [lo] (by simp) (fun m hm => by simp only [List.mem_singleton] at hm; omega) X2 (row_one (hT2.get 0 rfl))).mono ?_
        rintro e X3 ⟨rfl, hy⟩
        have hT3 := hT2.step hy
        replace hbw := hbw.trans (hy.mono hbw.size)
        refine .inl ⟨_, rfl, ⟨hT3.cell 1 rfl rfl, hT3.cell 1 rfl rfl, hT3.cell 1 rfl rfl, hT3.cell 1 rfl rfl, (hck _ hT3.below).1, (hck _ hT3.below).2.1, (hck _ hT3.below).2.2.1, (hck _ hT3.below).2.2.2⟩, ?_⟩
        clear hy hT2
        clear X2
        refine F22.next 55 (vi (sqs [lo])) fun a23 F23 => ?_
        clear F22 a22
        have hT4 : Tr w W (X3.alloc (.cells #[vi hi] 3)) [(X3.heap.size, .cells #[vi hi] 3 (0, 0)), (gl, .cells #[vi lo] 3 (0, 0)), (z, .cells #[iv f, iv s, vi lo, vi hi] 166 (0, 0))] := hT3.alloc (.cells #[vi hi] 3)
        refine tr_make f5_23 (.slice (some ⟨X3.heap.size, 0, none⟩) 1 1) (X3.alloc (.cells #[vi hi] 3)) (by kernel_rfl) rfl rfl ?_ ⟨hT4.cell 2 rfl rfl, hT4.cell 2 rfl rfl, hT4.cell 2 rfl rfl, hT4.cell 2 rfl rfl, (hck _ hT4.below).1, (hck _ hT4.below).2.1, (hck _ hT4.below).2.2.1, (hck _ hT4.below).2.2.2⟩ ?_; (focus (have e58 : a23.eval (.tmp 58) = (vi hi) := F23.ev 58 (by kernel_rfl); generalize a23.eval = ev at e58 ⊢; simp [go_sem, mkO, f5_23, e58, hu33]; done))
        replace hbw := hbw.alloc hbw.size (.cells #[vi hi] 3)
        obtain ⟨gh, hggh⟩ : ∃ b, X3.heap.size = b := ⟨_, rfl⟩
        simp only [hggh] at hT4 ⊢
        generalize X3.alloc (.cells #[vi hi] 3) = X4 at *
        clear hggh hT3
        clear X3
        refine F23.next 59 (.slice (some ⟨gh, 0, none⟩) 1 1) fun a24 F24 => ?_
        clear F23 a23
        refine tr_call f5_24 (f := 117) (args := #[.slice (some ⟨gh, 0, none⟩) 1 1]) (by kernel_rfl) rfl rfl ?_ ?_
        · (have e59 : a24.eval (.tmp 59) = (.slice (some ⟨gh, 0, none⟩) 1 1) := F24.ev 59 (by kernel_rfl); have ef : ∀ f, a24.eval (.func f) = .func (.func f) #[] #[] := fun _ => rfl; generalize a24.eval = ev at e59 ef ⊢; simp [go_sem, mkO, f5_24, ef, e59]; done)
        refine (squares117 (some ⟨gh, 0, none⟩) 1 [hi] (by simp) (fun m hm => by simp only [List.mem_singleton] at hm; omega) X4 (row_one (hT4.get 0 rfl))).mono ?_
        rintro e X5 ⟨rfl, hy⟩
        have hT5 := hT4.step hy
        replace hbw := hbw.trans (hy.mono hbw.size)
        refine .inl ⟨_, rfl, ⟨hT5.cell 2 rfl rfl, hT5.cell 2 rfl rfl, hT5.cell 2 rfl rfl, hT5.cell 2 rfl rfl, (hck _ hT5.below).1, (hck _ hT5.below).2.1, (hck _ hT5.below).2.2.1, (hck _ hT5.below).2.2.2⟩, ?_⟩
        clear hy hT4
        clear X4
        refine F24.next 60 (vi (sqs [hi])) fun a25 F25 => ?_
        clear F24 a24
        refine tr_call f5_25 (f := 100) (args := #[vi (sq2 ax ay bx by_), vi (sqs [lo]), vi (sqs [hi])]) (by kernel_rfl) rfl rfl ?_ ?_
        · (have e50 : a25.eval (.tmp 50) = (vi (sq2 ax ay bx by_)) := F25.ev 50 (by kernel_rfl); have e55 : a25.eval (.tmp 55) = (vi (sqs [lo])) := F25.ev 55 (by kernel_rfl); have e60 : a25.eval (.tmp 60) = (vi (sqs [hi])) := F25.ev 60 (by kernel_rfl); have ef : ∀ f, a25.eval (.func f) = .func (.func f) #[] #[] := fun _ => rfl; generalize a25.eval = ev at e50 e55 e60 ef ⊢; simp [go_sem, mkO, f5_25, ef, e50, e55, e60]; done)
        refine (hwi X5).mono ?_
        rintro e X6 ⟨rfl, hy⟩
        have hT6 := hT5.step hy
        replace hbw := hbw.trans (hy.mono hbw.size)
        refine .inl ⟨_, rfl, ⟨hT6.cell 2 rfl rfl, hT6.cell 2 rfl rfl, hT6.cell 2 rfl rfl, hT6.cell 2 rfl rfl, (hck _ hT6.below).1, (hck _ hT6.below).2.1, (hck _ hT6.below).2.2.1, (hck _ hT6.below).2.2.2⟩, ?_⟩
        clear hy hT5
        clear X5
        refine F25.next 61 (.bool q) fun a26 F26 => ?_
        clear F25 a25
        refine tr_make f5_26 (.bool (!q)) _ (by kernel_rfl) rfl rfl ?_ ⟨hT6.cell 2 rfl rfl, hT6.cell 2 rfl rfl, hT6.cell 2 rfl rfl, hT6.cell 2 rfl rfl, (hck _ hT6.below).1, (hck _ hT6.below).2.1, (hck _ hT6.below).2.2.1, (hck _ hT6.below).2.2.2⟩ ?_; (focus (have hq := (show (fun W' : World => W'.cell? ⟨z, 0, none⟩ = some (iv f) ∧ W'.cell? ⟨z, 1, none⟩ = some (iv s) ∧ W'.cell? ⟨z, 2, none⟩ = some (vi lo) ∧ W'.cell? ⟨z, 3, none⟩ = some (vi hi) ∧ W'.cell? ⟨tb, f * 2, none⟩ = some (vi ax) ∧ W'.cell? ⟨tb, f * 2 + 1, none⟩ = some (vi ay) ∧ W'.cell? ⟨tb, s * 2, none⟩ = some (vi bx) ∧ W'.cell? ⟨tb, s * 2 + 1, none⟩ = some (vi by_)) X6 from ⟨hT6.cell 2 rfl rfl, hT6.cell 2 rfl rfl, hT6.cell 2 rfl rfl, hT6.cell 2 rfl rfl, (hck _ hT6.below).1, (hck _ hT6.below).2.1, (hck _ hT6.below).2.2.1, (hck _ hT6.below).2.2.2⟩); have e61 : a26.eval (.tmp 61) = (.bool q) := F26.ev 61 (by kernel_rfl); generalize a26.eval = ev at e61 ⊢; simp [go_sem, mkO, f5_26, e61]; done))
        refine F26.next 62 (.bool (!q)) fun a27 F27 => ?_
        clear F26 a26
        exact F27.out hQn hT6.keep ⟨hbw, (F27.fin [36, 37, 38, 39, 40, 41, 42, 43, 44, 45, 46, 47, 48, 49, 50, 51, 52, 53, 54, 55, 56, 57, 58, 59, 60, 61] (by kernel_rfl))⟩
      · have hT3 : Tr w W (X2.alloc (.cells #[vi hi] 3)) [(X2.heap.size, .cells #[vi hi] 3 (0, 0)), (gl, .cells #[vi lo] 3 (0, 0)), (z, .cells #[iv f, iv s, vi lo, vi hi] 166 (0, 0))] := hT2.alloc (.cells #[vi hi] 3)
        refine tr_make f5_23 (.slice (some ⟨X2.heap.size, 0, none⟩) 1 1) (X2.alloc (.cells #[vi hi] 3)) (by kernel_rfl) rfl rfl ?_ ⟨hT3.cell 2 rfl rfl, hT3.cell 2 rfl rfl, hT3.cell 2 rfl rfl, hT3.cell 2 rfl rfl, (hck _ hT3.below).1, (hck _ hT3.below).2.1, (hck _ hT3.below).2.2.1, (hck _ hT3.below).2.2.2⟩ ?_; (focus (have e58 : a22.eval (.tmp 58) = (vi hi) := F22.ev 58 (by kernel_rfl); generalize a22.eval = ev at e58 ⊢; simp [go_sem, mkO, f5_23, e58, hu33]; done))
        replace hbw := hbw.alloc hbw.size (.cells #[vi hi] 3)
        obtain ⟨gh, hggh⟩ : ∃ b, X2.heap.size = b := ⟨_, rfl⟩
        simp only [hggh] at hT3 ⊢
        generalize X2.alloc (.cells #[vi hi] 3) = X3 at *
        clear hggh hT2
        clear X2
        refine F22.next 59 (.slice (some ⟨gh, 0, none⟩) 1 1) fun a23 F23 => ?_
        clear F22 a22
        refine tr_call f5_19 (f := 117) (args := #[.slice (some ⟨gl, 0, none⟩) 1 1]) (by kernel_rfl) rfl rfl ?_ ?_
        · (have e54 : a23.eval (.tmp 54) = (.slice (some ⟨gl, 0, none⟩) 1 1) := F23.ev 54 (by kernel_rfl); have ef : ∀ f, a23.eval (.func f) = .func (.func f) #[] #[] := fun _ => rfl; generalize a23.eval = ev at e54 ef ⊢; simp [go_sem, mkO, f5_19, ef, e54]; done)
        refine (squares117 (some ⟨gl, 0, none⟩) 1 [lo] (by simp) (fun m hm => by simp only [List.mem_singleton] at hm; omega) X3 (row_one (hT3.get 1 rfl))).mono ?_
        rintro e X4 ⟨rfl, hy⟩
        have hT4 := hT3.step hy
        replace hbw := hbw.trans (hy.mono hbw.size)
        refine .inl ⟨_, rfl, ⟨hT4.cell 2 rfl rfl, hT4.cell 2 rfl rfl, hT4.cell 2 rfl rfl, hT4.cell 2 rfl rfl, (hck _ hT4.below).1, (hck _ hT4.below).2.1, (hck _ hT4.below).2.2.1, (hck _ hT4.below).2.2.2⟩, ?_⟩
        clear hy hT3
        clear X3
        refine F23.next 55 (vi (sqs [lo])) fun a24 F24 => ?_
        clear F23 a23
        refine tr_call f5_24 (f := 117) (args := #[.slice (some ⟨gh, 0, none⟩) 1 1]) (by kernel_rfl) rfl rfl ?_ ?_
        · (have e59 : a24.eval (.tmp 59) = (.slice (some ⟨gh, 0, none⟩) 1 1) := F24.ev 59 (by kernel_rfl); have ef : ∀ f, a24.eval (.func f) = .func (.func f) #[] #[] := fun _ => rfl; generalize a24.eval = ev at e59 ef ⊢; simp [go_sem, mkO, f5_24, ef, e59]; done)
        refine (squares117 (some ⟨gh, 0, none⟩) 1 [hi] (by simp) (fun m hm => by simp only [List.mem_singleton] at hm; omega) X4 (row_one (hT4.get 0 rfl))).mono ?_
        rintro e X5 ⟨rfl, hy⟩
        have hT5 := hT4.step hy
        replace hbw := hbw.trans (hy.mono hbw.size)
        refine .inl ⟨_, rfl, ⟨hT5.cell 2 rfl rfl, hT5.cell 2 rfl rfl, hT5.cell 2 rfl rfl, hT5.cell 2 rfl rfl, (hck _ hT5.below).1, (hck _ hT5.below).2.1, (hck _ hT5.below).2.2.1, (hck _ hT5.below).2.2.2⟩, ?_⟩
        clear hy hT4
        clear X4
        refine F24.next 60 (vi (sqs [hi])) fun a25 F25 => ?_
        clear F24 a24
        refine tr_call f5_25 (f := 100) (args := #[vi (sq2 ax ay bx by_), vi (sqs [lo]), vi (sqs [hi])]) (by kernel_rfl) rfl rfl ?_ ?_
        · (have e50 : a25.eval (.tmp 50) = (vi (sq2 ax ay bx by_)) := F25.ev 50 (by kernel_rfl); have e55 : a25.eval (.tmp 55) = (vi (sqs [lo])) := F25.ev 55 (by kernel_rfl); have e60 : a25.eval (.tmp 60) = (vi (sqs [hi])) := F25.ev 60 (by kernel_rfl); have ef : ∀ f, a25.eval (.func f) = .func (.func f) #[] #[] := fun _ => rfl; generalize a25.eval = ev at e50 e55 e60 ef ⊢; simp [go_sem, mkO, f5_25, ef, e50, e55, e60]; done)
        refine (hwi X5).mono ?_
        rintro e X6 ⟨rfl, hy⟩
        have hT6 := hT5.step hy
        replace hbw := hbw.trans (hy.mono hbw.size)
        refine .inl ⟨_, rfl, ⟨hT6.cell 2 rfl rfl, hT6.cell 2 rfl rfl, hT6.cell 2 rfl rfl, hT6.cell 2 rfl rfl, (hck _ hT6.below).1, (hck _ hT6.below).2.1, (hck _ hT6.below).2.2.1, (hck _ hT6.below).2.2.2⟩, ?_⟩
        clear hy hT5
        clear X5
        refine F25.next 61 (.bool q) fun a26 F26 => ?_
        clear F25 a25
        refine tr_make f5_26 (.bool (!q)) _ (by kernel_rfl) rfl rfl ?_ ⟨hT6.cell 2 rfl rfl, hT6.cell 2 rfl rfl, hT6.cell 2 rfl rfl, hT6.cell 2 rfl rfl, (hck _ hT6.below).1, (hck _ hT6.below).2.1, (hck _ hT6.below).2.2.1, (hck _ hT6.below).2.2.2⟩ ?_; (focus (have hq := (show (fun W' : World => W'.cell? ⟨z, 0, none⟩ = some (iv f) ∧ W'.cell? ⟨z, 1, none⟩ = some (iv s) ∧ W'.cell? ⟨z, 2, none⟩ = some (vi lo) ∧ W'.cell? ⟨z, 3, none⟩ = some (vi hi) ∧ W'.cell? ⟨tb, f * 2, none⟩ = some (vi ax) ∧ W'.cell? ⟨tb, f * 2 + 1, none⟩ = some (vi ay) ∧ W'.cell? ⟨tb, s * 2, none⟩ = some (vi bx) ∧ W'.cell? ⟨tb, s * 2 + 1, none⟩ = some (vi by_)) X6 from ⟨hT6.cell 2 rfl rfl, hT6.cell 2 rfl rfl, hT6.cell 2 rfl rfl, hT6.cell 2 rfl rfl, (hck _ hT6.below).1, (hck _ hT6.below).2.1, (hck _ hT6.below).2.2.1, (hck _ hT6.below).2.2.2⟩); have e61 : a26.eval (.tmp 61) = (.bool q) := F26.ev 61 (by kernel_rfl); generalize a26.eval = ev at e61 ⊢; simp [go_sem, mkO, f5_26, e61]; done))
        refine F26.next 62 (.bool (!q)) fun a27 F27 => ?_
        clear F26 a26
        exact F27.out hQn hT6.keep ⟨hbw, (F27.fin [36, 37, 38, 39, 40, 41, 42, 43, 44, 45, 46, 47, 48, 49, 50, 51, 52, 53, 54, 55, 56, 57, 58, 59, 60, 61] (by kernel_rfl))⟩
    · have hT2 : Tr w W (X1.alloc (.cells #[vi hi] 3)) [(X1.heap.size, .cells #[vi hi] 3 (0, 0)), (z, .cells #[iv f, iv s, vi lo, vi hi] 166 (0, 0))] := hT1.alloc (.cells #[vi hi] 3)
      refine tr_make f5_23 (.slice (some ⟨X1.heap.size, 0, none⟩) 1 1) (X1.alloc (.cells #[vi hi] 3)) (by kernel_rfl) rfl rfl ?_ ⟨hT2.cell 1 rfl rfl, hT2.cell 1 rfl rfl, hT2.cell 1 rfl rfl, hT2.cell 1 rfl rfl, (hck _ hT2.below).1, (hck _ hT2.below).2.1, (hck _ hT2.below).2.2.1, (hck _ hT2.below).2.2.2⟩ ?_; (focus (have e58 : a21.eval (.tmp 58) = (vi hi) := F21.ev 58 (by kernel_rfl); generalize a21.eval = ev at e58 ⊢; simp [go_sem, mkO, f5_23, e58, hu33]; done))
      replace hbw := hbw.alloc hbw.size (.cells #[vi hi] 3)
      obtain ⟨gh, hggh⟩ : ∃ b, X1.heap.size = b := ⟨_, rfl⟩
      simp only [hggh] at hT2 ⊢
      generalize X1.alloc (.cells #[vi hi] 3) = X2 at *
      clear hggh hT1
      clear X1
      refine F21.next 59 (.slice (some ⟨gh, 0, none⟩) 1 1) fun a22 F22 => ?_
      clear F21 a21
      have hT3 : Tr w W (X2.alloc (.cells #[vi lo] 3)) [(X2.heap.size, .cells #[vi lo] 3 (0, 0)), (gh, .cells #[vi hi] 3 (0, 0)), (z, .cells #[iv f, iv s, vi lo, vi hi] 166 (0, 0))] := hT2.alloc (.cells #[vi lo] 3)
      refine tr_make f5_18 (.slice (some ⟨X2.heap.size, 0, none⟩) 1 1) (X2.alloc (.cells #[vi lo] 3)) (by kernel_rfl) rfl rfl ?_ ⟨hT3.cell 2 rfl rfl, hT3.cell 2 rfl rfl, hT3.cell 2 rfl rfl, hT3.cell 2 rfl rfl, (hck _ hT3.below).1, (hck _ hT3.below).2.1, (hck _ hT3.below).2.2.1, (hck _ hT3.below).2.2.2⟩ ?_; (focus (have e53 : a22.eval (.tmp 53) = (vi lo) := F22.ev 53 (by kernel_rfl); generalize a22.eval = ev at e53 ⊢; simp [go_sem, mkO, f5_18, e53, hu33]; done))
      replace hbw := hbw.alloc hbw.size (.cells #[vi lo] 3)
      obtain ⟨gl, hggl⟩ : ∃ b, X2.heap.size = b := ⟨_, rfl⟩
      simp only [hggl] at hT3 ⊢
      generalize X2.alloc (.cells #[vi lo] 3) = X3 at *
      clear hggl hT2
      clear X2
      refine F22.next 54 (.slice (some ⟨gl, 0, none⟩) 1 1) fun a23 F23 => ?_
      clear F22 a22
      refine tr_call f5_19 (f := 117) (args := #[.slice (some ⟨gl, 0, none⟩) 1 1]) (by kernel_rfl) rfl rfl ?_ ?_
      · (have e54 : a23.eval (.tmp 54) = (.slice (some ⟨gl, 0, none⟩) 1 1) := F23.ev 54 (by kernel_rfl); have ef : ∀ f, a23.eval (.func f) = .func (.func f) #[] #[] := fun _ => rfl; generalize a23.eval = ev at e54 ef ⊢; simp [go_sem, mkO, f5_19, ef, e54]; done)
      refine (squares117 (some ⟨gl, 0, none⟩) 1 [lo] (by simp) (fun m hm => by simp only [List.mem_singleton] at hm; omega) X3 (row_one (hT3.get 0 rfl))).mono ?_
      rintro e X4 ⟨rfl, hy⟩
      have hT4 := hT3.step hy
      replace hbw := hbw.trans (hy.mono hbw.size)
      refine .inl ⟨_, rfl, ⟨hT4.cell 2 rfl rfl, hT4.cell 2 rfl rfl, hT4.cell 2 rfl rfl, hT4.cell 2 rfl rfl, (hck _ hT4.below).1, (hck _ hT4.below).2.1, (hck _ hT4.below).2.2.1, (hck _ hT4.below).2.2.2⟩, ?_⟩
      clear hy hT3
      clear X3
      refine F23.next 55 (vi (sqs [lo])) fun a24 F24 => ?_
      clear F23 a23
      refine tr_call f5_24 (f := 117) (args := #[.slice (some ⟨gh, 0, none⟩) 1 1]) (by kernel_rfl) rfl rfl ?_ ?_
      · (have e59 : a24.eval (.tmp 59) = (.slice (some ⟨gh, 0, none⟩) 1 1) := F24.ev 59 (by kernel_rfl); have ef : ∀ f, a24.eval (.func f) = .func (.func f) #[] #[] := fun _ => rfl; generalize a24.eval = ev at e59 ef ⊢; simp [go_sem, mkO, f5_24, ef, e59]; done)
      refine (squares117 (some ⟨gh, 0, none⟩) 1 [hi] (by simp) (fun m hm => by simp only [List.mem_singleton] at hm; omega) X4 (row_one (hT4.get 1 rfl))).mono ?_
      rintro e X5 ⟨rfl, hy⟩
      have hT5 := hT4.step hy
      replace hbw := hbw.trans (hy.mono hbw.size)
      refine .inl ⟨_, rfl, ⟨hT5.cell 2 rfl rfl, hT5.cell 2 rfl rfl, hT5.cell 2 rfl rfl, hT5.cell 2 rfl rfl, (hck _ hT5.below).1, (hck _ hT5.below).2.1, (hck _ hT5.below).2.2.1, (hck _ hT5.below).2.2.2⟩, ?_⟩
      clear hy hT4
      clear X4
      refine F24.next 60 (vi (sqs [hi])) fun a25 F25 => ?_
      clear F24 a24
      refine tr_call f5_25 (f := 100) (args := #[vi (sq2 ax ay bx by_), vi (sqs [lo]), vi (sqs [hi])]) (by kernel_rfl) rfl rfl ?_ ?_
      · (have e50 : a25.eval (.tmp 50) = (vi (sq2 ax ay bx by_)) := F25.ev 50 (by kernel_rfl); have e55 : a25.eval (.tmp 55) = (vi (sqs [lo])) := F25.ev 55 (by kernel_rfl); have e60 : a25.eval (.tmp 60) = (vi (sqs [hi])) := F25.ev 60 (by kernel_rfl); have ef : ∀ f, a25.eval (.func f) = .func (.func f) #[] #[] := fun _ => rfl; generalize a25.eval = ev at e50 e55 e60 ef ⊢; simp [go_sem, mkO, f5_25, ef, e50, e55, e60]; done)
      refine (hwi X5).mono ?_
      rintro e X6 ⟨rfl, hy⟩
      have hT6 := hT5.step hy
      replace hbw := hbw.trans (hy.mono hbw.size)
      refine .inl ⟨_, rfl, ⟨hT6.cell 2 rfl rfl, hT6.cell 2 rfl rfl, hT6.cell 2 rfl rfl, hT6.cell 2 rfl rfl, (hck _ hT6.below).1, (hck _ hT6.below).2.1, (hck _ hT6.below).2.2.1, (hck _ hT6.below).2.2.2⟩, ?_⟩
      clear hy hT5
      clear X5
      refine F25.next 61 (.bool q) fun a26 F26 => ?_
      clear F25 a25
      refine tr_make f5_26 (.bool (!q)) _ (by kernel_rfl) rfl rfl ?_ ⟨hT6.cell 2 rfl rfl, hT6.cell 2 rfl rfl, hT6.cell 2 rfl rfl, hT6.cell 2 rfl rfl, (hck _ hT6.below).1, (hck _ hT6.below).2.1, (hck _ hT6.below).2.2.1, (hck _ hT6.below).2.2.2⟩ ?_; (focus (have hq := (show (fun W' : World => W'.cell? ⟨z, 0, none⟩ = some (iv f) ∧ W'.cell? ⟨z, 1, none⟩ = some (iv s) ∧ W'.cell? ⟨z, 2, none⟩ = some (vi lo) ∧ W'.cell? ⟨z, 3, none⟩ = some (vi hi) ∧ W'.cell? ⟨tb, f * 2, none⟩ = some (vi ax) ∧ W'.cell? ⟨tb, f * 2 + 1, none⟩ = some (vi ay) ∧ W'.cell? ⟨tb, s * 2, none⟩ = some (vi bx) ∧ W'.cell? ⟨tb, s * 2 + 1, none⟩ = some (vi by_)) X6 from ⟨hT6.cell 2 rfl rfl, hT6.cell 2 rfl rfl, hT6.cell 2 rfl rfl, hT6.cell 2 rfl rfl, (hck _ hT6.below).1, (hck _ hT6.below).2.1, (hck _ hT6.below).2.2.1, (hck _ hT6.below).2.2.2⟩); have e61 : a26.eval (.tmp 61) = (.bool q) := F26.ev 61 (by kernel_rfl); generalize a26.eval = ev at e61 ⊢; simp [go_sem, mkO, f5_26, e61]; done))
      refine F26.next 62 (.bool (!q)) fun a27 F27 => ?_
      clear F26 a26
      exact F27.out hQn hT6.keep ⟨hbw, (F27.fin [36, 37, 38, 39, 40, 41, 42, 43, 44, 45, 46, 47, 48, 49, 50, 51, 52, 53, 54, 55, 56, 57, 58, 59, 60, 61] (by kernel_rfl))⟩
  · have hT1 : Tr w W (X0.alloc (.cells #[vi lo] 3)) [(X0.heap.size, .cells #[vi lo] 3 (0, 0)), (z, .cells #[iv f, iv s, vi lo, vi hi] 166 (0, 0))] := hT0.alloc (.cells #[vi lo] 3)
    refine tr_make f5_18 (.slice (some ⟨X0.heap.size, 0, none⟩) 1 1) (X0.alloc (.cells #[vi lo] 3)) (by kernel_rfl) rfl rfl ?_ ⟨hT1.cell 1 rfl rfl, hT1.cell 1 rfl rfl, hT1.cell 1 rfl rfl, hT1.cell 1 rfl rfl, (hck _ hT1.below).1, (hck _ hT1.below).2.1, (hck _ hT1.below).2.2.1, (hck _ hT1.below).2.2.2⟩ ?_; (focus (have e53 : a20.eval (.tmp 53) = (vi lo) := F20.ev 53 (by kernel_rfl); generalize a20.eval = ev at e53 ⊢; simp [go_sem, mkO, f5_18, e53, hu33]; done))
    replace hbw := hbw.alloc hbw.size (.cells #[vi lo] 3)
    obtain ⟨gl, hggl⟩ : ∃ b, X0.heap.size = b := ⟨_, rfl⟩
    simp only [hggl] at hT1 ⊢
    generalize X0.alloc (.cells #[vi lo] 3) = X1 at *
    clear hggl hT0
    clear X0
    refine F20.next 54 (.slice (some ⟨gl, 0, none⟩) 1 1) fun a21 F21 => ?_
    clear F20 a20
    refine ⟨?_, ?_⟩
    · refine tr_call f5_14 (f := 116) (args := #[.agg #[vi ax, vi ay], .agg #[vi bx, vi by_]]) (by kernel_rfl) rfl rfl ?_ ?_
      · (have e42 : a21.eval (.tmp 42) = (.agg #[vi ax, vi ay]) := F21.ev 42 (by kernel_rfl); have e49 : a21.eval (.tmp 49) = (.agg #[vi bx, vi by_]) := F21.ev 49 (by kernel_rfl); have ef : ∀ f, a21.eval (.func f) = .func (.func f) #[] #[] := fun _ => rfl; generalize a21.eval = ev at e42 e49 ef ⊢; simp [go_sem, mkO, f5_14, ef, e42, e49]; done)
      refine (square116 ax ay bx by_ hxy X1).mono ?_
      rintro e X2 ⟨rfl, hy⟩
      have hT2 := hT1.step hy
      replace hbw := hbw.trans (hy.mono hbw.size)
      refine .inl ⟨_, rfl, ⟨hT2.cell 1 rfl rfl, hT2.cell 1 rfl rfl, hT2.cell 1 rfl rfl, hT2.cell 1 rfl rfl, (hck _ hT2.below).1, (hck _ hT2.below).2.1, (hck _ hT2.below).2.2.1, (hck _ hT2.below).2.2.2⟩, ?_⟩
      clear hy hT1
      clear X1
      refine F21.next 50 (vi (sq2 ax ay bx by_)) fun a22 F22 => ?_
      clear F21 a21
      refine ⟨?_, ?_⟩
      · refine tr_call f5_19 (f := 117) (args := #[.slice (some ⟨gl, 0, none⟩) 1 1]) (by kernel_rfl) rfl rfl ?_ ?_
        · (have e54 : a22.eval (.tmp 54) = (.slice (some ⟨gl, 0, none⟩) 1 1) := F22.ev 54 (by kernel_rfl); have ef : ∀ f, a22.eval (.func f) = .func (.func f) #[] #[] := fun _ => rfl; generalize a22.eval = ev at e54 ef ⊢; simp [go_sem, mkO, f5_19, ef, e54]; done)
        refine (squares117 (some ⟨gl, 0, none⟩) 1 [lo] (by simp) (fun m hm => by simp only [List.mem_singleton] at hm; omega) X2 (row_one (hT2.get 0 rfl))).mono ?_
        rintro e X3 ⟨rfl, hy⟩
        have hT3 := hT2.step hy
        replace hbw := hbw.trans (hy.mono hbw.size)
        refine .inl ⟨_, rfl, ⟨hT3.cell 1 rfl rfl, hT3.cell 1 rfl rfl, hT3.cell 1 rfl rfl, hT3.cell 1 rfl rfl, (hck _ hT3.below).1, (hck _ hT3.below).2.1, (hck _ hT3.below).2.2.1, (hck _ hT3.below).2.2.2⟩, ?_⟩
        clear hy hT2
        clear X2
        refine F22.next 55 (vi (sqs [lo])) fun a23 F23 => ?_
        clear F22 a22
        have hT4 : Tr w W (X3.alloc (.cells #[vi hi] 3)) [(X3.heap.size, .cells #[vi hi] 3 (0, 0)), (gl, .cells #[vi lo] 3 (0, 0)), (z, .cells #[iv f, iv s, vi lo, vi hi] 166 (0, 0))] := hT3.alloc (.cells #[vi hi] 3)
        refine tr_make f5_23 (.slice (some ⟨X3.heap.size, 0, none⟩) 1 1) (X3.alloc (.cells #[vi hi] 3)) (by kernel_rfl) rfl rfl ?_ ⟨hT4.cell 2 rfl rfl, hT4.cell 2 rfl rfl, hT4.cell 2 rfl rfl, hT4.cell 2 rfl rfl, (hck _ hT4.below).1, (hck _ hT4.below).2.1, (hck _ hT4.below).2.2.1, (hck _ hT4.below).2.2.2⟩ ?_; (focus (have e58 : a23.eval (.tmp 58) = (vi hi) := F23.ev 58 (by kernel_rfl); generalize a23.eval = ev at e58 ⊢; simp [go_sem, mkO, f5_23, e58, hu33]; done))
        replace hbw := hbw.alloc hbw.size (.cells #[vi hi] 3)
        obtain ⟨gh, hggh⟩ : ∃ b, X3.heap.size = b := ⟨_, rfl⟩
        simp only [hggh] at hT4 ⊢
        generalize X3.alloc (.cells #[vi hi] 3) = X4 at *
        clear hggh hT3
        clear X3
        refine F23.next 59 (.slice (some ⟨gh, 0, none⟩) 1 1) fun a24 F24 => ?_
        clear F23 a23
        refine tr_call f5_24 (f := 117) (args := #[.slice (some ⟨gh, 0, none⟩) 1 1]) (by kernel_rfl) rfl rfl ?_ ?_
        · (have e59 : a24.eval (.tmp 59) = (.slice (some ⟨gh, 0, none⟩) 1 1) := F24.ev 59 (by kernel_rfl); have ef : ∀ f, a24.eval (.func f) = .func (.func f) #[] #[] := fun _ => rfl; generalize a24.eval = ev at e59 ef ⊢; simp [go_sem, mkO, f5_24, ef, e59]; done)
        refine (squares117 (some ⟨gh, 0, none⟩) 1 [hi] (by simp) (fun m hm => by simp only [List.mem_singleton] at hm; omega) X4 (row_one (hT4.get 0 rfl))).mono ?_
        rintro e X5 ⟨rfl, hy⟩
        have hT5 := hT4.step hy
        replace hbw := hbw.trans (hy.mono hbw.size)
        refine .inl ⟨_, rfl, ⟨hT5.cell 2 rfl rfl, hT5.cell 2 rfl rfl, hT5.cell 2 rfl rfl, hT5.cell 2 rfl rfl, (hck _ hT5.below).1, (hck _ hT5.below).2.1, (hck _ hT5.below).2.2.1, (hck _ hT5.below).2.2.2⟩, ?_⟩
        clear hy hT4
        clear X4
        refine F24.next 60 (vi (sqs [hi])) fun a25 F25 => ?_
        clear F24 a24
        refine tr_call f5_25 (f := 100) (args := #[vi (sq2 ax ay bx by_), vi (sqs [lo]), vi (sqs [hi])]) (by kernel_rfl) rfl rfl ?_ ?_
        · (have e50 : a25.eval (.tmp 50) = (vi (sq2 ax ay bx by_)) := F25.ev 50 (by kernel_rfl); have e55 : a25.eval (.tmp 55) = (vi (sqs [lo])) := F25.ev 55 (by kernel_rfl); have e60 : a25.eval (.tmp 60) = (vi (sqs [hi])) := F25.ev 60 (by kernel_rfl); have ef : ∀ f, a25.eval (.func f) = .func (.func f) #[] #[] := fun _ => rfl; generalize a25.eval = ev at e50 e55 e60 ef ⊢; simp [go_sem, mkO, f5_25, ef, e50, e55, e60]; done)
        refine (hwi X5).mono ?_
        rintro e X6 ⟨rfl, hy⟩
        have hT6 := hT5.step hy
        replace hbw := hbw.trans (hy.mono hbw.size)
        refine .inl ⟨_, rfl, ⟨hT6.cell 2 rfl rfl, hT6.cell 2 rfl rfl, hT6.cell 2 rfl rfl, hT6.cell 2 rfl rfl, (hck _ hT6.below).1, (hck _ hT6.below).2.1, (hck _ hT6.below).2.2.1, (hck _ hT6.below).2.2.2⟩, ?_⟩
        clear hy hT5
        clear X5
        refine F25.next 61 (.bool q) fun a26 F26 => ?_
        clear F25 a25
        refine tr_make f5_26 (.bool (!q)) _ (by kernel_rfl) rfl rfl ?_ ⟨hT6.cell 2 rfl rfl, hT6.cell 2 rfl rfl, hT6.cell 2 rfl rfl, hT6.cell 2 rfl rfl, (hck _ hT6.below).1, (hck _ hT6.below).2.1, (hck _ hT6.below).2.2.1, (hck _ hT6.below).2.2.2⟩ ?_; (focus (have hq := (show (fun W' : World => W'.cell? ⟨z, 0, none⟩ = some (iv f) ∧ W'.cell? ⟨z, 1, none⟩ = some (iv s) ∧ W'.cell? ⟨z, 2, none⟩ = some (vi lo) ∧ W'.cell? ⟨z, 3, none⟩ = some (vi hi) ∧ W'.cell? ⟨tb, f * 2, none⟩ = some (vi ax) ∧ W'.cell? ⟨tb, f * 2 + 1, none⟩ = some (vi ay) ∧ W'.cell? ⟨tb, s * 2, none⟩ = some (vi bx) ∧ W'.cell? ⟨tb, s * 2 + 1, none⟩ = some (vi by_)) X6 from ⟨hT6.cell 2 rfl rfl, hT6.cell 2 rfl rfl, hT6.cell 2 rfl rfl, hT6.cell 2 rfl rfl, (hck _ hT6.below).1, (hck _ hT6.below).2.1, (hck _ hT6.below).2.2.1, (hck _ hT6.below).2.2.2⟩); have e61 : a26.eval (.tmp 61) = (.bool q) := F26.ev 61 (by kernel_rfl); generalize a26.eval = ev at e61 ⊢; simp [go_sem, mkO, f5_26, e61]; done))
        refine F26.next 62 (.bool (!q)) fun a27 F27 => ?_
        clear F26 a26
        exact F27.out hQn hT6.keep ⟨hbw, (F27.fin [36, 37, 38, 39, 40, 41, 42, 43, 44, 45, 46, 47, 48, 49, 50, 51, 52, 53, 54, 55, 56, 57, 58, 59, 60, 61] (by kernel_rfl))⟩
      · have hT3 : Tr w W (X2.alloc (.cells #[vi hi] 3)) [(X2.heap.size, .cells #[vi hi] 3 (0, 0)), (gl, .cells #[vi lo] 3 (0, 0)), (z, .cells #[iv f, iv s, vi lo, vi hi] 166 (0, 0))] := hT2.alloc (.cells #[vi hi] 3)
        refine tr_make f5_23 (.slice (some ⟨X2.heap.size, 0, none⟩) 1 1) (X2.alloc (.cells #[vi hi] 3)) (by kernel_rfl) rfl rfl ?_ ⟨hT3.cell 2 rfl rfl, hT3.cell 2 rfl rfl, hT3.cell 2 rfl rfl, hT3.cell 2 rfl rfl, (hck _ hT3.below).1, (hck _ hT3.below).2.1, (hck _ hT3.below).2.2.1, (hck _ hT3.below).2.2.2⟩ ?_; (focus (have e58 : a22.eval (.tmp 58) = (vi hi) := F22.ev 58 (by kernel_rfl); generalize a22.eval = ev at e58 ⊢; simp [go_sem, mkO, f5_23, e58, hu33]; done))
        replace hbw := hbw.alloc hbw.size (.cells #[vi hi] 3)
        obtain ⟨gh, hggh⟩ : ∃ b, X2.heap.size = b := ⟨_, rfl⟩
        simp only [hggh] at hT3 ⊢
        generalize X2.alloc (.cells #[vi hi] 3) = X3 at *
        clear hggh hT2
        clear X2
        refine F22.next 59 (.slice (some ⟨gh, 0, none⟩) 1 1) fun a23 F23 => ?_
        clear F22 a22
        refine tr_call f5_19 (f := 117) (args := #[.slice (some ⟨gl, 0, none⟩) 1 1]) (by kernel_rfl) rfl rfl ?_ ?_
        · (have e54 : a23.eval (.tmp 54) = (.slice (some ⟨gl, 0, none⟩) 1 1) := F23.ev 54 (by kernel_rfl); have ef : ∀ f, a23.eval (.func f) = .func (.func f) #[] #[] := fun _ => rfl; generalize a23.eval = ev at e54 ef ⊢; simp [go_sem, mkO, f5_19, ef, e54]; done)
        refine (squares117 (some ⟨gl, 0, none⟩) 1 [lo] (by simp) (fun m hm => by simp only [List.mem_singleton] at hm; omega) X3 (row_one (hT3.get 1 rfl))).mono ?_
        rintro e X4 ⟨rfl, hy⟩
        have hT4 := hT3.step hy
        replace hbw := hbw.trans (hy.mono hbw.size)
        refine .inl ⟨_, rfl, ⟨hT4.cell 2 rfl rfl, hT4.cell 2 rfl rfl, hT4.cell 2 rfl rfl, hT4.cell 2 rfl rfl, (hck _ hT4.below).1, (hck _ hT4.below).2.1, (hck _ hT4.below).2.2.1, (hck _ hT4.below).2.2.2⟩, ?_⟩
        clear hy hT3
        clear X3
        refine F23.next 55 (vi (sqs [lo])) fun a24 F24 => ?_
        clear F23 a23
        refine tr_call f5_24 (f := 117) (args := #[.slice (some ⟨gh, 0, none⟩) 1 1]) (by kernel_rfl) rfl rfl ?_ ?_
        · (have e59 : a24.eval (.tmp 59) = (.slice (some ⟨gh, 0, none⟩) 1 1) := F24.ev 59 (by kernel_rfl); have ef : ∀ f, a24.eval (.func f) = .func (.func f) #[] #[] := fun _ => rfl; generalize a24.eval = ev at e59 ef ⊢; simp [go_sem, mkO, f5_24, ef, e59]; done)
        refine (squares117 (some ⟨gh, 0, none⟩) 1 [hi] (by simp) (fun m hm => by simp only [List.mem_singleton] at hm; omega) X4 (row_one (hT4.get 0 rfl))).mono ?_
        rintro e X5 ⟨rfl, hy⟩
        have hT5 := hT4.step hy
        replace hbw := hbw.trans (hy.mono hbw.size)
        refine .inl ⟨_, rfl, ⟨hT5.cell 2 rfl rfl, hT5.cell 2 rfl rfl, hT5.cell 2 rfl rfl, hT5.cell 2 rfl rfl, (hck _ hT5.below).1, (hck _ hT5.below).2.1, (hck _ hT5.below).2.2.1, (hck _ hT5.below).2.2.2⟩, ?_⟩
        clear hy hT4
        clear X4
        refine F24.next 60 (vi (sqs [hi])) fun a25 F25 => ?_
        clear F24 a24
        refine tr_call f5_25 (f := 100) (args := #[vi (sq2 ax ay bx by_), vi (sqs [lo]), vi (sqs [hi])]) (by kernel_rfl) rfl rfl ?_ ?_
        · (have e50 : a25.eval (.tmp 50) = (vi (sq2 ax ay bx by_)) := F25.ev 50 (by kernel_rfl); have e55 : a25.eval (.tmp 55) = (vi (sqs [lo])) := F25.ev 55 (by kernel_rfl); have e60 : a25.eval (.tmp 60) = (vi (sqs [hi])) := F25.ev 60 (by kernel_rfl); have ef : ∀ f, a25.eval (.func f) = .func (.func f) #[] #[] := fun _ => rfl; generalize a25.eval = ev at e50 e55 e60 ef ⊢; simp [go_sem, mkO, f5_25, ef, e50, e55, e60]; done)
        refine (hwi X5).mono ?_
        rintro e X6 ⟨rfl, hy⟩
        have hT6 := hT5.step hy
        replace hbw := hbw.trans (hy.mono hbw.size)
        refine .inl ⟨_, rfl, ⟨hT6.cell 2 rfl rfl, hT6.cell 2 rfl rfl, hT6.cell 2 rfl rfl, hT6.cell 2 rfl rfl, (hck _ hT6.below).1, (hck _ hT6.below).2.1, (hck _ hT6.below).2.2.1, (hck _ hT6.below).2.2.2⟩, ?_⟩
        clear hy hT5
        clear X5
        refine F25.next 61 (.bool q) fun a26 F26 => ?_
        clear F25 a25
        refine tr_make f5_26 (.bool (!q)) _ (by kernel_rfl) rfl rfl ?_ ⟨hT6.cell 2 rfl rfl, hT6.cell 2 rfl rfl, hT6.cell 2 rfl rfl, hT6.cell 2 rfl rfl, (hck _ hT6.below).1, (hck _ hT6.below).2.1, (hck _ hT6.below).2.2.1, (hck _ hT6.below).2.2.2⟩ ?_; (focus (have hq := (show (fun W' : World => W'.cell? ⟨z, 0, none⟩ = some (iv f) ∧ W'.cell? ⟨z, 1, none⟩ = some (iv s) ∧ W'.cell? ⟨z, 2, none⟩ = some (vi lo) ∧ W'.cell? ⟨z, 3, none⟩ = some (vi hi) ∧ W'.cell? ⟨tb, f * 2, none⟩ = some (vi ax) ∧ W'.cell? ⟨tb, f * 2 + 1, none⟩ = some (vi ay) ∧ W'.cell? ⟨tb, s * 2, none⟩ = some (vi bx) ∧ W'.cell? ⟨tb, s * 2 + 1, none⟩ = some (vi by_)) X6 from ⟨hT6.cell 2 rfl rfl, hT6.cell 2 rfl rfl, hT6.cell 2 rfl rfl, hT6.cell 2 rfl rfl, (hck _ hT6.below).1, (hck _ hT6.below).2.1, (hck _ hT6.below).2.2.1, (hck _ hT6.below).2.2.2⟩); have e61 : a26.eval (.tmp 61) = (.bool q) := F26.ev 61 (by kernel_rfl); generalize a26.eval = ev at e61 ⊢; simp [go_sem, mkO, f5_26, e61]; done))
        refine F26.next 62 (.bool (!q)) fun a27 F27 => ?_
        clear F26 a26
        exact F27.out hQn hT6.keep ⟨hbw, (F27.fin [36, 37, 38, 39, 40, 41, 42, 43, 44, 45, 46, 47, 48, 49, 50, 51, 52, 53, 54, 55, 56, 57, 58, 59, 60, 61] (by kernel_rfl))⟩
    · have hT2 : Tr w W (X1.alloc (.cells #[vi hi] 3)) [(X1.heap.size, .cells #[vi hi] 3 (0, 0)), (gl, .cells #[vi lo] 3 (0, 0)), (z, .cells #[iv f, iv s, vi lo, vi hi] 166 (0, 0))] := hT1.alloc (.cells #[vi hi] 3)
      refine tr_make f5_23 (.slice (some ⟨X1.heap.size, 0, none⟩) 1 1) (X1.alloc (.cells #[vi hi] 3)) (by kernel_rfl) rfl rfl ?_ ⟨hT2.cell 2 rfl rfl, hT2.cell 2 rfl rfl, hT2.cell 2 rfl rfl, hT2.cell 2 rfl rfl, (hck _ hT2.below).1, (hck _ hT2.below).2.1, (hck _ hT2.below).2.2.1, (hck _ hT2.below).2.2.2⟩ ?_; (focus (have e58 : a21.eval (.tmp 58) = (vi hi) := F21.ev 58 (by kernel_rfl); generalize a21.eval = ev at e58 ⊢; simp [go_sem, mkO, f5_23, e58, hu33]; done))
      replace hbw := hbw.alloc hbw.size (.cells #[vi hi] 3)
      obtain ⟨gh, hggh⟩ : ∃ b, X1.heap.size = b := ⟨_, rfl⟩
      simp only [hggh] at hT2 ⊢
      generalize X1.alloc (.cells #[vi hi] 3) = X2 at *
      clear hggh hT1
      clear X1
      refine F21.next 59 (.slice (some ⟨gh, 0, none⟩) 1 1) fun a22 F22 => ?_
      clear F21 a21
      refine tr_call f5_14 (f := 116) (args := #[.agg #[vi ax, vi ay], .agg #[vi bx, vi by_]]) (by kernel_rfl) rfl rfl ?_ ?_
      · (have e42 : a22.eval (.tmp 42) = (.agg #[vi ax, vi ay]) := F22.ev 42 (by kernel_rfl); have e49 : a22.eval (.tmp 49) = (.agg #[vi bx, vi by_]) := F22.ev 49 (by kernel_rfl); have ef : ∀ f, a22.eval (.func f) = .func (.func f) #[] #[] := fun _ => rfl; generalize a22.eval = ev at e42 e49 ef ⊢; simp [go_sem, mkO, f5_14, ef, e42, e49]; done)
      refine (square116 ax ay bx by_ hxy X2).mono ?_
      rintro e X3 ⟨rfl, hy⟩
      have hT3 := hT2.step hy
      replace hbw := hbw.trans (hy.mono hbw.size)
      refine .inl ⟨_, rfl, ⟨hT3.cell 2 rfl rfl, hT3.cell 2 rfl rfl, hT3.cell 2 rfl rfl, hT3.cell 2 rfl rfl, (hck _ hT3.below).1, (hck _ hT3.below).2.1, (hck _ hT3.below).2.2.1, (hck _ hT3.below).2.2.2⟩, ?_⟩
      clear hy hT2
      clear X2
      refine F22.next 50 (vi (sq2 ax ay bx by_)) fun a23 F23 => ?_
      clear F22 a22
      refine tr_call f5_19 (f := 117) (args := #[.slice (some ⟨gl, 0, none⟩) 1 1]) (by kernel_rfl) rfl rfl ?_ ?_
      · (have e54 : a23.eval (.tmp 54) = (.slice (some ⟨gl, 0, none⟩) 1 1) := F23.ev 54 (by kernel_rfl); have ef : ∀ f, a23.eval (.func f) = .func (.func f) #[] #[] := fun _ => rfl; generalize a23.eval = ev at e54 ef ⊢; simp [go_sem, mkO, f5_19, ef, e54]; done)
      refine (squares117 (some ⟨gl, 0, none⟩) 1 [lo] (by simp) (fun m hm => by simp only [List.mem_singleton] at hm; omega) X3 (row_one (hT3.get 1 rfl))).mono ?_
      rintro e X4 ⟨rfl, hy⟩
      have hT4 := hT3.step hy
      replace hbw := hbw.trans (hy.mono hbw.size)
      refine .inl ⟨_, rfl, ⟨hT4.cell 2 rfl rfl, hT4.cell 2 rfl rfl, hT4.cell 2 rfl rfl, hT4.cell 2 rfl rfl, (hck _ hT4.below).1, (hck _ hT4.below).2.1, (hck _ hT4.below).2.2.1, (hck _ hT4.below).2.2.2⟩, ?_⟩
      clear hy hT3
      clear X3
      refine F23.next 55 (vi (sqs [lo])) fun a24 F24 => ?_
      clear F23 a23
      refine tr_call f5_24 (f := 117) (args := #[.slice (some ⟨gh, 0, none⟩) 1 1]) (by kernel_rfl) rfl rfl ?_ ?_
      · (have e59 : a24.eval (.tmp 59) = (.slice (some ⟨gh, 0, none⟩) 1 1) := F24.ev 59 (by kernel_rfl); have ef : ∀ f, a24.eval (.func f) = .func (.func f) #[] #[] := fun _ => rfl; generalize a24.eval = ev at e59 ef ⊢; simp [go_sem, mkO, f5_24, ef, e59]; done)
      refine (squares117 (some ⟨gh, 0, none⟩) 1 [hi] (by simp) (fun m hm => by simp only [List.mem_singleton] at hm; omega) X4 (row_one (hT4.get 0 rfl))).mono ?_
      rintro e X5 ⟨rfl, hy⟩
      have hT5 := hT4.step hy
      replace hbw := hbw.trans (hy.mono hbw.size)
      refine .inl ⟨_, rfl, ⟨hT5.cell 2 rfl rfl, hT5.cell 2 rfl rfl, hT5.cell 2 rfl rfl, hT5.cell 2 rfl rfl, (hck _ hT5.below).1, (hck _ hT5.below).2.1, (hck _ hT5.below).2.2.1, (hck _ hT5.below).2.2.2⟩, ?_⟩
      clear hy hT4
      clear X4
      refine F24.next 60 (vi (sqs [hi])) fun a25 F25 => ?_
      clear F24 a24
      refine tr_call f5_25 (f := 100) (args := #[vi (sq2 ax ay bx by_), vi (sqs [lo]), vi (sqs [hi])]) (by kernel_rfl) rfl rfl ?_ ?_
      · (have e50 : a25.eval (.tmp 50) = (vi (sq2 ax ay bx by_)) := F25.ev 50 (by kernel_rfl); have e55 : a25.eval (.tmp 55) = (vi (sqs [lo])) := F25.ev 55 (by kernel_rfl); have e60 : a25.eval (.tmp 60) = (vi (sqs [hi])) := F25.ev 60 (by kernel_rfl); have ef : ∀ f, a25.eval (.func f) = .func (.func f) #[] #[] := fun _ => rfl; generalize a25.eval = ev at e50 e55 e60 ef ⊢; simp [go_sem, mkO, f5_25, ef, e50, e55, e60]; done)
      refine (hwi X5).mono ?_
      rintro e X6 ⟨rfl, hy⟩
      have hT6 := hT5.step hy
      replace hbw := hbw.trans (hy.mono hbw.size)
      refine .inl ⟨_, rfl, ⟨hT6.cell 2 rfl rfl, hT6.cell 2 rfl rfl, hT6.cell 2 rfl rfl, hT6.cell 2 rfl rfl, (hck _ hT6.below).1, (hck _ hT6.below).2.1, (hck _ hT6.below).2.2.1, (hck _ hT6.below).2.2.2⟩, ?_⟩
      clear hy hT5
      clear X5
      refine F25.next 61 (.bool q) fun a26 F26 => ?_
      clear F25 a25
      refine tr_make f5_26 (.bool (!q)) _ (by kernel_rfl) rfl rfl ?_ ⟨hT6.cell 2 rfl rfl, hT6.cell 2 rfl rfl, hT6.cell 2 rfl rfl, hT6.cell 2 rfl rfl, (hck _ hT6.below).1, (hck _ hT6.below).2.1, (hck _ hT6.below).2.2.1, (hck _ hT6.below).2.2.2⟩ ?_; (focus (have hq := (show (fun W' : World => W'.cell? ⟨z, 0, none⟩ = some (iv f) ∧ W'.cell? ⟨z, 1, none⟩ = some (iv s) ∧ W'.cell? ⟨z, 2, none⟩ = some (vi lo) ∧ W'.cell? ⟨z, 3, none⟩ = some (vi hi) ∧ W'.cell? ⟨tb, f * 2, none⟩ = some (vi ax) ∧ W'.cell? ⟨tb, f * 2 + 1, none⟩ = some (vi ay) ∧ W'.cell? ⟨tb, s * 2, none⟩ = some (vi bx) ∧ W'.cell? ⟨tb, s * 2 + 1, none⟩ = some (vi by_)) X6 from ⟨hT6.cell 2 rfl rfl, hT6.cell 2 rfl rfl, hT6.cell 2 rfl rfl, hT6.cell 2 rfl rfl, (hck _ hT6.below).1, (hck _ hT6.below).2.1, (hck _ hT6.below).2.2.1, (hck _ hT6.below).2.2.2⟩); have e61 : a26.eval (.tmp 61) = (.bool q) := F26.ev 61 (by kernel_rfl); generalize a26.eval = ev at e61 ⊢; simp [go_sem, mkO, f5_26, e61]; done))
      refine F26.next 62 (.bool (!q)) fun a27 F27 => ?_
      clear F26 a26
      exact F27.out hQn hT6.keep ⟨hbw, (F27.fin [36, 37, 38, 39, 40, 41, 42, 43, 44, 45, 46, 47, 48, 49, 50, 51, 52, 53, 54, 55, 56, 57, 58, 59, 60, 61] (by kernel_rfl))⟩
  · have hT1 : Tr w W (X0.alloc (.cells #[vi hi] 3)) [(X0.heap.size, .cells #[vi hi] 3 (0, 0)), (z, .cells #[iv f, iv s, vi lo, vi hi] 166 (0, 0))] := hT0.alloc (.cells #[vi hi] 3)
    refine tr_make f5_23 (.slice (some ⟨X0.heap.size, 0, none⟩) 1 1) (X0.alloc (.cells #[vi hi] 3)) (by kernel_rfl) rfl rfl ?_ ⟨hT1.cell 1 rfl rfl, hT1.cell 1 rfl rfl, hT1.cell 1 rfl rfl, hT1.cell 1 rfl rfl, (hck _ hT1.below).1, (hck _ hT1.below).2.1, (hck _ hT1.below).2.2.1, (hck _ hT1.below).2.2.2⟩ ?_; (focus (have e58 : a20.eval (.tmp 58) = (vi hi) := F20.ev 58 (by kernel_rfl); generalize a20.eval = ev at e58 ⊢; simp [go_sem, mkO, f5_23, e58, hu33]; done))
    replace hbw := hbw.alloc hbw.size (.cells #[vi hi] 3)
    obtain ⟨gh, hggh⟩ : ∃ b, X0.heap.size = b := ⟨_, rfl⟩
    simp only [hggh] at hT1 ⊢
    generalize X0.alloc (.cells #[vi hi] 3) = X1 at *
    clear hggh hT0
    clear X0
    refine F20.next 59 (.slice (some ⟨gh, 0, none⟩) 1 1) fun a21 F21 => ?_
    clear F20 a20
    refine ⟨?_, ?_⟩
    · refine tr_call f5_14 (f := 116) (args := #[.agg #[vi ax, vi ay], .agg #[vi bx, vi by_]]) (by kernel_rfl) rfl rfl ?_ ?_
      · (have e42 : a21.eval (.tmp 42) = (.agg #[vi ax, vi ay]) := F21.ev 42 (by kernel_rfl); have e49 : a21.eval (.tmp 49) = (.agg #[vi bx, vi by_]) := F21.ev 49 (by kernel_rfl); have ef : ∀ f, a21.eval (.func f) = .func (.func f) #[] #[] := fun _ => rfl; generalize a21.eval = ev at e42 e49 ef ⊢; simp [go_sem, mkO, f5_14, ef, e42, e49]; done)
      refine (square116 ax ay bx by_ hxy X1).mono ?_
      rintro e X2 ⟨rfl, hy⟩
      have hT2 := hT1.step hy
      replace hbw := hbw.trans (hy.mono hbw.size)
      refine .inl ⟨_, rfl, ⟨hT2.cell 1 rfl rfl, hT2.cell 1 rfl rfl, hT2.cell 1 rfl rfl, hT2.cell 1 rfl rfl, (hck _ hT2.below).1, (hck _ hT2.below).2.1, (hck _ hT2.below).2.2.1, (hck _ hT2.below).2.2.2⟩, ?_⟩
      clear hy hT1
      clear X1
      refine F21.next 50 (vi (sq2 ax ay bx by_)) fun a22 F22 => ?_
      clear F21 a21
      have hT3 : Tr w W (X2.alloc (.cells #[vi lo] 3)) [(X2.heap.size, .cells #[vi lo] 3 (0, 0)), (gh, .cells #[vi hi] 3 (0, 0)), (z, .cells #[iv f, iv s, vi lo, vi hi] 166 (0, 0))] := hT2.alloc (.cells #[vi lo] 3)
      refine tr_make f5_18 (.slice (some ⟨X2.heap.size, 0, none⟩) 1 1) (X2.alloc (.cells #[vi lo] 3)) (by kernel_rfl) rfl rfl ?_ ⟨hT3.cell 2 rfl rfl, hT3.cell 2 rfl rfl, hT3.cell 2 rfl rfl, hT3.cell 2 rfl rfl, (hck _ hT3.below).1, (hck _ hT3.below).2.1, (hck _ hT3.below).2.2.1, (hck _ hT3.below).2.2.2⟩ ?_; (focus (have e53 : a22.eval (.tmp 53) = (vi lo) := F22.ev 53 (by kernel_rfl); generalize a22.eval = ev at e53 ⊢; simp [go_sem, mkO, f5_18, e53, hu33]; done))
      replace hbw := hbw.alloc hbw.size (.cells #[vi lo] 3)
      obtain ⟨gl, hggl⟩ : ∃ b, X2.heap.size = b := ⟨_, rfl⟩
      simp only [hggl] at hT3 ⊢
      generalize X2.alloc (.cells #[vi lo] 3) = X3 at *
      clear hggl hT2
      clear X2
      refine F22.next 54 (.slice (some ⟨gl, 0, none⟩) 1 1) fun a23 F23 => ?_
      clear F22 a22
      refine tr_call f5_19 (f := 117) (args := #[.slice (some ⟨gl, 0, none⟩) 1 1]) (by kernel_rfl) rfl rfl ?_ ?_
      · (have e54 : a23.eval (.tmp 54) = (.slice (some ⟨gl, 0, none⟩) 1 1) := F23.ev 54 (by kernel_rfl); have ef : ∀ f, a23.eval (.func f) = .func (.func f) #[] #[] := fun _ => rfl; generalize a23.eval = ev at e54 ef ⊢; simp [go_sem, mkO, f5_19, ef, e54]; done)
      refine (squares117 (some ⟨gl, 0, none⟩) 1 [lo] (by simp) (fun m hm => by simp only [List.mem_singleton] at hm; omega) X3 (row_one (hT3.get 0 rfl))).mono ?_
      rintro e X4 ⟨rfl, hy⟩
      have hT4 := hT3.step hy
      replace hbw := hbw.trans (hy.mono hbw.size)
      refine .inl ⟨_, rfl, ⟨hT4.cell 2 rfl rfl, hT4.cell 2 rfl rfl, hT4.cell 2 rfl rfl, hT4.cell 2 rfl rfl, (hck _ hT4.below).1, (hck _ hT4.below).2.1, (hck _ hT4.below).2.2.1, (hck _ hT4.below).2.2.2⟩, ?_⟩
      clear hy hT3
      clear X3
      refine F23.next 55 (vi (sqs [lo])) fun a24 F24 => ?_
      clear F23 a23
      refine tr_call f5_24 (f := 117) (args := #[.slice (some ⟨gh, 0, none⟩) 1 1]) (by kernel_rfl) rfl rfl ?_ ?_
      · (have e59 : a24.eval (.tmp 59) = (.slice (some ⟨gh, 0, none⟩) 1 1) := F24.ev 59 (by kernel_rfl); have ef : ∀ f, a24.eval (.func f) = .func (.func f) #[] #[] := fun _ => rfl; generalize a24.eval = ev at e59 ef ⊢; simp [go_sem, mkO, f5_24, ef, e59]; done)
      refine (squares117 (some ⟨gh, 0, none⟩) 1 [hi] (by simp) (fun m hm => by simp only [List.mem_singleton] at hm; omega) X4 (row_one (hT4.get 1 rfl))).mono ?_
      rintro e X5 ⟨rfl, hy⟩
      have hT5 := hT4.step hy
      replace hbw := hbw.trans (hy.mono hbw.size)
      refine .inl ⟨_, rfl, ⟨hT5.cell 2 rfl rfl, hT5.cell 2 rfl rfl, hT5.cell 2 rfl rfl, hT5.cell 2 rfl rfl, (hck _ hT5.below).1, (hck _ hT5.below).2.1, (hck _ hT5.below).2.2.1, (hck _ hT5.below).2.2.2⟩, ?_⟩
      clear hy hT4
      clear X4
      refine F24.next 60 (vi (sqs [hi])) fun a25 F25 => ?_
      clear F24 a24
      refine tr_call f5_25 (f := 100) (args := #[vi (sq2 ax ay bx by_), vi (sqs [lo]), vi (sqs [hi])]) (by kernel_rfl) rfl rfl ?_ ?_
      · (have e50 : a25.eval (.tmp 50) = (vi (sq2 ax ay bx by_)) := F25.ev 50 (by kernel_rfl); have e55 : a25.eval (.tmp 55) = (vi (sqs [lo])) := F25.ev 55 (by kernel_rfl); have e60 : a25.eval (.tmp 60) = (vi (sqs [hi])) := F25.ev 60 (by kernel_rfl); have ef : ∀ f, a25.eval (.func f) = .func (.func f) #[] #[] := fun _ => rfl; generalize a25.eval = ev at e50 e55 e60 ef ⊢; simp [go_sem, mkO, f5_25, ef, e50, e55, e60]; done)
      refine (hwi X5).mono ?_
      rintro e X6 ⟨rfl, hy⟩
      have hT6 := hT5.step hy
      replace hbw := hbw.trans (hy.mono hbw.size)
      refine .inl ⟨_, rfl, ⟨hT6.cell 2 rfl rfl, hT6.cell 2 rfl rfl, hT6.cell 2 rfl rfl, hT6.cell 2 rfl rfl, (hck _ hT6.below).1, (hck _ hT6.below).2.1, (hck _ hT6.below).2.2.1, (hck _ hT6.below).2.2.2⟩, ?_⟩
      clear hy hT5
      clear X5
      refine F25.next 61 (.bool q) fun a26 F26 => ?_
      clear F25 a25
      refine tr_make f5_26 (.bool (!q)) _ (by kernel_rfl) rfl rfl ?_ ⟨hT6.cell 2 rfl rfl, hT6.cell 2 rfl rfl, hT6.cell 2 rfl rfl, hT6.cell 2 rfl rfl, (hck _ hT6.below).1, (hck _ hT6.below).2.1, (hck _ hT6.below).2.2.1, (hck _ hT6.below).2.2.2⟩ ?_; (focus (have hq := (show (fun W' : World => W'.cell? ⟨z, 0, none⟩ = some (iv f) ∧ W'.cell? ⟨z, 1, none⟩ = some (iv s) ∧ W'.cell? ⟨z, 2, none⟩ = some (vi lo) ∧ W'.cell? ⟨z, 3, none⟩ = some (vi hi) ∧ W'.cell? ⟨tb, f * 2, none⟩ = some (vi ax) ∧ W'.cell? ⟨tb, f * 2 + 1, none⟩ = some (vi ay) ∧ W'.cell? ⟨tb, s * 2, none⟩ = some (vi bx) ∧ W'.cell? ⟨tb, s * 2 + 1, none⟩ = some (vi by_)) X6 from ⟨hT6.cell 2 rfl rfl, hT6.cell 2 rfl rfl, hT6.cell 2 rfl rfl, hT6.cell 2 rfl rfl, (hck _ hT6.below).1, (hck _ hT6.below).2.1, (hck _ hT6.below).2.2.1, (hck _ hT6.below).2.2.2⟩); have e61 : a26.eval (.tmp 61) = (.bool q) := F26.ev 61 (by kernel_rfl); generalize a26.eval = ev at e61 ⊢; simp [go_sem, mkO, f5_26, e61]; done))
      refine F26.next 62 (.bool (!q)) fun a27 F27 => ?_
      clear F26 a26
      exact F27.out hQn hT6.keep ⟨hbw, (F27.fin [36, 37, 38, 39, 40, 41, 42, 43, 44, 45, 46, 47, 48, 49, 50, 51, 52, 53, 54, 55, 56, 57, 58, 59, 60, 61] (by kernel_rfl))⟩
    · have hT2 : Tr w W (X1.alloc (.cells #[vi lo] 3)) [(X1.heap.size, .cells #[vi lo] 3 (0, 0)), (gh, .cells #[vi hi] 3 (0, 0)), (z, .cells #[iv f, iv s, vi lo, vi hi] 166 (0, 0))] := hT1.alloc (.cells #[vi lo] 3)
      refine tr_make f5_18 (.slice (some ⟨X1.heap.size, 0, none⟩) 1 1) (X1.alloc (.cells #[vi lo] 3)) (by kernel_rfl) rfl rfl ?_ ⟨hT2.cell 2 rfl rfl, hT2.cell 2 rfl rfl, hT2.cell 2 rfl rfl, hT2.cell 2 rfl rfl, (hck _ hT2.below).1, (hck _ hT2.below).2.1, (hck _ hT2.below).2.2.1, (hck _ hT2.below).2.2.2⟩ ?_; (focus (have e53 : a21.eval (.tmp 53) = (vi lo) := F21.ev 53 (by kernel_rfl); generalize a21.eval = ev at e53 ⊢; simp [go_sem, mkO, f5_18, e53, hu33]; done))
      replace hbw := hbw.alloc hbw.size (.cells #[vi lo] 3)
      obtain ⟨gl, hggl⟩ : ∃ b, X1.heap.size = b := ⟨_, rfl⟩
      simp only [hggl] at hT2 ⊢
      generalize X1.alloc (.cells #[vi lo] 3) = X2 at *
      clear hggl hT1
      clear X1
      refine F21.next 54 (.slice (some ⟨gl, 0, none⟩) 1 1) fun a22 F22 => ?_
      clear F21 a21
      refine tr_call f5_14 (f := 116) (args := #[.agg #[vi ax, vi ay], .agg #[vi bx, vi by_]]) (by kernel_rfl) rfl rfl ?_ ?_
      · (have e42 : a22.eval (.tmp 42) = (.agg #[vi ax, vi ay]) := F22.ev 42 (by kernel_rfl); have e49 : a22.eval (.tmp 49) = (.agg #[vi bx, vi by_]) := F22.ev 49 (by kernel_rfl); have ef : ∀ f, a22.eval (.func f) = .func (.func f) #[] #[] := fun _ => rfl; generalize a22.eval = ev at e42 e49 ef ⊢; simp [go_sem, mkO, f5_14, ef, e42, e49]; done)
      refine (square116 ax ay bx by_ hxy X2).mono ?_
      rintro e X3 ⟨rfl, hy⟩
      have hT3 := hT2.step hy
      replace hbw := hbw.trans (hy.mono hbw.size)
      refine .inl ⟨_, rfl, ⟨hT3.cell 2 rfl rfl, hT3.cell 2 rfl rfl, hT3.cell 2 rfl rfl, hT3.cell 2 rfl rfl, (hck _ hT3.below).1, (hck _ hT3.below).2.1, (hck _ hT3.below).2.2.1, (hck _ hT3.below).2.2.2⟩, ?_⟩
      clear hy hT2
      clear X2
      refine F22.next 50 (vi (sq2 ax ay bx by_)) fun a23 F23 => ?_
      clear F22 a22
      refine tr_call f5_19 (f := 117) (args := #[.slice (some ⟨gl, 0, none⟩) 1 1]) (by kernel_rfl) rfl rfl ?_ ?_
      · (have e54 : a23.eval (.tmp 54) = (.slice (some ⟨gl, 0, none⟩) 1 1) := F23.ev 54 (by kernel_rfl); have ef : ∀ f, a23.eval (.func f) = .func (.func f) #[] #[] := fun _ => rfl; generalize a23.eval = ev at e54 ef ⊢; simp [go_sem, mkO, f5_19, ef, e54]; done)
      refine (squares117 (some ⟨gl, 0, none⟩) 1 [lo] (by simp) (fun m hm => by simp only [List.mem_singleton] at hm; omega) X3 (row_one (hT3.get 0 rfl))).mono ?_
      rintro e X4 ⟨rfl, hy⟩
      have hT4 := hT3.step hy
      replace hbw := hbw.trans (hy.mono hbw.size)
      refine .inl ⟨_, rfl, ⟨hT4.cell 2 rfl rfl, hT4.cell 2 rfl rfl, hT4.cell 2 rfl rfl, hT4.cell 2 rfl rfl, (hck _ hT4.below).1, (hck _ hT4.below).2.1, (hck _ hT4.below).2.2.1, (hck _ hT4.below).2.2.2⟩, ?_⟩
      clear hy hT3
      clear X3
      refine F23.next 55 (vi (sqs [lo])) fun a24 F24 => ?_
      clear F23 a23
      refine tr_call f5_24 (f := 117) (args := #[.slice (some ⟨gh, 0, none⟩) 1 1]) (by kernel_rfl) rfl rfl ?_ ?_
      · (have e59 : a24.eval (.tmp 59) = (.slice (some ⟨gh, 0, none⟩) 1 1) := F24.ev 59 (by kernel_rfl); have ef : ∀ f, a24.eval (.func f) = .func (.func f) #[] #[] := fun _ => rfl; generalize a24.eval = ev at e59 ef ⊢; simp [go_sem, mkO, f5_24, ef, e59]; done)
      refine (squares117 (some ⟨gh, 0, none⟩) 1 [hi] (by simp) (fun m hm => by simp only [List.mem_singleton] at hm; omega) X4 (row_one (hT4.get 1 rfl))).mono ?_
      rintro e X5 ⟨rfl, hy⟩
      have hT5 := hT4.step hy
      replace hbw := hbw.trans (hy.mono hbw.size)
      refine .inl ⟨_, rfl, ⟨hT5.cell 2 rfl rfl, hT5.cell 2 rfl rfl, hT5.cell 2 rfl rfl, hT5.cell 2 rfl rfl, (hck _ hT5.below).1, (hck _ hT5.below).2.1, (hck _ hT5.below).2.2.1, (hck _ hT5.below).2.2.2⟩, ?_⟩
      clear hy hT4
      clear X4
      refine F24.next 60 (vi (sqs [hi])) fun a25 F25 => ?_
      clear F24 a24
      refine tr_call f5_25 (f := 100) (args := #[vi (sq2 ax ay bx by_), vi (sqs [lo]), vi (sqs [hi])]) (by kernel_rfl) rfl rfl ?_ ?_
      · (have e50 : a25.eval (.tmp 50) = (vi (sq2 ax ay bx by_)) := F25.ev 50 (by kernel_rfl); have e55 : a25.eval (.tmp 55) = (vi (sqs [lo])) := F25.ev 55 (by kernel_rfl); have e60 : a25.eval (.tmp 60) = (vi (sqs [hi])) := F25.ev 60 (by kernel_rfl); have ef : ∀ f, a25.eval (.func f) = .func (.func f) #[] #[] := fun _ => rfl; generalize a25.eval = ev at e50 e55 e60 ef ⊢; simp [go_sem, mkO, f5_25, ef, e50, e55, e60]; done)
      refine (hwi X5).mono ?_
      rintro e X6 ⟨rfl, hy⟩
      have hT6 := hT5.step hy
      replace hbw := hbw.trans (hy.mono hbw.size)
      refine .inl ⟨_, rfl, ⟨hT6.cell 2 rfl rfl, hT6.cell 2 rfl rfl, hT6.cell 2 rfl rfl, hT6.cell 2 rfl rfl, (hck _ hT6.below).1, (hck _ hT6.below).2.1, (hck _ hT6.below).2.2.1, (hck _ hT6.below).2.2.2⟩, ?_⟩
      clear hy hT5
      clear X5
      refine F25.next 61 (.bool q) fun a26 F26 => ?_
      clear F25 a25
      refine tr_make f5_26 (.bool (!q)) _ (by kernel_rfl) rfl rfl ?_ ⟨hT6.cell 2 rfl rfl, hT6.cell 2 rfl rfl, hT6.cell 2 rfl rfl, hT6.cell 2 rfl rfl, (hck _ hT6.below).1, (hck _ hT6.below).2.1, (hck _ hT6.below).2.2.1, (hck _ hT6.below).2.2.2⟩ ?_; (focus (have hq := (show (fun W' : World => W'.cell? ⟨z, 0, none⟩ = some (iv f) ∧ W'.cell? ⟨z, 1, none⟩ = some (iv s) ∧ W'.cell? ⟨z, 2, none⟩ = some (vi lo) ∧ W'.cell? ⟨z, 3, none⟩ = some (vi hi) ∧ W'.cell? ⟨tb, f * 2, none⟩ = some (vi ax) ∧ W'.cell? ⟨tb, f * 2 + 1, none⟩ = some (vi ay) ∧ W'.cell? ⟨tb, s * 2, none⟩ = some (vi bx) ∧ W'.cell? ⟨tb, s * 2 + 1, none⟩ = some (vi by_)) X6 from ⟨hT6.cell 2 rfl rfl, hT6.cell 2 rfl rfl, hT6.cell 2 rfl rfl, hT6.cell 2 rfl rfl, (hck _ hT6.below).1, (hck _ hT6.below).2.1, (hck _ hT6.below).2.2.1, (hck _ hT6.below).2.2.2⟩); have e61 : a26.eval (.tmp 61) = (.bool q) := F26.ev 61 (by kernel_rfl); generalize a26.eval = ev at e61 ⊢; simp [go_sem, mkO, f5_26, e61]; done))
      refine F26.next 62 (.bool (!q)) fun a27 F27 => ?_
      clear F26 a26
      exact F27.out hQn hT6.keep ⟨hbw, (F27.fin [36, 37, 38, 39, 40, 41, 42, 43, 44, 45, 46, 47, 48, 49, 50, 51, 52, 53, 54, 55, 56, 57, 58, 59, 60, 61] (by kernel_rfl))⟩
end Go.Proofs.Ytafmgmaelnpehaa.Tp
end

section
namespace Go.Proofs.Ytafmgmaelnpehaa.Tp
open Go.RowKit Go.TL Go.Shelf
attribute [local go_sem] Oper.semAt_some
attribute [local go_sem] run_store_func
theorem bit_all : ∀ n, n ≤ 6 → ∀ k, k < n → bits .and .u64 (((2 ^ n - 1 : Nat) : Int) / (2 : Int) ^ k) 1 = 1 := by
  intro n hn k hk
  have h : ∀ n : Fin 7, ∀ k : Fin 7, k.1 < n.1 → bits .and .u64 (((2 ^ n.1 - 1 : Nat) : Int) / (2 : Int) ^ k.1) 1 = 1 := by decide
  exact h ⟨n, by omega⟩ ⟨k, by omega⟩ hk
def FtI (w : World) (a : Pg) (pb tb N peg : Nat) (T : List Int) (m : Nat) (t : Array Value) (W : World) : Prop :=
  ∃ k : Nat, k ≤ a.L.length ∧ m = a.L.length - k ∧ (∀ l ∈ a.L.take k, lenV T peg l = true) ∧ Below w.heap.size w W ∧ Slots [some (.pointer (some ⟨pb, 0, none⟩)), some (.int .u64 ((N : Nat) : Int)), some (.pointer (some ⟨tb, 0, none⟩)), some (iv peg), none, none, none, none, none, none, none, none, none, none, none, some (.slice a.AL a.L.length a.cL), some (iv a.L.length), some (iv k), none, none, none, none, none, none, none, none, none, none, none, none, none, none, none, none, none, none, none, none, none, none, none, none, none, none, none, none, none, none, none, none, none, none, none, none, none, none, none, none, none, none, none, none, none, none] t
structure TOk (T : List Int) : Prop where
  len : T.length = 9
  b : ∀ i, i < 8 → 0 ≤ T.getD i 0 ∧ T.getD i 0 ≤ 100
theorem T_cell {W : World} {tb : Nat} {T : List Int} (hT : TOk T) (h : W.heap[tb]? = some (.cells (T.map vi).toArray 116 (0, 0))) {i : Nat} (hi : i < 9) : W.cell? ⟨tb, i, none⟩ = some (vi (T.getD i 0)) := by
  have hl := hT.len
  refine cells_get h ?_
  rw [List.getElem?_map, List.getElem?_eq_getElem (by omega), List.getD_eq_getElem?_getD, List.getElem?_eq_getElem (by omega)]
  rfl
set_option maxRecDepth 100000 in
set_option maxHeartbeats 2000000 in
theorem fits113 (a : Pg) (ho : a.Ok) (T : List Int) (hT : TOk T) (pb tb peg : Nat) (A : Option Addr) (c : Nat) (w : World) (hb : w.heap[pb]? = some (.cells #[vi a.side, a.sP, a.sL, .slice A a.P.length c] 153 (0, 0))) (hL : RowQ w a.AL a.L) (ht : w.heap[tb]? = some (.cells (T.map vi).toArray 116 (0, 0))) : Calls Try.prog 113 #[.pointer (some ⟨pb, 0, none⟩), .int .u64 ((2 ^ a.L.length - 1 : Nat) : Int), .pointer (some ⟨tb, 0, none⟩), iv peg] w fun e w' => e = .returned (.bool (fitsV a.L T peg)) ∧ Below w.heap.size w w' := by
  have hu153 := Try.underlying153
  have hu68 := Try.underlying68
  have hu66 := Try.underlying66
  have hu166 := Try.underlying166
  have hl6 := ho.ll
  have hbits := bit_all a.L.length hl6
  obtain ⟨N, hN⟩ : ∃ N, 2 ^ a.L.length - 1 = N := ⟨_, rfl⟩
  rw [hN] at hbits ⊢
  clear hN
  obtain ⟨R, hR⟩ : ∃ R, fitsV a.L T peg = R := ⟨_, rfl⟩
  rw [hR]
  have HR := Lib.hid hR
  clear hR
  have c2 := cells_get (cs := [_, _, _, _]) (k := 2) hb rfl
  simp only [Pg.sL] at c2
  refine calls_of_exec Try.func113 rfl ?_
  simp only [Try.ntmps113, List.size_toArray, List.length_cons, List.length_nil, Nat.reduceAdd, Nat.reduceSub, Array.replicate_succ, Array.replicate_zero, List.push_toArray, List.append_toArray, List.nil_append, List.cons_append]
  refine exec_seq (exec_region_o fun ds => ?_)
  gi_wp2
  refine eq_mk (Keep.refl _) ?_
  show Exec _ _ (Code.seq (Code.seq _ _) _) _ _ _
  refine exec_seq (exec_seq (exec_region_o fun ds => ?_))
  gi_wp2
  refine eq_mk (Keep.refl _) ?_
  clear c2
  show Exec _ _ (Code.block _ _) _ _ _
  refine exec_block ?_
  refine exec_loop (FtI w a pb tb N peg T) a.L.length ⟨0, by omega, rfl, fun l hl => by simp at hl, Below.refl _ _, by simp [Slots, Fits]⟩ ?_
  rintro m t W ⟨k, hk, hm, hall, hB, hSl⟩
  have HM := Lib.hid hm
  have HALL := Lib.hid hall
  have HBT := Lib.hid hbits
  clear hm hall hbits
  obtain ⟨x, hx⟩ := Slots.open_ hSl; simp only [fill, Nat.reduceAdd] at hx; subst hx; clear hSl
  show Exec _ _ (Code.seq _ (Code.seq _ _)) _ _ _
  refine exec_seq (exec_region_o fun ds => ?_)
  gi_wp2
  refine eq_mk (Keep.refl _) ?_
  show Exec _ _ (Code.seq (Code.cond _ _ _) _) _ _ _
  refine exec_seq (exec_cond (b := decide (k < a.L.length)) (by first | rfl | (show Value.bool _ = _; congr 1; exact decide_eq_decide.2 (by omega))) (fun hp => exec_skip ?_) (fun hp => exec_exit ?_))
  · have hkl : k < a.L.length := of_decide_eq_true hp
    have hkI : (k : Int) < a.L.length := by omega
    have hpk : a.L[k]? = some a.L[k] := List.getElem?_eq_getElem hkl
    have hokl := ho.ls _ (List.getElem_mem hkl)
    obtain ⟨ad, hA, c0, c1, c2, c3⟩ := (hL.below hB) k _ hpk
    have hnx : lenV T peg a.L[k] = true → ∀ l ∈ a.L.take (k + 1), lenV T peg l = true := fun h l hl => by
      rw [List.take_succ_eq_append_getElem hkl] at hl
      rcases List.mem_append.1 hl with h2 | h2
      · exact HALL.out l h2
      · rw [List.mem_singleton.1 h2]; exact h
    have hno : lenV T peg a.L[k] = false → R = false := fun h => by
      rw [← HR.out]
      exact List.all_eq_false.2 ⟨_, List.getElem_mem hkl, by rw [h]; simp⟩
    generalize a.L[k] = p at *
    obtain ⟨f, s, lo, hi⟩ := p
    have hb30 := hokl.h30
    have hblo := hokl.lo
    have hbhi := hokl.hi
    obtain ⟨f, rfl⟩ : ∃ n : Nat, f = n := ⟨f.toNat, by have := hokl.a0; simp only at this; omega⟩
    obtain ⟨s, rfl⟩ : ∃ n : Nat, s = n := ⟨s.toNat, by have := hokl.b0; simp only at this; omega⟩
    have hp4 := ho.pl
    have hf4 : f < 4 := by have := hokl.a1; simp only at this; omega
    have hs4 : s < 4 := by have := hokl.b1; simp only at this; omega
    simp only at c0 c1 c2 c3 hb30 hblo hbhi
    simp only [hA]
    have HA := Lib.hid hA
    have HNX := Lib.hid hnx
    have HNO := Lib.hid hno
    clear hA hnx hno hp hpk hokl
    have hend : ∀ Y, Below w.heap.size w Y → lenV T peg ((f : Int), (s : Int), lo, hi) = true → ∀ t, Slots [some (.pointer (some ⟨pb, 0, none⟩)), some (.int .u64 ((N : Nat) : Int)), some (.pointer (some ⟨tb, 0, none⟩)), some (iv peg), none, none, none, none, none, none, none, none, none, none, none, some (.slice a.AL a.L.length a.cL), some (iv a.L.length), some (iv k), none, none, none, none, none, none, none, none, none, none, none, none, none, none, none, none, none, none, none, none, none, none, none, none, none, none, none, none, none, none, none, none, none, none, none, none, none, none, none, none, none, none, none, none, none, none] t → Exec Try.prog none (sub (Try.f113.body.getD .skip) [1, 0, 1, 0, 0, 1, 1, 1]) t Y (fun e t' W' => e = .normal ∧ ∃ m', m' < m ∧ FtI w a pb tb N peg T m' t' W') := by
      intro Y hBY hv t hSl
      have hw : IntKind.i64.wrap ((k : Int) + 1) = ((k + 1 : Nat) : Int) := by rw [IntWalk.i64_in _ (by omega)]; norm_cast
      clear c0 c1 c2 c3
      obtain ⟨x, hx⟩ := Slots.open_ hSl; simp only [fill, Nat.reduceAdd] at hx; subst hx; clear hSl
      show Exec _ _ (Code.region _ _ _) _ _ _
      refine exec_region_o fun ds => ?_
      gi_wp2
      refine eq_mk (Keep.refl _) ?_
      exact ⟨rfl, m - 1, by have := HM.out; omega, k + 1, by omega, by have := HM.out; omega, HNX.out hv, hBY, by simp [Slots, Fits]; try omega⟩
    have HEND := Lib.hid hend
    clear hend
    have hbt := HBT.out k hkl
    show Exec _ _ (Code.seq (Code.block _ _) _) _ _ _
    refine exec_seq (exec_block (exec_seq (exec_region_o fun ds => ?_)))
    gi_wp2
    refine eq_mk ((Keep.refl _).alloc _) ?_
    show Exec _ _ (Code.seq _ _) _ (W.alloc (.cells #[iv f, iv s, vi lo, vi hi] 166)) _
    have hal := (Below.refl W.heap.size W).alloc (Nat.le_refl _) (.cells #[iv f, iv s, vi lo, vi hi] 166)
    have hz : (W.alloc (.cells #[iv f, iv s, vi lo, vi hi] 166)).heap[W.heap.size]? = some (.cells #[iv f, iv s, vi lo, vi hi] 166 (0, 0)) := World.alloc_heap_new _ _
    have hBX := hB.trans (hal.mono hB.size)
    have hzw : w.heap.size ≤ W.heap.size := hB.size
    clear c0 c1 c2 c3 hal hB
    generalize W.alloc (.cells #[iv f, iv s, vi lo, vi hi] 166) = X at *
    generalize W.heap.size = z at *
    clear W
    have d0 := cells_get (cs := [_, _, _, _]) (k := 0) hz rfl
    have d1 := cells_get (cs := [_, _, _, _]) (k := 1) hz rfl
    refine exec_seq (exec_seq (exec_region_o fun ds => ?_))
    have hv1 : max (f : Int) (s : Int) ≠ (peg : Int) → lenV T peg ((f : Int), (s : Int), lo, hi) = true := fun h => by
      unfold lenV
      rw [decide_eq_true h]
      rfl
    have HNE := Lib.hid hv1
    clear hv1
    have HGO : RowKit.Hid (∀ Q : Exit → Array Value → World → Prop, (∀ Y t, Below w.heap.size w Y → lenV T peg ((f : Int), (s : Int), lo, hi) = true → Slots [some (.pointer (some ⟨pb, 0, none⟩)), some (.int .u64 ((N : Nat) : Int)), some (.pointer (some ⟨tb, 0, none⟩)), some (iv peg), none, none, none, none, none, none, none, none, none, none, none, some (.slice a.AL a.L.length a.cL), some (iv a.L.length), some (iv k), none, none, none, none, none, none, none, none, none, none, none, none, none, none, none, none, none, none, none, none, none, none, none, none, none, none, none, none, none, none, none, none, none, none, none, none, none, none, none, none, none, none, none, none, none, none] t → Q .normal t Y) → (∀ Y t, Below w.heap.size w Y → R = false → Slots [none, none, none, none, none, none, none, none, some (.bool false), none, none, none, none, none, none, none, none, none, none, none, none, none, none, none, none, none, none, none, none, none, none, none, none, none, none, none, none, none, none, none, none, none, none, none, none, none, none, none, none, none, none, none, none, none, none, none, none, none, none, none, none, none, none, none] t → Q .ret t Y) → ¬ max (f : Int) (s : Int) ≠ (peg : Int) → ∀ t, Slots [some (.pointer (some ⟨pb, 0, none⟩)), some (.int .u64 ((N : Nat) : Int)), some (.pointer (some ⟨tb, 0, none⟩)), some (iv peg), none, none, none, none, none, some (iv k), some (.pointer (some ⟨z, 0, none⟩)), none, none, none, none, some (.slice a.AL a.L.length a.cL), some (iv a.L.length), some (iv k), none, none, none, none, none, none, none, none, none, none, none, none, none, none, none, none, none, none, none, none, none, none, none, none, none, none, none, none, none, none, none, none, none, none, none, none, none, none, none, none, none, none, none, none, none, none] t → Exec Try.prog none (sub (Try.f113.body.getD .skip) [1, 0, 1, 0, 0, 1, 1, 0, 0, 1, 1]) t X Q) := Lib.hid (by
      intro Q hQ1 hQ2 hmx t hSl
      obtain ⟨q, hq⟩ : ∃ q, inB (sq2 (T.getD (f * 2) 0) (T.getD (f * 2 + 1) 0) (T.getD (s * 2) 0) (T.getD (s * 2 + 1) 0)) (sqs [lo]) (sqs [hi]) = q := ⟨_, rfl⟩
      have hvq : lenV T peg ((f : Int), (s : Int), lo, hi) = q := by
        rw [← hq]
        unfold lenV
        rw [decide_eq_false hmx, Bool.false_or]
        rfl
      have hTb := hT.b
      refine exec_seq ((fits_r5 (w := w) (W := X) (a := a) (pb := pb) (tb := tb) (z := z) (N := N) (peg := peg) (k := k) (f := f) (s := s) hf4 hs4 ⟨hTb _ (by omega), hTb _ (by omega), hTb _ (by omega), hTb _ (by omega)⟩ ⟨hblo, by omega⟩ ⟨by omega, by omega⟩ hq (fun Y hY => by
        have htY := (hY.block _ (heap_lt ht)).trans ht
        exact ⟨T_cell hT htY (by omega), T_cell hT htY (by omega), T_cell hT htY (by omega), T_cell hT htY (by omega)⟩) ⟨hBX, Keep.refl _, fun p hp => by
        rw [List.mem_singleton.1 hp]
        exact hzw, fun p hp => by
        rw [List.mem_singleton.1 hp]
        exact hz, by simp⟩ hSl).mono ?_)
      intro e t' Y hh
      obtain ⟨rfl, hXY, hSl'⟩ := only_normal hh
      have hBY := hBX.trans (hXY.mono hBX.size)
      clear hh hSl d0 d1
      obtain ⟨x, hx⟩ := Slots.open_ hSl'; simp only [fill, Nat.reduceAdd] at hx; subst hx; clear hSl'
      show Exec _ _ (Code.cond _ _ _) _ _ _
      cases q with
      | true =>
        refine exec_cond (b := false) rfl (fun h => by cases h) (fun _ => exec_skip ?_)
        exact hQ1 Y _ hBY hvq (by simp [Slots, Fits])
      | false =>
        refine exec_cond (b := true) rfl (fun _ => ?_) (fun h => by cases h)
        have hR := HNO.out hvq
        show Exec _ _ (Code.seq _ _) _ _ _
        refine exec_seq (exec_region_o fun ds => ?_)
        gi_wp2
        refine eq_mk (Keep.refl _) ?_
        exact exec_ret (hQ2 Y _ hBY hR (by simp [Slots, Fits])))
    rcases Nat.lt_or_ge f s with hfs | hfs
    · have hfsI : (f : Int) < (s : Int) := by omega
      have hmx : max (f : Int) (s : Int) = (s : Int) := by omega
      by_cases hpe : s = peg
      · subst hpe
        gi_wp2
        refine eq_mk (Keep.refl _) ?_
        clear d0 d1
        show Exec _ _ (Code.cond _ _ _) _ _ _
        refine exec_cond (b := false) rfl (fun h => by cases h) (fun _ => exec_skip ?_)
        refine HGO.out _ (fun Y t hBY hv hSl => ?_) (fun Y t hBY hR hSl => by
          obtain ⟨x, hx⟩ := Slots.open_ hSl; simp only [fill, Nat.reduceAdd] at hx; subst hx; clear hSl
          exact ⟨.inr rfl, fun W' hG => ⟨.bool false, by simp [results, Try.f113, go_sem], by rw [hR], hBY.trans (hG.below (Nat.le_refl _) hBY.size)⟩⟩) (fun h => by rw [hmx] at h; exact absurd rfl h) _ (by simp [Slots, Fits, HA.out])
        show Exec Try.prog none (sub (Try.f113.body.getD .skip) [1, 0, 1, 0, 0, 1, 1, 1]) _ _ _
        refine (HEND.out Y hBY hv _ hSl).mono ?_
        rintro e t W ⟨rfl, h⟩
        exact h
      · have hpeI : ¬ (s : Int) = (peg : Int) := by omega
        gi_wp2
        refine eq_mk (Keep.refl _) ?_
        clear d0 d1
        show Exec _ _ (Code.cond _ _ _) _ _ _
        refine exec_cond (b := true) (congrArg Value.bool (bne_iff_ne.2 hpeI)) (fun _ => exec_exit ?_) (fun h => by cases h)
        show Exec Try.prog none (sub (Try.f113.body.getD .skip) [1, 0, 1, 0, 0, 1, 1, 1]) _ _ _
        refine (HEND.out X hBX (HNE.out (by rw [hmx]; exact hpeI)) _ (by simp [Slots, Fits, HA.out])).mono ?_
        rintro e t W ⟨rfl, h⟩
        exact h
    · have hfsI : ¬ (f : Int) < (s : Int) := by omega
      have hmx : max (f : Int) (s : Int) = (f : Int) := by omega
      by_cases hpe : f = peg
      · subst hpe
        gi_wp2
        refine eq_mk (Keep.refl _) ?_
        clear d0 d1
        show Exec _ _ (Code.cond _ _ _) _ _ _
        refine exec_cond (b := false) rfl (fun h => by cases h) (fun _ => exec_skip ?_)
        refine HGO.out _ (fun Y t hBY hv hSl => ?_) (fun Y t hBY hR hSl => by
          obtain ⟨x, hx⟩ := Slots.open_ hSl; simp only [fill, Nat.reduceAdd] at hx; subst hx; clear hSl
          exact ⟨.inr rfl, fun W' hG => ⟨.bool false, by simp [results, Try.f113, go_sem], by rw [hR], hBY.trans (hG.below (Nat.le_refl _) hBY.size)⟩⟩) (fun h => by rw [hmx] at h; exact absurd rfl h) _ (by simp [Slots, Fits, HA.out])
        show Exec Try.prog none (sub (Try.f113.body.getD .skip) [1, 0, 1, 0, 0, 1, 1, 1]) _ _ _
        refine (HEND.out Y hBY hv _ hSl).mono ?_
        rintro e t W ⟨rfl, h⟩
        exact h
      · have hpeI : ¬ (f : Int) = (peg : Int) := by omega
        gi_wp2
        refine eq_mk (Keep.refl _) ?_
        clear d0 d1
        show Exec _ _ (Code.cond _ _ _) _ _ _
        refine exec_cond (b := true) (congrArg Value.bool (bne_iff_ne.2 hpeI)) (fun _ => exec_exit ?_) (fun h => by cases h)
        show Exec Try.prog none (sub (Try.f113.body.getD .skip) [1, 0, 1, 0, 0, 1, 1, 1]) _ _ _
        refine (HEND.out X hBX (HNE.out (by rw [hmx]; exact hpeI)) _ (by simp [Slots, Fits, HA.out])).mono ?_
        rintro e t W ⟨rfl, h⟩
        exact h
  · have hkl : k = a.L.length := by have := of_decide_eq_false hp; omega
    have hR : R = true := by
      rw [← HR.out]
      refine List.all_eq_true.2 fun l hl => HALL.out l ?_
      rw [hkl, List.take_length]
      exact hl
    show Exec _ _ (Code.seq _ _) _ _ _
    refine exec_seq (exec_region_o fun ds => ?_)
    gi_wp2
    refine eq_mk (Keep.refl _) ?_
    exact exec_ret ⟨.inr rfl, fun W' hG => ⟨.bool true, by simp [results, Try.f113, go_sem], by rw [hR], hB.trans (hG.below (Nat.le_refl _) hB.size)⟩⟩
end Go.Proofs.Ytafmgmaelnpehaa.Tp
end

section
namespace Go.TL
open Go.RowKit Go.Shelf
def FQ (ds : List Deferred) (Q : Exit → Array Value → World → Prop) : Exit → Act → World → Prop := fun e a W => a.defers = ds ∧ Q e a.tmps W
def Fx (P : Program) (c : Code) (t : Array Value) (w : World) (Q : Exit → Array Value → World → Prop) : Prop :=
  ∀ ds, c.wpIn Fence.wide 0 P (FQ ds Q) { tmps := t, defers := ds } w
section
variable {P : Program} {Q : Exit → Array Value → World → Prop} {t : Array Value} {w : World}
theorem Fx.mono {c : Code} {Q' : Exit → Array Value → World → Prop} (h : Fx P c t w Q) (hq : ∀ e t W, Q e t W → Q' e t W) : Fx P c t w Q' :=
  fun ds => wpIn_mono (h ds) fun e _ W ⟨k, q⟩ => ⟨k, hq e _ W q⟩
theorem fq_mk {ds : List Deferred} {e : Exit} {W : World} (h : Q e t W) : FQ ds Q e { tmps := t, defers := ds } W := ⟨rfl, h⟩
theorem fx_region {c : Code} (h : ∀ ds, c.wpIn Fence.wide 0 P (FQ ds Q) { tmps := t, defers := ds } w) : Fx P c t w Q := h
theorem fx_seq {x y : Code} (h : Fx P x t w (andThen (fun t' W => Fx P y t' W Q) Q)) : Fx P (.seq x y) t w Q := by
  intro ds
  refine wpIn_seq (wpIn_mono (h ds) ?_)
  rintro e a W ⟨hd, q⟩
  cases e with
  | normal =>
    show y.wpIn Fence.wide 0 P _ a W
    have h2 := (show Fx P y a.tmps W Q from q) ds
    rw [show a = { tmps := a.tmps, defers := ds } from by rw [← hd]]
    exact h2
  | exit id => exact ⟨hd, q⟩
  | goto l => exact ⟨hd, q⟩
  | ret => exact ⟨hd, q⟩
  | panic ch => exact ⟨hd, q⟩
  | outgrown => exact ⟨hd, q⟩
theorem fx_skip (h : Q .normal t w) : Fx P .skip t w Q := fun _ => wpIn_skip ⟨rfl, h⟩
theorem fx_label {l : Nat} (h : Q .normal t w) : Fx P (.label l) t w Q := fun _ => wpIn_label ⟨rfl, h⟩
theorem fx_exit {id : Nat} (h : Q (.exit id) t w) : Fx P (.exit id) t w Q := fun _ => wpIn_exit ⟨rfl, h⟩
theorem fx_ret (h : Q .ret t w) : Fx P .ret t w Q := fun _ => wpIn_ret ⟨rfl, h⟩
theorem fx_cond {c : Operand} {x y : Code} {b : Bool} (hb : ev t c = .bool b) (h1 : b = true → Fx P x t w Q) (h2 : b = false → Fx P y t w Q) : Fx P (.cond c x y) t w Q := fun ds =>
  wpIn_cond_split (t := b) (by rw [ev_eq]; exact hb) (fun e => h1 e ds) (fun e => h2 e ds)
theorem fx_block {id : Nat} {c : Code} (h : Fx P c t w (inBlk id Q)) : Fx P (.block id c) t w Q := by
  intro ds
  refine wpIn_block (wpIn_mono (h ds) ?_)
  rintro e _ W ⟨k, q⟩
  cases e with
  | exit id' =>
    simp only [inBlk] at q
    simp only [Exit.inBlock]
    split
    · rename_i h; rw [if_pos h] at q; exact ⟨k, q⟩
    · rename_i h; rw [if_neg h] at q; exact ⟨k, q⟩
  | normal => exact ⟨k, q⟩
  | goto l => exact ⟨k, q⟩
  | ret => exact ⟨k, q⟩
  | panic ch => exact ⟨k, q⟩
  | outgrown => exact ⟨k, q⟩
theorem fx_loop {c : Code} (I : Nat → Array Value → World → Prop) (n : Nat) (h0 : I n t w)
    (round : ∀ n t W, I n t W → Fx P c t W (andThen (fun t' W' => ∃ m, m < n ∧ I m t' W') Q)) : Fx P (.loop c) t w Q := by
  intro ds
  let J : Act → World → Prop := fun a W => a.defers = ds ∧ ∃ n, I n a.tmps W
  classical
  let μ : Act → World → Nat := fun a W => if h : ∃ n, I n a.tmps W then Classical.choose (least h) else 0
  refine wpIn_loop J μ ⟨rfl, n, h0⟩ ?_
  rintro a W ⟨hd, hn⟩
  have hI := (Classical.choose_spec (least hn)).1
  have h2 := round _ _ _ hI ds
  rw [show a = { tmps := a.tmps, defers := ds } from by rw [← hd]]
  refine wpIn_mono h2 ?_
  rintro e b V ⟨hd2, q2⟩
  cases e with
  | normal =>
    obtain ⟨m, hlt, hm'⟩ := q2
    refine ⟨⟨hd2, m, hm'⟩, ?_⟩
    have e1 : μ b V ≤ m := by
      show (if h : ∃ n, I n b.tmps V then Classical.choose (least h) else 0) ≤ m
      rw [dif_pos ⟨m, hm'⟩]
      exact (Classical.choose_spec (least ⟨m, hm'⟩)).2 m hm'
    have e2 : μ { tmps := a.tmps, defers := ds } W = Classical.choose (least hn) := by
      show (if h : ∃ n, I n a.tmps W then Classical.choose (least h) else 0) = _
      rw [dif_pos hn]
    omega
  | exit id => exact ⟨hd2, q2⟩
  | goto l => exact ⟨hd2, q2⟩
  | ret => exact ⟨hd2, q2⟩
  | panic ch => exact ⟨hd2, q2⟩
  | outgrown => exact ⟨hd2, q2⟩
theorem fx_scope {c : Code} (h : Fx P c t w (noJump Q)) : Fx P (.scope c) t w Q := by
  intro ds b k cs hro hb hr
  have s1 : step P (lone (b.atR { tmps := t, defers := ds } (.code (.scope c) :: k)) cs w) = .next (lone (b.atR { tmps := t, defers := ds } (.code c :: .inScope c :: k)) cs w) := step_lone_go (by simp [stepG, stepG.exec, Frame.atR])
  have h0 : (lone (b.atR { tmps := t, defers := ds } (.code (.scope c) :: k)) cs w).fenced P Fence.wide := fenced_calm hb hr rfl
  obtain ⟨e, a₁, w₁, ⟨hd, hq⟩, harr⟩ := h ds b (.inScope c :: k) cs hro hb hr
  have s2 : ∀ a w, step P (lone (b.atR a (.inScope c :: k)) cs w) = .next (lone (b.atR a k) cs w) := fun a w => step_lone_go (by simp [stepG, stepG.exec, Frame.atR])
  have hx : ∀ id, exitTo id (.inScope c :: k) = exitTo id k := fun id => by simp [exitTo]
  cases e with
  | normal => exact ⟨.normal, a₁, w₁, ⟨hd, hq⟩, .head h0 s1 (StepsIn.trans harr (.one (fenced_calm hb hr rfl) (s2 _ _)))⟩
  | exit id => exact ⟨.exit id, a₁, w₁, ⟨hd, hq⟩, fun k' hk' => .head h0 s1 (harr.1 k' (by rw [hx]; exact hk')), fun hr' hk' => let ⟨k₁, h1, h2⟩ := harr.2 hr' (by rw [hx]; exact hk'); ⟨k₁, h1, .head h0 s1 h2⟩⟩
  | goto l => exact hq.elim
  | ret => exact ⟨_, a₁, w₁, ⟨hd, hq⟩, .of_steps (.one h0 s1) harr⟩
  | panic ch => exact ⟨_, a₁, w₁, ⟨hd, hq⟩, .of_steps (.one h0 s1) harr⟩
  | outgrown => exact ⟨_, a₁, w₁, ⟨hd, hq⟩, .of_steps (.one h0 s1) harr⟩
theorem callsIn_of_fx {f : FuncId} {fn : Func} {c : Code} {args : Array Value} {R : Ending → World → Prop} (hf : P.funcs[f]? = some fn) (hb : fn.body = some c)
    (h : Fx P c (args ++ Array.replicate (fn.ntmps - args.size) undef) w fun e t W => (e = .normal ∨ e = .ret) ∧ ∃ v, (results fn t).run P W = .ok v W ∧ R (.returned v) W) : CallsIn Fence.wide 0 P f args w R := by
  refine callsIn_of_wp hf hb trivial ?_ rfl
  refine wpIn_mono (h []) ?_
  rintro e a W ⟨hd, he, v, hr, hR⟩
  rcases he with rfl | rfl
  · exact bodyPost_end hr hd hR
  · exact bodyPost_ret hr hd hR
end
end Go.TL
end

section
namespace Go.Proofs.Ytafmgmaelnpehaa.Tp
open Go.RowKit Go.TL Go.Shelf
attribute [local go_sem] Oper.semAt_some
attribute [local go_sem] run_store_func
def setP (T : List Int) (peg : Nat) (x y : Int) : List Int := (T.set (peg * 2) x).set (peg * 2 + 1) y
def nxt (p : P4) (T : List Int) (peg : Nat) (x y : Int) : Option (List Int) :=
  if inPl p (x, y) then some (setP T peg x y) else if T.getD 8 0 ≠ -1 then none else some ((setP T peg x y).set 8 (peg : Int))
def stepL (a : Pg) (rec : List Int → List (List Int)) (T : List Int) (peg : Nat) (p : P4) (x y : Int) : List (List Int) :=
  match nxt p T peg x y with
  | none => []
  | some T' => if fitsV a.L T' peg then rec T' else []
def onL (a : Pg) : Nat → Nat → List Int → List (List Int)
  | 0, _, T => [T]
  | r + 1, peg, T => (List.range (a.side.toNat + 1)).flatMap fun x : Nat => (List.range (a.side.toNat + 1)).flatMap fun y : Nat => stepL a (onL a r (peg + 1)) T peg (a.P.getD peg (0, 0, 0, 0)) x y
def rowL (a : Pg) (r peg : Nat) (T : List Int) (x n : Nat) : List (List Int) := (List.range n).flatMap fun y : Nat => stepL a (onL a r (peg + 1)) T peg (a.P.getD peg (0, 0, 0, 0)) x y
def colL (a : Pg) (r peg : Nat) (T : List Int) (n : Nat) : List (List Int) := (List.range n).flatMap fun x : Nat => rowL a r peg T x (a.side.toNat + 1)
theorem onL_succ (a : Pg) (r peg : Nat) (T : List Int) : onL a (r + 1) peg T = colL a r peg T (a.side.toNat + 1) := rfl
theorem rowL_succ (a : Pg) (r peg : Nat) (T : List Int) (x n : Nat) : rowL a r peg T x (n + 1) = rowL a r peg T x n ++ stepL a (onL a r (peg + 1)) T peg (a.P.getD peg (0, 0, 0, 0)) x n := by
  unfold rowL
  rw [List.range_succ, List.flatMap_append]
  simp
theorem colL_succ (a : Pg) (r peg : Nat) (T : List Int) (n : Nat) : colL a r peg T (n + 1) = colL a r peg T n ++ rowL a r peg T n (a.side.toNat + 1) := by
  unfold colL
  rw [List.range_succ, List.flatMap_append]
  simp
theorem flat_split {α β : Type} (f : Nat → List β) {n m : Nat} (h : n < m) : ∃ B, (List.range m).flatMap f = (List.range n).flatMap f ++ (f n ++ B) := by
  obtain ⟨d, rfl⟩ : ∃ d, m = n + 1 + d := ⟨m - (n + 1), by omega⟩
  refine ⟨(List.range d).flatMap fun i => f (n + 1 + i), ?_⟩
  rw [List.range_add, List.flatMap_append, List.range_succ, List.flatMap_append, List.append_assoc, List.flatMap_map]
  simp
theorem onL_at (a : Pg) (r peg : Nat) (T : List Int) {x y : Nat} (hx : x < a.side.toNat + 1) (hy : y < a.side.toNat + 1) : ∃ B, onL a (r + 1) peg T = (colL a r peg T x ++ rowL a r peg T x y) ++ (stepL a (onL a r (peg + 1)) T peg (a.P.getD peg (0, 0, 0, 0)) x y ++ B) := by
  obtain ⟨B1, h1⟩ := flat_split (α := Nat) (fun x : Nat => rowL a r peg T x (a.side.toNat + 1)) hx
  obtain ⟨B2, h2⟩ := flat_split (α := Nat) (fun y : Nat => stepL a (onL a r (peg + 1)) T peg (a.P.getD peg (0, 0, 0, 0)) x y) hy
  have h2' : rowL a r peg T x (a.side.toNat + 1) = rowL a r peg T x y ++ (stepL a (onL a r (peg + 1)) T peg (a.P.getD peg (0, 0, 0, 0)) x y ++ B2) := h2
  refine ⟨B2 ++ B1, ?_⟩
  rw [onL_succ]
  have h1' : colL a r peg T (a.side.toNat + 1) = colL a r peg T x ++ (rowL a r peg T x (a.side.toNat + 1) ++ B1) := h1
  rw [h1', h2']
  simp only [List.append_assoc]
def Sits (L : List (List Int)) (k : Nat) (B : List (List Int)) : Prop := ∀ i, i < B.length → L[k + i]? = B[i]?
theorem Sits.part {L : List (List Int)} {k : Nat} {A B C : List (List Int)} (h : Sits L k (A ++ (B ++ C))) : Sits L (k + A.length) B := fun i hi => by
  have := h (A.length + i) (by rw [List.length_append, List.length_append]; omega)
  rw [Nat.add_assoc, this, List.getElem?_append_right (by omega), Nat.add_sub_cancel_left, List.getElem?_append_left hi]
theorem Sits.one {L : List (List Int)} {k : Nat} {T : List Int} (h : Sits L k [T]) : ∃ hk : k < L.length, L[k]'hk = T := by
  have := h 0 (by simp)
  rw [Nat.add_zero] at this
  obtain ⟨hk, e⟩ := List.getElem?_eq_some_iff.1 (this.trans rfl : L[k]? = some T)
  exact ⟨hk, e⟩
theorem setP_ok {T : List Int} (hT : TOk T) {peg : Nat} (hp : peg < 4) {x y : Int} (hx : 0 ≤ x ∧ x ≤ 100) (hy : 0 ≤ y ∧ y ≤ 100) (v : Int) : TOk (setP T peg x y) ∧ TOk ((setP T peg x y).set 8 v) := by
  have hl := hT.len
  have h1 : TOk (setP T peg x y) := ⟨by unfold setP; rw [List.length_set, List.length_set, hl], fun i hi => by
    unfold setP
    rw [List.getD_eq_getElem?_getD, List.getElem?_set, List.getElem?_set]
    by_cases h1 : peg * 2 + 1 = i
    · rw [if_pos h1, if_pos (by rw [List.length_set]; omega)]; exact hy
    · rw [if_neg h1]
      by_cases h2 : peg * 2 = i
      · rw [if_pos h2, if_pos (by omega)]; exact hx
      · rw [if_neg h2, ← List.getD_eq_getElem?_getD]; exact hT.b i hi⟩
  refine ⟨h1, by rw [List.length_set, h1.len], fun i hi => ?_⟩
  rw [List.getD_eq_getElem?_getD, List.getElem?_set_ne (by omega), ← List.getD_eq_getElem?_getD]
  exact h1.b i hi
theorem T_arr {T : List Int} (hT : T.length = 9) : (T.map vi).toArray = #[vi (T.getD 0 0), vi (T.getD 1 0), vi (T.getD 2 0), vi (T.getD 3 0), vi (T.getD 4 0), vi (T.getD 5 0), vi (T.getD 6 0), vi (T.getD 7 0), vi (T.getD 8 0)] := by
  match T, hT with
  | [a, b, c, d, e, f, g, h, i], _ => rfl
structure KR (S : Nat → Prop) (n : Nat) (W W' : World) : Prop where
  same : Same S W W'
  sf : SF n W W'
  size : W.heap.size ≤ W'.heap.size
theorem KR.refl (S : Nat → Prop) (n : Nat) (W : World) : KR S n W W := ⟨Same.refl _ _, SF.refl _ _, Nat.le_refl _⟩
theorem KR.trans {S : Nat → Prop} {n : Nat} {X Y Z : World} (h : KR S n X Y) (k : KR S n Y Z) : KR S n X Z := ⟨h.same.trans k.same, h.sf.trans h.size k.sf, Nat.le_trans h.size k.size⟩
theorem KR.below {S : Nat → Prop} {n : Nat} {X Y : World} (hS : ∀ k, S k → k < n) (hn : n ≤ X.heap.size) (h : Below X.heap.size X Y) : KR S n X Y := ⟨Same.of_below h fun k hk => Nat.lt_of_lt_of_le (hS k hk) hn, SF.of_below h, h.size⟩
theorem KR.block {S : Nat → Prop} {n : Nat} {X Y : World} (h : KR S n X Y) {k : Nat} (hk : S k ∨ n ≤ k) (hl : k < X.heap.size) : Y.heap[k]? = X.heap[k]? := by
  rcases hk with hk | hk
  · exact h.same k hk
  · exact h.sf k hk hl
theorem cell_same {X Y : World} {ad : Addr} {v : Value} (h : Y.heap[ad.block]? = X.heap[ad.block]?) (hc : X.cell? ad = some v) : Y.cell? ad = some v := by
  unfold World.cell? at hc ⊢
  rw [h]
  exact hc
theorem cell_lt {X : World} {ad : Addr} {v : Value} (hc : X.cell? ad = some v) : ad.block < X.heap.size := by
  unfold World.cell? at hc
  cases ho : X.heap[ad.block]? with
  | none => simp [ho] at hc
  | some o => exact heap_lt ho
theorem add_block (ad : Addr) (i : Nat) : (ad.add i).block = ad.block := by
  unfold Addr.add
  split <;> rfl
theorem RowQ.kr {S : Nat → Prop} {n : Nat} {X Y : World} {A : Option Addr} {P : List P4} (h : RowQ X A P) (k : KR S n X Y) (hA : ∀ ad, A = some ad → S ad.block ∨ n ≤ ad.block) : RowQ Y A P := fun i p hp => by
  obtain ⟨ad, e, h0, h1, h2, h3⟩ := h i p hp
  have hb : Y.heap[(ad.add (i * 4)).block]? = X.heap[(ad.add (i * 4)).block]? := k.block (by rw [add_block]; exact hA ad e) (cell_lt h0)
  exact ⟨ad, e, cell_same hb h0, cell_same hb h1, cell_same hb h2, cell_same hb h3⟩
theorem RowV.kr {S : Nat → Prop} {n : Nat} {X Y : World} {A : Option Addr} {vs : List Value} (h : RowV X A vs) (k : KR S n X Y) (hA : ∀ ad, A = some ad → S ad.block ∨ n ≤ ad.block) : RowV Y A vs := fun i v hv => by
  obtain ⟨ad, e, h0⟩ := h i v hv
  exact ⟨ad, e, cell_same (k.block (by rw [add_block]; exact hA ad e) (cell_lt h0)) h0⟩
structure OnC (S : Nat → Prop) (n l : Nat) (a : Pg) (pb : Nat) (A : Option Addr) (c : Nat) (ms : List Nat) (b2 b3 b4 b5 : Nat) (W : World) : Prop where
  o : PgO W a pb A c ms
  r : RowQ W a.AL a.L
  c2 : W.heap[b2]? = some (.cells #[.pointer (some ⟨pb, 0, none⟩)] 122 (0, 0))
  c3 : W.heap[b3]? = some (.cells #[.func (.yield l) #[] #[]] 173 (0, 0))
  c4 : W.heap[b4]? = some (.cells #[.int .u64 ((2 ^ a.L.length - 1 : Nat) : Int)] 161 (0, 0))
  c5 : W.heap[b5]? = some (.cells #[.func (.func 112) #[] #[.pointer (some ⟨b2, 0, none⟩), .pointer (some ⟨b3, 0, none⟩), .pointer (some ⟨b4, 0, none⟩), .pointer (some ⟨b5, 0, none⟩)]] 174 (0, 0))
  kp : S pb ∨ n ≤ pb
  k2 : S b2 ∨ n ≤ b2
  k3 : S b3 ∨ n ≤ b3
  k4 : S b4 ∨ n ≤ b4
  k5 : S b5 ∨ n ≤ b5
  kA : ∀ ad, A = some ad → S ad.block ∨ n ≤ ad.block
  km : ∀ m ∈ ms, S m ∨ n ≤ m
  kL : ∀ ad, a.AL = some ad → S ad.block ∨ n ≤ ad.block
theorem OnC.kr {S : Nat → Prop} {n l : Nat} {a : Pg} {pb : Nat} {A : Option Addr} {c : Nat} {ms : List Nat} {b2 b3 b4 b5 : Nat} {W W' : World} (h : OnC S n l a pb A c ms b2 b3 b4 b5 W) (k : KR S n W W') : OnC S n l a pb A c ms b2 b3 b4 b5 W' where
  o := ⟨(k.block h.kp (heap_lt h.o.box)).trans h.o.box, h.o.len, h.o.row.kr k h.kA, fun i p m hp hm => (h.o.map i p m hp hm).same (k.block (h.km m (List.mem_of_getElem? hm)) (h.o.map i p m hp hm).lt)⟩
  r := h.r.kr k h.kL
  c2 := (k.block h.k2 (heap_lt h.c2)).trans h.c2
  c3 := (k.block h.k3 (heap_lt h.c3)).trans h.c3
  c4 := (k.block h.k4 (heap_lt h.c4)).trans h.c4
  c5 := (k.block h.k5 (heap_lt h.c5)).trans h.c5
  kp := h.kp
  k2 := h.k2
  k3 := h.k3
  k4 := h.k4
  k5 := h.k5
  kA := h.kA
  km := h.km
  kL := h.kL
end Go.Proofs.Ytafmgmaelnpehaa.Tp
end

section
namespace Go.Proofs.Ytafmgmaelnpehaa.Tp
open Go.RowKit Go.TL Go.Shelf
attribute [local go_sem] Oper.semAt_some
attribute [local go_sem] run_store_func
set_option maxRecDepth 100000 in
set_option maxHeartbeats 2000000 in
theorem on_tail {S : Nat → Prop} {n l : Nat} {a : Pg} {pb : Nat} {A : Option Addr} {c : Nat} {ms : List Nat} {b2 b3 b4 b5 : Nat} {J : Nat → World → Prop} {Jx : World → Prop} {L : List (List Int)} (ho : a.Ok) (hS : ∀ k, S k → k < n) (hJ : ∀ k X Y, J k X → Below X.heap.size X Y → J k Y) {r peg tb ax ay q k : Nat} {T : List Int} (hIH : ∀ T k W, TOk T → OnC S n l a pb A c ms b2 b3 b4 b5 W → J k W → n ≤ W.heap.size → Sits L k (onL a r (peg + 1) T) → CallsIn Fence.wide 0 Try.prog 112 #[.agg (T.map vi).toArray, iv (peg + 1), .pointer (some ⟨b2, 0, none⟩), .pointer (some ⟨b3, 0, none⟩), .pointer (some ⟨b4, 0, none⟩), .pointer (some ⟨b5, 0, none⟩)] W fun e W' => (e = .returned (.bool true) ∧ J (k + (onL a r (peg + 1) T).length) W' ∧ KR S n W W') ∨ (e = .returned (.bool false) ∧ Jx W')) (hpg : peg < 100) (hT : TOk T) {W : World} (hC : OnC S n l a pb A c ms b2 b3 b4 b5 W) (hj : J k W) (hn : n ≤ W.heap.size) (hq : W.heap[q]? = some (.cells (T.map vi).toArray 116 (0, 0))) (hsit : fitsV a.L T peg = true → Sits L k (onL a r (peg + 1) T)) {t : Array Value} (hSl : Slots [none, some (iv peg), some (.pointer (some ⟨b2, 0, none⟩)), some (.pointer (some ⟨b3, 0, none⟩)), some (.pointer (some ⟨b4, 0, none⟩)), some (.pointer (some ⟨b5, 0, none⟩)), some (.pointer (some ⟨tb, 0, none⟩)), none, some (.bool false), some (iv ax), some (iv ay), some (.pointer (some ⟨q, 0, none⟩)), none, none, none, none, none, none, none, none, none, none, none, none, none, none, none, none, some (vi (a.side + 1)), some (iv ax), none, none, none, none, none, none, none, some (vi (a.side + 1)), some (iv ay), none, none, none, none, none, none, none, none, none, none, none, none, none, none, none, none, none, none, none, none, none, none, none, none, none, none, none, none, none, none, none, none, none, none, none, none, none, none, none, none] t) {Q : Exit → Array Value → World → Prop}
    (hQ1 : ∀ t' W', J (k + (if fitsV a.L T peg then onL a r (peg + 1) T else []).length) W' → KR S n W W' → Slots [none, some (iv peg), some (.pointer (some ⟨b2, 0, none⟩)), some (.pointer (some ⟨b3, 0, none⟩)), some (.pointer (some ⟨b4, 0, none⟩)), some (.pointer (some ⟨b5, 0, none⟩)), some (.pointer (some ⟨tb, 0, none⟩)), none, some (.bool false), some (iv ax), none, none, none, none, none, none, none, none, none, none, none, none, none, none, none, none, none, none, some (vi (a.side + 1)), some (iv ax), none, none, none, none, none, none, none, some (vi (a.side + 1)), some (iv ay), none, none, none, none, none, none, none, none, none, none, none, none, none, none, none, none, none, none, none, none, none, none, none, none, none, none, none, none, none, none, none, none, none, none, none, none, none, none, none, none] t' → Q .normal t' W') (hQ2 : ∀ t' W', Jx W' → Slots [none, none, none, none, none, none, none, none, some (.bool false), none, none, none, none, none, none, none, none, none, none, none, none, none, none, none, none, none, none, none, none, none, none, none, none, none, none, none, none, none, none, none, none, none, none, none, none, none, none, none, none, none, none, none, none, none, none, none, none, none, none, none, none, none, none, none, none, none, none, none, none, none, none, none, none, none, none, none, none, none, none] t' → Q .ret t' W') :
    Fx Try.prog (sub (Try.f112.body.getD .skip) [1, 1, 0, 1, 0, 0, 1, 1, 0, 0, 1, 0, 1, 1, 0, 0, 1, 1, 0, 0, 1, 1, 1, 1]) t W Q := by
  have hu116 := Try.underlying116
  have hcall := fits113 a ho T hT pb q peg A c W hC.o.box hC.r hq
  have e2 := cells_get (cs := [_]) (k := 0) hC.c2 rfl
  have e4 := cells_get (cs := [_]) (k := 0) hC.c4 rfl
  obtain ⟨x, hx⟩ := Slots.open_ hSl; simp only [fill, Nat.reduceAdd] at hx; subst hx; clear hSl
  show Fx _ (Code.seq _ _) _ _ _
  refine fx_seq (fx_region fun ds => ?_)
  gi_wp2_with fail
  refine ⟨trivial, rfl, (callsIn_wide.2 hcall).mono ?_⟩
  rintro e Y ⟨rfl, hy⟩
  have hkr := KR.below hS hn hy
  have hCY := hC.kr hkr
  have hjY := hJ _ _ _ hj hy
  have hnY : n ≤ Y.heap.size := Nat.le_trans hn hy.size
  have hqY := (hy.block _ (heap_lt hq)).trans hq
  clear hcall e2 e4 hC hj hq
  cases hf : fitsV a.L T peg with
  | false =>
    have HQ1 := Lib.hid hQ1
    clear hQ1
    have HF := Lib.hid hf
    clear hf
    gi_wp2
    refine ⟨fun f h => (by cases h), ?_⟩
    first | (rename_i hKK; refine hKK _ _ ?_) | (rename_i hKK _; refine hKK _ _ ?_) | (rename_i hKK _ _; refine hKK _ _ ?_) | (rename_i hKK _ _ _; refine hKK _ _ ?_) | (rename_i hKK _ _ _ _; refine hKK _ _ ?_) | (rename_i hKK _ _ _ _ _; refine hKK _ _ ?_)
    gi_wp2
    refine fq_mk ?_
    show Fx _ (Code.cond _ _ _) _ _ _
    refine fx_cond (b := false) rfl (fun h => by cases h) (fun _ => fx_skip ?_)
    exact HQ1.out _ _ (by rw [HF.out]; exact hjY) hkr (by simp [Slots, Fits])
  | true =>
    have hi := hIH T k Y hT hCY hjY hnY (hsit hf)
    have HQ1 := Lib.hid hQ1
    have HQ2 := Lib.hid hQ2
    have HF := Lib.hid hf
    clear hQ1 hQ2 hf hIH hsit
    have d0 := T_cell hT hqY (i := 0) (by omega)
    have d1 := T_cell hT hqY (i := 1) (by omega)
    have d2 := T_cell hT hqY (i := 2) (by omega)
    have d3 := T_cell hT hqY (i := 3) (by omega)
    have d4 := T_cell hT hqY (i := 4) (by omega)
    have d5 := T_cell hT hqY (i := 5) (by omega)
    have d6 := T_cell hT hqY (i := 6) (by omega)
    have d7 := T_cell hT hqY (i := 7) (by omega)
    have d8 := T_cell hT hqY (i := 8) (by omega)
    have e5 := cells_get (cs := [_]) (k := 0) hCY.c5 rfl
    rw [T_arr hT.len] at hi
    have hw : IntKind.i64.wrap ((peg : Int) + 1) = ((peg + 1 : Nat) : Int) := by rw [IntWalk.i64_in _ (by omega)]; norm_cast
    gi_wp2_with fail
    refine ⟨trivial, rfl, hi.mono ?_⟩
    clear hi d0 d1 d2 d3 d4 d5 d6 d7 d8 e5
    rintro e Z (⟨rfl, hjZ, hkZ⟩ | ⟨rfl, hxZ⟩)
    · gi_wp2
      refine fq_mk ?_
      show Fx _ (Code.cond _ _ _) _ _ _
      refine fx_cond (b := false) rfl (fun h => by cases h) (fun _ => fx_skip ?_)
      exact HQ1.out _ _ (by rw [HF.out]; exact hjZ) (hkr.trans hkZ) (by simp [Slots, Fits])
    · gi_wp2
      refine fq_mk ?_
      show Fx _ (Code.cond _ _ _) _ _ _
      refine fx_cond (b := true) rfl (fun _ => ?_) (fun h => by cases h)
      show Fx _ (Code.seq _ _) _ _ _
      refine fx_seq (fx_region fun ds => ?_)
      gi_wp2
      refine fq_mk ?_
      exact fx_ret (HQ2.out _ _ hxZ (by simp [Slots, Fits]))
end Go.Proofs.Ytafmgmaelnpehaa.Tp
end

section
namespace Go.Proofs.Ytafmgmaelnpehaa.Tp
open Go.RowKit Go.TL Go.Shelf
attribute [local go_sem] Oper.semAt_some
attribute [local go_sem] run_store_func
theorem T_nine {T : List Int} (hT : T.length = 9) : ∃ t0 t1 t2 t3 t4 t5 t6 t7 t8, (T.map vi).toArray = #[vi t0, vi t1, vi t2, vi t3, vi t4, vi t5, vi t6, vi t7, vi t8] ∧ T.getD 8 0 = t8 := by
  match T, hT with
  | [a, b, c, d, e, f, g, h, i], _ => exact ⟨a, b, c, d, e, f, g, h, i, rfl, rfl⟩
theorem map_setP (T : List Int) (peg : Nat) (x y : Int) : ((T.map vi).set (peg * 2) (vi x)).set (peg * 2 + 1) (vi y) = (setP T peg x y).map vi := by
  unfold setP
  rw [List.map_set, List.map_set]
set_option maxRecDepth 100000 in
set_option maxHeartbeats 4000000 in
theorem on_cell {S : Nat → Prop} {n l : Nat} {a : Pg} {pb : Nat} {A : Option Addr} {c : Nat} {ms : List Nat} {b2 b3 b4 b5 : Nat} {J : Nat → World → Prop} {Jx : World → Prop} {L : List (List Int)} (ho : a.Ok) (hS : ∀ k, S k → k < n) (hJ : ∀ k X Y, J k X → Below X.heap.size X Y → J k Y) {r peg tb ax ay k : Nat} {T : List Int} {p : P4} (hIH : ∀ T k W, TOk T → OnC S n l a pb A c ms b2 b3 b4 b5 W → J k W → n ≤ W.heap.size → Sits L k (onL a r (peg + 1) T) → CallsIn Fence.wide 0 Try.prog 112 #[.agg (T.map vi).toArray, iv (peg + 1), .pointer (some ⟨b2, 0, none⟩), .pointer (some ⟨b3, 0, none⟩), .pointer (some ⟨b4, 0, none⟩), .pointer (some ⟨b5, 0, none⟩)] W fun e W' => (e = .returned (.bool true) ∧ J (k + (onL a r (peg + 1) T).length) W' ∧ KR S n W W') ∨ (e = .returned (.bool false) ∧ Jx W')) (hp : a.P[peg]? = some p) (hpg : peg < 4) (hax : ax ≤ 15) (hay : ay ≤ 15) (hT : TOk T) {W : World} (hC : OnC S n l a pb A c ms b2 b3 b4 b5 W) (hj : J k W) (hn : n ≤ W.heap.size) (ht : W.heap[tb]? = some (.cells (T.map vi).toArray 116 (0, 0))) (hsit : Sits L k (stepL a (onL a r (peg + 1)) T peg p ax ay)) {t : Array Value} (hSl : Slots [none, some (iv peg), some (.pointer (some ⟨b2, 0, none⟩)), some (.pointer (some ⟨b3, 0, none⟩)), some (.pointer (some ⟨b4, 0, none⟩)), some (.pointer (some ⟨b5, 0, none⟩)), some (.pointer (some ⟨tb, 0, none⟩)), none, some (.bool false), some (iv ax), none, none, none, none, none, none, none, none, none, none, none, none, none, none, none, none, none, none, some (vi (a.side + 1)), some (iv ax), none, none, none, none, none, none, none, some (vi (a.side + 1)), some (iv ay), none, none, none, none, none, none, none, none, none, none, none, none, none, none, none, none, none, none, none, none, none, none, none, none, none, none, none, none, none, none, none, none, none, none, none, none, none, none, none, none] t) {Q : Exit → Array Value → World → Prop}
    (hQ1 : ∀ t' W', J (k + (stepL a (onL a r (peg + 1)) T peg p ax ay).length) W' → KR S n W W' → Slots [none, some (iv peg), some (.pointer (some ⟨b2, 0, none⟩)), some (.pointer (some ⟨b3, 0, none⟩)), some (.pointer (some ⟨b4, 0, none⟩)), some (.pointer (some ⟨b5, 0, none⟩)), some (.pointer (some ⟨tb, 0, none⟩)), none, some (.bool false), some (iv ax), none, none, none, none, none, none, none, none, none, none, none, none, none, none, none, none, none, none, some (vi (a.side + 1)), some (iv ax), none, none, none, none, none, none, none, some (vi (a.side + 1)), some (iv ay), none, none, none, none, none, none, none, none, none, none, none, none, none, none, none, none, none, none, none, none, none, none, none, none, none, none, none, none, none, none, none, none, none, none, none, none, none, none, none, none] t' → Q .normal t' W') (hQ2 : ∀ t' W', Jx W' → Slots [none, none, none, none, none, none, none, none, some (.bool false), none, none, none, none, none, none, none, none, none, none, none, none, none, none, none, none, none, none, none, none, none, none, none, none, none, none, none, none, none, none, none, none, none, none, none, none, none, none, none, none, none, none, none, none, none, none, none, none, none, none, none, none, none, none, none, none, none, none, none, none, none, none, none, none, none, none, none, none, none, none] t' → Q .ret t' W') :
    Fx Try.prog (sub (Try.f112.body.getD .skip) [1, 1, 0, 1, 0, 0, 1, 1, 0, 0, 1, 0, 1, 1, 0, 0, 1, 1, 0]) t W Q := by
  have hu116 := Try.underlying116
  have hu114 := Try.underlying114
  have hu113 := Try.underlying113
  have hu153 := Try.underlying153
  have hu154 := Try.underlying154
  have hu151 := Try.underlying151
  have hpgI : (peg : Int) < 4 := by omega
  have hpl : peg < a.P.length := (List.getElem?_eq_some_iff.1 hp).1
  have hplI : (peg : Int) < a.P.length := by omega
  have hQ : ∀ T' : List Int, nxt p T peg ax ay = some T' → stepL a (onL a r (peg + 1)) T peg p ax ay = if fitsV a.L T' peg then onL a r (peg + 1) T' else [] := fun T' h => by
    unfold stepL
    rw [h]
  have hQn : nxt p T peg ax ay = none → stepL a (onL a r (peg + 1)) T peg p ax ay = [] := fun h => by
    unfold stepL
    rw [h]
  generalize stepL a (onL a r (peg + 1)) T peg p ax ay = B at *
  obtain ⟨ok1, ok2⟩ := setP_ok hT hpg (x := ax) (y := ay) ⟨by omega, by omega⟩ ⟨by omega, by omega⟩ (peg : Int)
  obtain ⟨hm1, hm2⟩ : peg < ms.length ∧ True := ⟨by rw [hC.o.len]; exact hpl, trivial⟩
  obtain ⟨mb, hmb⟩ : ∃ mb, ms[peg]? = some mb := ⟨_, List.getElem?_eq_getElem hm1⟩
  obtain ⟨x, hx⟩ := Slots.open_ hSl; simp only [fill, Nat.reduceAdd] at hx; subst hx; clear hSl
  show Fx _ (Code.block _ _) _ _ _
  refine fx_block ?_
  show Fx _ (Code.seq _ _) _ _ _
  refine fx_seq (fx_region fun ds => ?_)
  gi_wp2
  refine fq_mk ?_
  show Fx _ (Code.seq _ _) _ _ _
  obtain ⟨t0, t1, t2, t3, t4, t5, t6, t7, t8, hTa, h8⟩ := T_nine hT.len
  have ht' := ht
  rw [hTa] at ht'
  have d0 := cells_get (cs := [_, _, _, _, _, _, _, _, _]) (k := 0) ht' rfl
  have d1 := cells_get (cs := [_, _, _, _, _, _, _, _, _]) (k := 1) ht' rfl
  have d2 := cells_get (cs := [_, _, _, _, _, _, _, _, _]) (k := 2) ht' rfl
  have d3 := cells_get (cs := [_, _, _, _, _, _, _, _, _]) (k := 3) ht' rfl
  have d4 := cells_get (cs := [_, _, _, _, _, _, _, _, _]) (k := 4) ht' rfl
  have d5 := cells_get (cs := [_, _, _, _, _, _, _, _, _]) (k := 5) ht' rfl
  have d6 := cells_get (cs := [_, _, _, _, _, _, _, _, _]) (k := 6) ht' rfl
  have d7 := cells_get (cs := [_, _, _, _, _, _, _, _, _]) (k := 7) ht' rfl
  have d8 := cells_get (cs := [_, _, _, _, _, _, _, _, _]) (k := 8) ht' rfl
  refine fx_seq (fx_region fun ds => ?_)
  gi_wp2
  refine fq_mk ?_
  show Fx _ (Code.seq _ _) _ _ _
  rw [← hTa]
  have hal := (Below.refl W.heap.size W).alloc (Nat.le_refl _) (.cells (T.map vi).toArray 116)
  have hq : (W.alloc (.cells (T.map vi).toArray 116)).heap[W.heap.size]? = some (.cells (T.map vi).toArray 116 (0, 0)) := World.alloc_heap_new _ _
  clear d0 d1 d2 d3 d4 d5 d6 d7 d8 ht'
  generalize W.alloc (.cells (T.map vi).toArray 116) = X at *
  obtain ⟨q, hqq⟩ : ∃ q, W.heap.size = q := ⟨_, rfl⟩
  simp only [hqq] at hq ⊢
  have hge : W.heap.size ≤ q := by omega
  -- the place is told
  have hlen : (T.map vi).length = 9 := by rw [List.length_map, hT.len]
  have s1 := box_set X q (peg * 2) (T.map vi) 116 (vi ax) hq
  have s2 := box_set _ q (peg * 2 + 1) _ 116 (vi ay) s1
  have g0 : X.cell? ⟨q, peg * 2, none⟩ = some ((T.map vi)[peg * 2]'(by omega)) := cells_get hq (List.getElem?_eq_getElem (by omega))
  have g1 : (X.setCell ⟨q, peg * 2, none⟩ (vi ax)).cell? ⟨q, peg * 2 + 1, none⟩ = some (((T.map vi).set (peg * 2) (vi ax))[peg * 2 + 1]'(by rw [List.length_set]; omega)) := cells_get s1 (List.getElem?_eq_getElem (by rw [List.length_set]; omega))
  have f0 : X.frozen? ⟨q, peg * 2, none⟩ = false := frozen_cells hq
  have f1 : (X.setCell ⟨q, peg * 2, none⟩ (vi ax)).frozen? ⟨q, peg * 2 + 1, none⟩ = false := frozen_cells s1
  rw [map_setP] at s2
  have hB2 : Below W.heap.size W ((X.setCell ⟨q, peg * 2, none⟩ (vi ax)).setCell ⟨q, peg * 2 + 1, none⟩ (vi ay)) := (hal.setCell (p := ⟨q, peg * 2, none⟩) hge _).setCell (p := ⟨q, peg * 2 + 1, none⟩) hge _
  generalize (T.map vi)[peg * 2]'(by omega) = w0 at *
  generalize ((T.map vi).set (peg * 2) (vi ax))[peg * 2 + 1]'(by rw [List.length_set]; omega) = w1 at *
  refine fx_seq (fx_region fun ds => ?_)
  gi_wp2
  refine fq_mk ?_
  clear g0 g1 f0 f1 s1 hq hal
  show Fx _ (Code.seq (Code.seq _ _) _) _ ((X.setCell ⟨q, peg * 2, none⟩ (vi ax)).setCell ⟨q, peg * 2 + 1, none⟩ (vi ay)) _
  generalize (X.setCell ⟨q, peg * 2, none⟩ (vi ax)).setCell ⟨q, peg * 2 + 1, none⟩ (vi ay) = V at *
  clear X
  have hCV := hC.kr (KR.below hS hn hB2)
  have e2 := cells_get (cs := [_]) (k := 0) hCV.c2 rfl
  have p3 := cells_get (cs := [_, _, _, _]) (k := 3) hCV.o.box rfl
  obtain ⟨ad, hA, hcm⟩ := hCV.o.row peg (.map (some mb)) (by rw [List.getElem?_map, hmb]; rfl)
  have hlk := (hCV.o.map peg p mb hp hmb).lookup (x := (ax : Int)) (y := (ay : Int)) ⟨by show (-1000 : Int) ≤ (ax : Int) ∧ (ax : Int) ≤ 1000; omega, by show (-1000 : Int) ≤ (ay : Int) ∧ (ay : Int) ≤ 1000; omega⟩
  subst hA
  have htV := (hB2.block _ (heap_lt ht)).trans ht
  rw [hTa] at htV
  have m8 := cells_get (cs := [_, _, _, _, _, _, _, _, _]) (k := 8) htV rfl
  have hw8 : q < V.heap.size := heap_lt s2
  by_cases hin : inPl p ((ax : Int), (ay : Int))
  · rw [decide_eq_true hin] at hlk
    have hBE := hQ (setP T peg ax ay) (by unfold nxt; rw [if_pos hin])
    clear m8 htV hCV
    refine fx_seq (fx_seq (fx_region fun ds => ?_))
    gi_wp2
    refine fq_mk ?_
    show Fx _ (Code.cond _ _ _) _ _ _
    refine fx_cond (b := false) rfl (fun h => by cases h) (fun _ => fx_skip ?_)
    clear e2 p3 hcm hlk
    show Fx Try.prog (sub (Try.f112.body.getD .skip) [1, 1, 0, 1, 0, 0, 1, 1, 0, 0, 1, 0, 1, 1, 0, 0, 1, 1, 0, 0, 1, 1, 1, 1]) _ _ _
    refine on_tail ho hS hJ (T := setP T peg ax ay) (W := V) (q := q) (k := k) (tb := tb) (ax := ax) (ay := ay) hIH (by omega) ok1 (hC.kr (KR.below hS hn hB2)) (hJ _ _ _ hj hB2) (Nat.le_trans hn (Below.size hB2)) s2 (fun hf => by
      have h := hsit
      rw [hBE, if_pos hf] at h
      exact h) (by simp [Slots, Fits]) (fun t' W' h1 h2 h3 => ?_) (fun t' W' h1 h2 => hQ2 t' W' h1 h2)
    rw [← hBE] at h1
    exact hQ1 t' W' h1 ((KR.below hS hn hB2).trans h2) h3
  · rw [decide_eq_false hin] at hlk
    clear htV hCV
    refine fx_seq (fx_seq (fx_region fun ds => ?_))
    gi_wp2
    refine fq_mk ?_
    clear e2 p3 hcm hlk
    show Fx _ (Code.cond _ _ _) _ _ _
    refine fx_cond (b := true) rfl (fun _ => ?_) (fun h => by cases h)
    show Fx _ (Code.seq (Code.seq _ _) _) _ _ _
    by_cases h1 : t8 = -1
    · have hBE := hQ ((setP T peg ax ay).set 8 (peg : Int)) (by unfold nxt; rw [if_neg hin, h8, if_neg (by simp [h1])])
      subst h1
      refine fx_seq (fx_seq (fx_region fun ds => ?_))
      gi_wp2
      refine fq_mk ?_
      show Fx _ (Code.cond _ _ _) _ _ _
      refine fx_cond (b := false) rfl (fun h => by cases h) (fun _ => fx_skip ?_)
      have hl9 : ((setP T peg ax ay).map vi).length = 9 := by rw [List.length_map, ok1.len]
      have s3 := box_set V q 8 _ 116 (vi (peg : Int)) s2
      have g8 : V.cell? ⟨q, 8, none⟩ = some (((setP T peg ax ay).map vi)[8]'(by omega)) := cells_get s2 (List.getElem?_eq_getElem (by omega))
      have f8 : V.frozen? ⟨q, 8, none⟩ = false := frozen_cells s2
      have hB3 : Below W.heap.size W (V.setCell ⟨q, 8, none⟩ (vi (peg : Int))) := hB2.setCell (p := ⟨q, 8, none⟩) hge _
      rw [show ((setP T peg ax ay).map vi).set 8 (vi (peg : Int)) = ((setP T peg ax ay).set 8 (peg : Int)).map vi from List.map_set.symm] at s3
      clear m8
      show Fx _ (Code.region _ _ _) _ _ _
      refine fx_region fun ds => ?_
      gi_wp2
      refine fq_mk ?_
      clear g8 f8 hB2
      show Fx Try.prog (sub (Try.f112.body.getD .skip) [1, 1, 0, 1, 0, 0, 1, 1, 0, 0, 1, 0, 1, 1, 0, 0, 1, 1, 0, 0, 1, 1, 1, 1]) _ (V.setCell ⟨q, 8, none⟩ (vi (peg : Int))) _
      refine on_tail ho hS hJ (T := (setP T peg ax ay).set 8 (peg : Int)) (W := V.setCell ⟨q, 8, none⟩ (vi (peg : Int))) (q := q) (k := k) (tb := tb) (ax := ax) (ay := ay) hIH (by omega) ok2 (hC.kr (KR.below hS hn hB3)) (hJ _ _ _ hj hB3) (Nat.le_trans hn (Below.size hB3)) s3 (fun hf => by
        have h := hsit
        rw [hBE, if_pos hf] at h
        exact h) (by simp [Slots, Fits]) (fun t' W' h1 h2 h3 => ?_) (fun t' W' h1 h2 => hQ2 t' W' h1 h2)
      rw [← hBE] at h1
      exact hQ1 t' W' h1 ((KR.below hS hn hB3).trans h2) h3
    · have hBE := hQn (by unfold nxt; rw [if_neg hin, h8, if_pos h1])
      refine fx_seq (fx_seq (fx_region fun ds => ?_))
      gi_wp2
      refine fq_mk ?_
      show Fx _ (Code.cond _ _ _) _ _ _
      refine fx_cond (b := true) (congrArg Value.bool (bne_iff_ne.2 h1)) (fun _ => fx_exit ?_) (fun h => by cases h)
      exact hQ1 _ V (by rw [hBE]; exact hJ _ _ _ hj hB2) (KR.below hS hn hB2) (by simp [Slots, Fits])
end Go.Proofs.Ytafmgmaelnpehaa.Tp
end

section
namespace Go.Proofs.Ytafmgmaelnpehaa.Tp
open Go.RowKit Go.TL Go.Shelf
attribute [local go_sem] Oper.semAt_some
attribute [local go_sem] run_store_func
structure OnW (S : Nat → Prop) (n l : Nat) (a : Pg) (pb : Nat) (A : Option Addr) (c : Nat) (ms : List Nat) (b2 b3 b4 b5 : Nat) (J : Nat → World → Prop) (W1 : World) (tb : Nat) (T : List Int) (k : Nat) (W : World) : Prop where
  hc : OnC S n l a pb A c ms b2 b3 b4 b5 W
  hj : J k W
  hn : n ≤ W.heap.size
  ht : W.heap[tb]? = some (.cells (T.map vi).toArray 116 (0, 0))
  hk : KR S n W1 W
  htb : n ≤ tb
theorem OnW.kr {S : Nat → Prop} {n l : Nat} {a : Pg} {pb : Nat} {A : Option Addr} {c : Nat} {ms : List Nat} {b2 b3 b4 b5 : Nat} {J : Nat → World → Prop} {W1 : World} {tb : Nat} {T : List Int} {k k' : Nat} {W W' : World} (h : OnW S n l a pb A c ms b2 b3 b4 b5 J W1 tb T k W) (hj : J k' W') (hk : KR S n W W') : OnW S n l a pb A c ms b2 b3 b4 b5 J W1 tb T k' W' :=
  ⟨h.hc.kr hk, hj, Nat.le_trans h.hn hk.size, (hk.block (.inr h.htb) (heap_lt h.ht)).trans h.ht, h.hk.trans hk, h.htb⟩
def OxI (S : Nat → Prop) (n l : Nat) (a : Pg) (pb : Nat) (A : Option Addr) (c : Nat) (ms : List Nat) (b2 b3 b4 b5 : Nat) (J : Nat → World → Prop) (W1 : World) (tb : Nat) (T : List Int) (k r peg : Nat) (m : Nat) (t : Array Value) (W : World) : Prop :=
  ∃ ax : Nat, ax ≤ a.side.toNat + 1 ∧ m = a.side.toNat + 1 - ax ∧ OnW S n l a pb A c ms b2 b3 b4 b5 J W1 tb T (k + (colL a r peg T ax).length) W ∧ Slots [none, some (iv peg), some (.pointer (some ⟨b2, 0, none⟩)), some (.pointer (some ⟨b3, 0, none⟩)), some (.pointer (some ⟨b4, 0, none⟩)), some (.pointer (some ⟨b5, 0, none⟩)), some (.pointer (some ⟨tb, 0, none⟩)), none, some (.bool false), none, none, none, none, none, none, none, none, none, none, none, none, none, none, none, none, none, none, none, some (vi (a.side + 1)), some (iv ax), none, none, none, none, none, none, none, none, none, none, none, none, none, none, none, none, none, none, none, none, none, none, none, none, none, none, none, none, none, none, none, none, none, none, none, none, none, none, none, none, none, none, none, none, none, none, none, none, none] t
def OyI (S : Nat → Prop) (n l : Nat) (a : Pg) (pb : Nat) (A : Option Addr) (c : Nat) (ms : List Nat) (b2 b3 b4 b5 : Nat) (J : Nat → World → Prop) (W1 : World) (tb : Nat) (T : List Int) (k r peg ax : Nat) (m : Nat) (t : Array Value) (W : World) : Prop :=
  ∃ ay : Nat, ay ≤ a.side.toNat + 1 ∧ m = a.side.toNat + 1 - ay ∧ OnW S n l a pb A c ms b2 b3 b4 b5 J W1 tb T (k + (colL a r peg T ax ++ rowL a r peg T ax ay).length) W ∧ Slots [none, some (iv peg), some (.pointer (some ⟨b2, 0, none⟩)), some (.pointer (some ⟨b3, 0, none⟩)), some (.pointer (some ⟨b4, 0, none⟩)), some (.pointer (some ⟨b5, 0, none⟩)), some (.pointer (some ⟨tb, 0, none⟩)), none, some (.bool false), some (iv ax), none, none, none, none, none, none, none, none, none, none, none, none, none, none, none, none, none, none, some (vi (a.side + 1)), some (iv ax), none, none, none, none, none, none, none, some (vi (a.side + 1)), some (iv ay), none, none, none, none, none, none, none, none, none, none, none, none, none, none, none, none, none, none, none, none, none, none, none, none, none, none, none, none, none, none, none, none, none, none, none, none, none, none, none, none] t
set_option maxRecDepth 100000 in
set_option maxHeartbeats 4000000 in
theorem on112 {S : Nat → Prop} {n l : Nat} {a : Pg} {pb : Nat} {A : Option Addr} {c : Nat} {ms : List Nat} {b2 b3 b4 b5 : Nat} {J : Nat → World → Prop} {Jx : World → Prop} {L : List (List Int)} (ho : a.Ok) (hS : ∀ k, S k → k < n) (hJ : ∀ k X Y, J k X → Below X.heap.size X Y → J k Y) (hY : ∀ (k : Nat) (hk : k < L.length) (W1 : World), J k W1 → n ≤ W1.heap.size → YieldAt Fence.wide 0 Try.prog l #[.agg ((L[k]'hk).map vi).toArray] W1 fun e W' => (e = .returned (.bool true) ∧ J (k + 1) W' ∧ Same S W1 W' ∧ SF n W1 W' ∧ W1.heap.size ≤ W'.heap.size) ∨ (e = .returned (.bool false) ∧ Jx W')) :
    ∀ (r peg : Nat) (T : List Int) (k : Nat) (W : World), peg + r = a.P.length → TOk T → OnC S n l a pb A c ms b2 b3 b4 b5 W → J k W → n ≤ W.heap.size → Sits L k (onL a r peg T) → CallsIn Fence.wide 0 Try.prog 112 #[.agg (T.map vi).toArray, iv peg, .pointer (some ⟨b2, 0, none⟩), .pointer (some ⟨b3, 0, none⟩), .pointer (some ⟨b4, 0, none⟩), .pointer (some ⟨b5, 0, none⟩)] W fun e W' => (e = .returned (.bool true) ∧ J (k + (onL a r peg T).length) W' ∧ KR S n W W') ∨ (e = .returned (.bool false) ∧ Jx W') := by
  have hu116 := Try.underlying116
  have hu153 := Try.underlying153
  have hu68 := Try.underlying68
  have hp4 := ho.pl
  have hs15 := ho.s1
  have hs0 := ho.s0
  intro r
  induction r with
  | zero =>
    intro peg T k W hpr hT hC hj hn hsit
    obtain ⟨t0, t1, t2, t3, t4, t5, t6, t7, t8, hTa, h8⟩ := T_nine hT.len
    rw [hTa]
    refine callsIn_of_fx Try.func112 rfl ?_
    simp only [Try.ntmps112, List.size_toArray, List.length_cons, List.length_nil, Nat.reduceAdd, Nat.reduceSub, Array.replicate_succ, Array.replicate_zero, List.push_toArray, List.append_toArray, List.nil_append, List.cons_append]
    refine fx_seq (fx_region fun ds => ?_)
    gi_wp2
    refine fq_mk ?_
    show Fx _ (Code.seq (Code.seq _ _) _) _ (W.alloc (.cells #[vi t0, vi t1, vi t2, vi t3, vi t4, vi t5, vi t6, vi t7, vi t8] 116)) _
    have hal := (Below.refl W.heap.size W).alloc (Nat.le_refl _) (.cells #[vi t0, vi t1, vi t2, vi t3, vi t4, vi t5, vi t6, vi t7, vi t8] 116)
    have ht : (W.alloc (.cells #[vi t0, vi t1, vi t2, vi t3, vi t4, vi t5, vi t6, vi t7, vi t8] 116)).heap[W.heap.size]? = some (.cells #[vi t0, vi t1, vi t2, vi t3, vi t4, vi t5, vi t6, vi t7, vi t8] 116 (0, 0)) := World.alloc_heap_new _ _
    have hkX := KR.below hS hn hal
    have hCX := hC.kr hkX
    have hjX := hJ _ _ _ hj hal
    have hnX : n ≤ (W.alloc (.cells #[vi t0, vi t1, vi t2, vi t3, vi t4, vi t5, vi t6, vi t7, vi t8] 116)).heap.size := Nat.le_trans hn hkX.size
    clear hal
    generalize W.alloc (.cells #[vi t0, vi t1, vi t2, vi t3, vi t4, vi t5, vi t6, vi t7, vi t8] 116) = X at *
    generalize W.heap.size = tb at *
    have e2 := cells_get (cs := [_]) (k := 0) hCX.c2 rfl
    have hbx := hCX.o.box
    simp only [Pg.sP] at hbx
    have p1 := cells_get (cs := [_, _, _, _]) (k := 1) hbx rfl
    clear hbx
    refine fx_seq (fx_seq (fx_region fun ds => ?_))
    gi_wp2
    refine fq_mk ?_
    clear p1 e2
    show Fx _ (Code.cond _ _ _) _ _ _
    refine fx_cond (b := true) (by first | rfl | (show Value.bool _ = _; congr 1; simp; omega)) (fun _ => ?_) (fun h => by cases h)
    obtain ⟨hkl, hget⟩ := Sits.one (L := L) (k := k) (T := T) hsit
    obtain ⟨fn, tmps, assign, body, hy, hR⟩ := hY k hkl X hjX hnX
    rw [hget, hTa] at hy
    have e3 := cells_get (cs := [_]) (k := 0) hCX.c3 rfl
    have d0 := cells_get (cs := [_, _, _, _, _, _, _, _, _]) (k := 0) ht rfl
    have d1 := cells_get (cs := [_, _, _, _, _, _, _, _, _]) (k := 1) ht rfl
    have d2 := cells_get (cs := [_, _, _, _, _, _, _, _, _]) (k := 2) ht rfl
    have d3 := cells_get (cs := [_, _, _, _, _, _, _, _, _]) (k := 3) ht rfl
    have d4 := cells_get (cs := [_, _, _, _, _, _, _, _, _]) (k := 4) ht rfl
    have d5 := cells_get (cs := [_, _, _, _, _, _, _, _, _]) (k := 5) ht rfl
    have d6 := cells_get (cs := [_, _, _, _, _, _, _, _, _]) (k := 6) ht rfl
    have d7 := cells_get (cs := [_, _, _, _, _, _, _, _, _]) (k := 7) ht rfl
    have d8 := cells_get (cs := [_, _, _, _, _, _, _, _, _]) (k := 8) ht rfl
    show Fx _ (Code.seq _ _) _ _ _
    refine fx_seq (fx_region fun ds => ?_)
    gi_wp2
    refine ⟨rfl, ?_⟩
    refine hR.mono ?_
    clear hR hy e3 d0 d1 d2 d3 d4 d5 d6 d7 d8
    rintro e W3 (⟨rfl, hj3, hs3, hf3, hz3⟩ | ⟨rfl, hx3⟩)
    · gi_wp2
      refine fq_mk ?_
      show Fx _ Code.ret _ _ _
      exact fx_ret ⟨.inr rfl, .bool true, by simp [results, Try.f112, go_sem], .inl ⟨rfl, hj3, hkX.trans ⟨hs3, hf3, hz3⟩⟩⟩
    · gi_wp2
      refine fq_mk ?_
      show Fx _ Code.ret _ _ _
      exact fx_ret ⟨.inr rfl, .bool false, by simp [results, Try.f112, go_sem], .inr ⟨rfl, hx3⟩⟩
  | succ r ih =>
    intro peg T k W hpr hT hC hj hn hsit
    obtain ⟨t0, t1, t2, t3, t4, t5, t6, t7, t8, hTa, h8⟩ := T_nine hT.len
    rw [hTa]
    refine callsIn_of_fx Try.func112 rfl ?_
    simp only [Try.ntmps112, List.size_toArray, List.length_cons, List.length_nil, Nat.reduceAdd, Nat.reduceSub, Array.replicate_succ, Array.replicate_zero, List.push_toArray, List.append_toArray, List.nil_append, List.cons_append]
    refine fx_seq (fx_region fun ds => ?_)
    gi_wp2
    refine fq_mk ?_
    show Fx _ (Code.seq (Code.seq _ _) _) _ (W.alloc (.cells #[vi t0, vi t1, vi t2, vi t3, vi t4, vi t5, vi t6, vi t7, vi t8] 116)) _
    have hal := (Below.refl W.heap.size W).alloc (Nat.le_refl _) (.cells #[vi t0, vi t1, vi t2, vi t3, vi t4, vi t5, vi t6, vi t7, vi t8] 116)
    have ht : (W.alloc (.cells #[vi t0, vi t1, vi t2, vi t3, vi t4, vi t5, vi t6, vi t7, vi t8] 116)).heap[W.heap.size]? = some (.cells #[vi t0, vi t1, vi t2, vi t3, vi t4, vi t5, vi t6, vi t7, vi t8] 116 (0, 0)) := World.alloc_heap_new _ _
    have hkX := KR.below hS hn hal
    have hCX := hC.kr hkX
    have hjX := hJ _ _ _ hj hal
    have hnX : n ≤ (W.alloc (.cells #[vi t0, vi t1, vi t2, vi t3, vi t4, vi t5, vi t6, vi t7, vi t8] 116)).heap.size := Nat.le_trans hn hkX.size
    clear hal
    generalize W.alloc (.cells #[vi t0, vi t1, vi t2, vi t3, vi t4, vi t5, vi t6, vi t7, vi t8] 116) = X at *
    generalize W.heap.size = tb at *
    have e2 := cells_get (cs := [_]) (k := 0) hCX.c2 rfl
    have hbx := hCX.o.box
    simp only [Pg.sP] at hbx
    have p1 := cells_get (cs := [_, _, _, _]) (k := 1) hbx rfl
    clear hbx
    refine fx_seq (fx_seq (fx_region fun ds => ?_))
    gi_wp2
    refine fq_mk ?_
    clear p1 e2
    show Fx _ (Code.cond _ _ _) _ _ _
    refine fx_cond (b := false) (by first | rfl | (show Value.bool _ = _; congr 1; simp; omega)) (fun h => by cases h) (fun _ => fx_skip ?_)
    have hpl : peg < a.P.length := by omega
    obtain ⟨p, hpp⟩ : ∃ p, a.P[peg]? = some p := ⟨_, List.getElem?_eq_getElem hpl⟩
    have hpD : a.P.getD peg (0, 0, 0, 0) = p := by rw [List.getD_eq_getElem?_getD, hpp]; rfl
    have hIH := fun T k W h1 h2 h3 h4 h5 => ih (peg + 1) T k W (by omega) h1 h2 h3 h4 h5
    have HIH := Lib.hid hIH
    have hW0 : OnW S n l a pb A c ms b2 b3 b4 b5 J W tb T (k + (colL a r peg T 0).length) X := ⟨hCX, hjX, hnX, by rw [hTa]; exact ht, hkX, hn⟩
    have HSIT := Lib.hid hsit
    clear hIH ih ht hCX hjX hnX hkX hC hj hn hsit hTa h8
    generalize hW1 : W = W1 at hW0
    clear hW1
    have e2 := cells_get (cs := [_]) (k := 0) hW0.hc.c2 rfl
    have p0 := cells_get (cs := [_, _, _, _]) (k := 0) hW0.hc.o.box rfl
    have hwS : IntKind.i64.wrap (a.side + 1) = a.side + 1 := IntWalk.i64_in _ (by omega)
    show Fx _ (Code.seq (Code.seq _ _) _) _ _ _
    refine fx_seq (fx_seq (fx_region fun ds => ?_))
    gi_wp2
    refine fq_mk ?_
    clear e2 p0
    show Fx _ (Code.block _ _) _ _ _
    refine fx_block ?_
    refine fx_loop (OxI S n l a pb A c ms b2 b3 b4 b5 J W1 tb T k r peg) (a.side.toNat + 1) ⟨0, by omega, rfl, hW0, by simp [Slots, Fits]⟩ ?_
    clear hW0
    clear X
    rintro m t W ⟨ax, hax, hm, hO, hSl⟩
    have HM := Lib.hid hm
    clear hm
    obtain ⟨x, hx⟩ := Slots.open_ hSl; simp only [fill, Nat.reduceAdd] at hx; subst hx; clear hSl
    show Fx _ (Code.seq _ (Code.seq _ _)) _ _ _
    refine fx_seq (fx_region fun ds => ?_)
    gi_wp2
    refine fq_mk ?_
    show Fx _ (Code.seq (Code.cond _ _ _) _) _ _ _
    refine fx_seq (fx_cond (b := decide (ax < a.side.toNat + 1)) (by first | rfl | (show Value.bool _ = _; congr 1; exact decide_eq_decide.2 (by omega))) (fun hp => fx_skip ?_) (fun hp => fx_exit ?_))
    · have haxl : ax < a.side.toNat + 1 := of_decide_eq_true hp
      clear hp
      show Fx _ (Code.seq (Code.block _ _) _) _ _ _
      refine fx_seq (fx_block (fx_seq (fx_region fun ds => ?_)))
      gi_wp2
      refine fq_mk ?_
      show Fx _ (Code.scope _) _ _ _
      refine fx_scope (fx_seq (fx_label ?_))
      have e2 := cells_get (cs := [_]) (k := 0) hO.hc.c2 rfl
      have p0 := cells_get (cs := [_, _, _, _]) (k := 0) hO.hc.o.box rfl
      show Fx _ (Code.seq _ _) _ _ _
      refine fx_seq (fx_region fun ds => ?_)
      gi_wp2
      refine fq_mk ?_
      clear e2 p0
      show Fx _ (Code.block _ _) _ _ _
      refine fx_block ?_
      refine fx_loop (OyI S n l a pb A c ms b2 b3 b4 b5 J W1 tb T k r peg ax) (a.side.toNat + 1) ⟨0, by omega, rfl, by
        show OnW S n l a pb A c ms b2 b3 b4 b5 J W1 tb T (k + (colL a r peg T ax ++ []).length) W
        rw [List.append_nil]
        exact hO, by simp [Slots, Fits]⟩ ?_
      clear hO
      clear W
      rintro m2 t W ⟨ay, hay, hm2, hO, hSl⟩
      have HM2 := Lib.hid hm2
      clear hm2
      obtain ⟨x, hx⟩ := Slots.open_ hSl; simp only [fill, Nat.reduceAdd] at hx; subst hx; clear hSl
      show Fx _ (Code.seq _ (Code.seq _ _)) _ _ _
      refine fx_seq (fx_region fun ds => ?_)
      gi_wp2
      refine fq_mk ?_
      show Fx _ (Code.seq (Code.cond _ _ _) _) _ _ _
      refine fx_seq (fx_cond (b := decide (ay < a.side.toNat + 1)) (by first | rfl | (show Value.bool _ = _; congr 1; exact decide_eq_decide.2 (by omega))) (fun hp => fx_skip ?_) (fun hp => fx_exit ?_))
      · have hayl : ay < a.side.toNat + 1 := of_decide_eq_true hp
        clear hp
        obtain ⟨B, hB⟩ := onL_at a r peg T haxl hayl
        have hst := HSIT.out
        rw [hB] at hst
        have hst2 := hst.part
        have hrow := rowL_succ a r peg T ax ay
        rw [hpD] at hst2 hrow
        have HROW := Lib.hid hrow
        clear hB hst hrow
        show Fx _ (Code.seq _ _) _ _ _
        refine fx_seq ?_
        show Fx Try.prog (sub (Try.f112.body.getD .skip) [1, 1, 0, 1, 0, 0, 1, 1, 0, 0, 1, 0, 1, 1, 0, 0, 1, 1, 0]) _ _ _
        refine on_cell ho hS hJ (r := r) (peg := peg) (tb := tb) (ax := ax) (ay := ay) (T := T) (p := p) HIH.out hpp (by omega) (by omega) (by omega) hT hO.hc hO.hj hO.hn hO.ht hst2 (by simp [Slots, Fits]) (fun t' W' h1 h2 h3 => ?_) (fun t' W' h1 h2 => ?_)
        · rw [Nat.add_assoc, ← List.length_append, List.append_assoc, ← HROW.out] at h1
          have hO' := hO.kr h1 h2
          clear hO h1 h2 hst2
          have hw : IntKind.i64.wrap ((ay : Int) + 1) = ((ay + 1 : Nat) : Int) := by rw [IntWalk.i64_in _ (by omega)]; norm_cast
          clear x
          obtain ⟨x, hx⟩ := Slots.open_ h3; simp only [fill, Nat.reduceAdd] at hx; subst hx; clear h3
          show Fx _ (Code.region _ _ _) _ _ _
          refine fx_region fun ds => ?_
          gi_wp2
          refine fq_mk ?_
          exact ⟨m2 - 1, by have := HM2.out; omega, ay + 1, by omega, by have := HM2.out; omega, hO', by simp [Slots, Fits]⟩
        · clear x
          obtain ⟨x, hx⟩ := Slots.open_ h2; simp only [fill, Nat.reduceAdd] at hx; subst hx; clear h2
          exact ⟨.inr rfl, .bool false, by simp [results, Try.f112, go_sem], .inr ⟨rfl, h1⟩⟩
      · have hay2 : ay = a.side.toNat + 1 := by have := of_decide_eq_false hp; omega
        subst hay2
        rw [← colL_succ] at hO
        have hw : IntKind.i64.wrap ((ax : Int) + 1) = ((ax + 1 : Nat) : Int) := by rw [IntWalk.i64_in _ (by omega)]; norm_cast
        have HO := Lib.hid hO
        clear hO
        show Fx Try.prog (sub (Try.f112.body.getD .skip) [1, 1, 0, 1, 0, 0, 1, 1, 1]) _ _ _
        show Fx _ (Code.region _ _ _) _ _ _
        refine fx_region fun ds => ?_
        gi_wp2
        refine fq_mk ?_
        exact ⟨m - 1, by have := HM.out; omega, ax + 1, by omega, by have := HM.out; omega, HO.out, by simp [Slots, Fits]⟩
    · have hax2 : ax = a.side.toNat + 1 := by have := of_decide_eq_false hp; omega
      subst hax2
      rw [← onL_succ] at hO
      show Fx _ (Code.seq _ _) _ _ _
      refine fx_seq (fx_region fun ds => ?_)
      gi_wp2
      refine fq_mk ?_
      show Fx _ Code.ret _ _ _
      exact fx_ret ⟨.inr rfl, .bool true, by simp [results, Try.f112, go_sem], .inl ⟨rfl, hO.hj, hO.hk⟩⟩
end Go.Proofs.Ytafmgmaelnpehaa.Tp
end

section
namespace Go.Proofs.Ytafmgmaelnpehaa.Tp
open Go.RowKit Go.TL Go.Shelf
attribute [local go_sem] Oper.semAt_some
attribute [local go_sem] run_store_func
def T0 : List Int := [0, 0, 0, 0, 0, 0, 0, 0, -1]
theorem T0_ok : TOk T0 := ⟨rfl, fun i hi => by
  match i, hi with
  | 0, _ => exact ⟨by decide, by decide⟩
  | 1, _ => exact ⟨by decide, by decide⟩
  | 2, _ => exact ⟨by decide, by decide⟩
  | 3, _ => exact ⟨by decide, by decide⟩
  | 4, _ => exact ⟨by decide, by decide⟩
  | 5, _ => exact ⟨by decide, by decide⟩
  | 6, _ => exact ⟨by decide, by decide⟩
  | 7, _ => exact ⟨by decide, by decide⟩⟩
theorem PgO.kr {S : Nat → Prop} {n : Nat} {a : Pg} {pb : Nat} {A : Option Addr} {c : Nat} {ms : List Nat} {W W' : World} (h : PgO W a pb A c ms) (k : KR S n W W') (kp : S pb ∨ n ≤ pb) (kA : ∀ ad, A = some ad → S ad.block ∨ n ≤ ad.block) (km : ∀ m ∈ ms, S m ∨ n ≤ m) : PgO W' a pb A c ms :=
  ⟨(k.block kp (heap_lt h.box)).trans h.box, h.len, h.row.kr k kA, fun i p m hp hm => (h.map i p m hp hm).same (k.block (km m (List.mem_of_getElem? hm)) (h.map i p m hp hm).lt)⟩
def truthsL (a : Pg) : List (List Int) := onL a a.P.length 0 T0
set_option maxRecDepth 100000 in
set_option maxHeartbeats 2000000 in
theorem truths111 {S : Nat → Prop} {a : Pg} (ho : a.Ok) {pb : Nat} {A : Option Addr} {c : Nat} {ms : List Nat} {b2 b4 : Nat} {w : World} (hS : ∀ k, S k → k < w.heap.size) (hO : PgO w a pb A c ms) (hr : RowQ w a.AL a.L) (c2 : w.heap[b2]? = some (.cells #[.pointer (some ⟨pb, 0, none⟩)] 122 (0, 0))) (c4 : w.heap[b4]? = some (.cells #[.int .u64 ((2 ^ a.L.length - 1 : Nat) : Int)] 161 (0, 0))) (kp : S pb) (k2 : S b2) (k4 : S b4) (kA : ∀ ad, A = some ad → S ad.block) (km : ∀ m ∈ ms, S m) (kL : ∀ ad, a.AL = some ad → S ad.block) :
    IterG Try.prog 111 #[.pointer (some ⟨b2, 0, none⟩), .pointer (some ⟨b4, 0, none⟩)] (fun T : List Int => #[.agg (T.map vi).toArray]) (truthsL a) S w := by
  intro l J Jx W hsame hsz hJ hJx hY h0
  have hmf : ∀ fn first cap w, (Instr.makeFunc fn first cap).run Try.prog w = .ok (.func fn first cap) w := fun _ _ _ _ => rfl
  have hu116 := Try.underlying116
  have hu174 := Try.underlying174
  refine callsIn_of_fx Try.func111 rfl ?_
  simp only [Try.ntmps111, List.size_toArray, List.length_cons, List.length_nil, Nat.reduceAdd, Nat.reduceSub, Array.replicate_succ, Array.replicate_zero, List.push_toArray, List.append_toArray, List.nil_append, List.cons_append]
  refine fx_seq (fx_region fun ds => ?_)
  gi_wp2
  refine fq_mk ?_
  show Fx _ (Code.seq _ _) _ (W.alloc (.cells #[.func (.yield l) #[] #[]] 173)) _
  have hb3 : (W.alloc (.cells #[.func (.yield l) #[] #[]] 173)).heap[W.heap.size]? = some (.cells #[.func (.yield l) #[] #[]] 173 (0, 0)) := World.alloc_heap_new _ _
  have hal := (Below.refl W.heap.size W).alloc (Nat.le_refl _) (.cells #[.func (.yield l) #[] #[]] 173)
  have hs3 : (W.alloc (.cells #[.func (.yield l) #[] #[]] 173)).heap.size = W.heap.size + 1 := by simp
  generalize W.alloc (.cells #[.func (.yield l) #[] #[]] 173) = X at *
  refine fx_seq (fx_region fun ds => ?_)
  gi_wp2
  refine fq_mk ?_
  show Fx _ (Code.seq _ _) _ (X.alloc (.cells #[.nilFunc] 174)) _
  have hal2 := hal.alloc hal.size (.cells #[.nilFunc] 174)
  have hb3' := heap_next hb3 (.cells #[.nilFunc] 174)
  have hb5 : (X.alloc (.cells #[.nilFunc] 174)).heap[W.heap.size + 1]? = some (.cells #[.nilFunc] 174 (0, 0)) := by
    have := World.alloc_heap_new X (.cells #[.nilFunc] 174)
    rwa [hs3] at this
  clear hs3 hb3 hal
  generalize X.alloc (.cells #[.nilFunc] 174) = Y at *
  clear X
  have hF := box_set Y (W.heap.size + 1) 0 [_] 174 (.func (.func 112) #[] #[.pointer (some ⟨b2, 0, none⟩), .pointer (some ⟨W.heap.size, 0, none⟩), .pointer (some ⟨b4, 0, none⟩), .pointer (some ⟨W.heap.size + 1, 0, none⟩)]) hb5
  have hG := box_far Y (W.heap.size + 1) 0 W.heap.size (.func (.func 112) #[] #[.pointer (some ⟨b2, 0, none⟩), .pointer (some ⟨W.heap.size, 0, none⟩), .pointer (some ⟨b4, 0, none⟩), .pointer (some ⟨W.heap.size + 1, 0, none⟩)]) _ hb3' (by omega)
  have f5 : Y.frozen? ⟨W.heap.size + 1, 0, none⟩ = false := frozen_cells hb5
  have g5 := cells_get (cs := [_]) (k := 0) hb5 rfl
  have hB := hal2.setCell (p := ⟨W.heap.size + 1, 0, none⟩) (by show W.heap.size ≤ W.heap.size + 1; omega) (.func (.func 112) #[] #[.pointer (some ⟨b2, 0, none⟩), .pointer (some ⟨W.heap.size, 0, none⟩), .pointer (some ⟨b4, 0, none⟩), .pointer (some ⟨W.heap.size + 1, 0, none⟩)])
  refine fx_seq (fx_region fun ds => ?_)
  gi_wp2
  refine fq_mk ?_
  clear f5 g5 hb5 hb3' hal2
  show Fx _ (Code.region _ _ _) _ (Y.setCell ⟨W.heap.size + 1, 0, none⟩ (.func (.func 112) #[] #[.pointer (some ⟨b2, 0, none⟩), .pointer (some ⟨W.heap.size, 0, none⟩), .pointer (some ⟨b4, 0, none⟩), .pointer (some ⟨W.heap.size + 1, 0, none⟩)])) _
  generalize Y.setCell ⟨W.heap.size + 1, 0, none⟩ (.func (.func 112) #[] #[.pointer (some ⟨b2, 0, none⟩), .pointer (some ⟨W.heap.size, 0, none⟩), .pointer (some ⟨b4, 0, none⟩), .pointer (some ⟨W.heap.size + 1, 0, none⟩)]) = Z at *
  clear Y
  have hSW : ∀ k, S k → k < W.heap.size := fun k hk => Nat.lt_of_lt_of_le (hS k hk) hsz
  have hK : KR S w.heap.size w Z := ⟨fun k hk => (hB.block k (hSW k hk)).trans (hsame k hk), fun k h1 h2 => by omega, Nat.le_trans hsz hB.size⟩
  have hC : OnC S W.heap.size l a pb A c ms b2 W.heap.size b4 (W.heap.size + 1) Z :=
    { o := hO.kr hK (.inl kp) (fun ad e => .inl (kA ad e)) (fun m hm => .inl (km m hm)), r := hr.kr hK (fun ad e => .inl (kL ad e))
      c2 := (hK.block (.inl k2) (heap_lt c2)).trans c2, c3 := hG, c4 := (hK.block (.inl k4) (heap_lt c4)).trans c4, c5 := hF
      kp := .inl kp, k2 := .inl k2, k3 := .inr (Nat.le_refl _), k4 := .inl k4, k5 := .inr (Nat.le_succ _), kA := fun ad e => .inl (kA ad e), km := fun m hm => .inl (km m hm), kL := fun ad e => .inl (kL ad e) }
  have hi := on112 (L := truthsL a) ho hSW hJ hY a.P.length 0 T0 0 Z (by omega) T0_ok hC (hJ _ _ _ h0 hB) hB.size (fun i hi => by rw [Nat.zero_add]; rfl)
  have e5 := cells_get (cs := [_]) (k := 0) hF rfl
  rw [Nat.zero_add] at hi
  have hi' : CallsIn Fence.wide 0 Try.prog 112 #[.agg #[vi 0, vi 0, vi 0, vi 0, vi 0, vi 0, vi 0, vi 0, vi (-1)], iv 0, .pointer (some ⟨b2, 0, none⟩), .pointer (some ⟨W.heap.size, 0, none⟩), .pointer (some ⟨b4, 0, none⟩), .pointer (some ⟨W.heap.size + 1, 0, none⟩)] Z fun e W' => (e = .returned (.bool true) ∧ J (truthsL a).length W' ∧ KR S W.heap.size Z W') ∨ (e = .returned (.bool false) ∧ Jx W') := hi
  clear hi hC hK hG hF hO hr c2 c4
  refine fx_region fun ds => ?_
  gi_wp2_with fail
  refine ⟨trivial, rfl, hi'.mono ?_⟩
  clear hi' e5
  rintro e V (⟨rfl, hjV, _⟩ | ⟨rfl, hxV⟩)
  · gi_wp2
    refine fq_mk ?_
    exact ⟨.inl rfl, ⟨_, results_none rfl _ _ _⟩, .inl hjV⟩
  · gi_wp2
    refine fq_mk ?_
    exact ⟨.inl rfl, ⟨_, results_none rfl _ _ _⟩, .inr hxV⟩
theorem truths101 (pb : Nat) (N : Int) (w : World) : Calls Try.prog 101 #[.pointer (some ⟨pb, 0, none⟩), .int .u64 N] w fun e w' => (e = .returned (.func (.func 111) #[] #[.pointer (some ⟨w.heap.size, 0, none⟩), .pointer (some ⟨w.heap.size + 1, 0, none⟩)]) ∧ w'.heap[w.heap.size]? = some (.cells #[.pointer (some ⟨pb, 0, none⟩)] 122 (0, 0)) ∧ w'.heap[w.heap.size + 1]? = some (.cells #[.int .u64 N] 161 (0, 0))) ∧ Below w.heap.size w w' ∧ w.heap.size + 2 ≤ w'.heap.size := by
  have hmf : ∀ fn first cap w, (Instr.makeFunc fn first cap).run Try.prog w = .ok (.func fn first cap) w := fun _ _ _ _ => rfl
  refine calls_of_exec Try.func101 rfl ?_
  simp only [Try.ntmps101, List.size_toArray, List.length_cons, List.length_nil, Nat.reduceAdd, Nat.reduceSub, Array.replicate_succ, Array.replicate_zero, List.push_toArray, List.append_toArray, List.nil_append, List.cons_append]
  refine exec_seq (exec_region_o fun ds => ?_)
  gi_wp2
  refine eq_mk (((Keep.refl w).alloc _).alloc _) ?_
  show Exec _ _ (Code.seq _ _) _ ((w.alloc (.cells #[.pointer (some ⟨pb, 0, none⟩)] 122)).alloc (.cells #[.int .u64 N] 161)) _
  have hB := ((Below.refl w.heap.size w).alloc (Nat.le_refl _) (.cells #[.pointer (some ⟨pb, 0, none⟩)] 122)).alloc (by simp) (.cells #[.int .u64 N] 161)
  have h1 : ((w.alloc (.cells #[.pointer (some ⟨pb, 0, none⟩)] 122)).alloc (.cells #[.int .u64 N] 161)).heap[w.heap.size]? = some (.cells #[.pointer (some ⟨pb, 0, none⟩)] 122 (0, 0)) := heap_next (World.alloc_heap_new _ _) _
  have h2 : ((w.alloc (.cells #[.pointer (some ⟨pb, 0, none⟩)] 122)).alloc (.cells #[.int .u64 N] 161)).heap[w.heap.size + 1]? = some (.cells #[.int .u64 N] 161 (0, 0)) := by
    have := World.alloc_heap_new (w.alloc (.cells #[.pointer (some ⟨pb, 0, none⟩)] 122)) (.cells #[.int .u64 N] 161)
    rwa [World.size_alloc] at this
  generalize (w.alloc (.cells #[.pointer (some ⟨pb, 0, none⟩)] 122)).alloc (.cells #[.int .u64 N] 161) = X at *
  refine exec_seq (exec_region_o fun ds => ?_)
  gi_wp2
  refine eq_mk (Keep.refl _) ?_
  refine exec_ret ⟨.inr rfl, fun W' hG => ⟨.func (.func 111) #[] #[.pointer (some ⟨w.heap.size, 0, none⟩), .pointer (some ⟨w.heap.size + 1, 0, none⟩)], by simp [results, Try.f101, go_sem], ⟨rfl, hG.same _ _ h1 (.inr rfl), hG.same _ _ h2 (.inr rfl)⟩, hB.trans (hG.below (Nat.le_refl _) hB.size), ?_⟩⟩
  have := heap_lt h2
  have := hG.size
  omega
end Go.Proofs.Ytafmgmaelnpehaa.Tp
end

section
namespace Go.Proofs.Ytafmgmaelnpehaa.Tp
open Go.RowKit Go.TL Go.Shelf
attribute [local go_sem] Oper.semAt_some
attribute [local go_sem] run_store_func
def k2_0t : It := ⟨(Op.move (Operand.tmp 0)), some 20, 196, true, none⟩
def k2_1t : It := ⟨(Op.move (Operand.tmp 0)), some 21, 196, true, none⟩
def k2_2t : It := ⟨(Op.move (Operand.tmp 0)), some 22, 196, true, none⟩
def k2_3t : It := ⟨(Op.nilCheck (Operand.tmp 22)), some 23, 0, true, none⟩
def k2_4t : It := ⟨(Op.fieldAddr 119 (Operand.tmp 23) 0), some 24, 0, true, none⟩
def k2_6t : It := ⟨(Op.move (Operand.tmp 1)), some 26, 3, true, none⟩
def k2_8t : It := ⟨(Op.move (Operand.tmp 0)), some 28, 196, true, none⟩
def k2_9t : It := ⟨(Op.nilCheck (Operand.tmp 28)), some 29, 0, true, none⟩
def k2_10t : It := ⟨(Op.fieldAddr 119 (Operand.tmp 29) 1), some 30, 0, true, none⟩
def k2_12t : It := ⟨(Op.move (Operand.tmp 1)), some 32, 3, true, none⟩
def k2_5 : It := ⟨(Op.load 3 (Operand.tmp 24)), some 25, 3, false, none⟩
def k2_7t : It := ⟨(Op.call { callee := (Callee.builtin Builtin.min), args := #[(Operand.tmp 25), (Operand.tmp 26)], argTypes := #[3, 3] }), some 27, 3, true, none⟩
def k2_11 : It := ⟨(Op.load 3 (Operand.tmp 30)), some 31, 3, false, none⟩
def k2_13t : It := ⟨(Op.call { callee := (Callee.builtin Builtin.max), args := #[(Operand.tmp 31), (Operand.tmp 32)], argTypes := #[3, 3] }), some 33, 3, true, none⟩
def k2_14 : It := ⟨(Op.nilCheck (Operand.tmp 20)), some 34, 0, false, none⟩
def k2_15 : It := ⟨(Op.fieldAddr 119 (Operand.tmp 34) 0), some 35, 0, false, none⟩
def k2_16 : It := ⟨(Op.store 3 (Operand.tmp 35) (Operand.tmp 27)), none, 0, false, none⟩
def k2_17 : It := ⟨(Op.nilCheck (Operand.tmp 21)), some 36, 0, false, none⟩
def k2_18 : It := ⟨(Op.fieldAddr 119 (Operand.tmp 36) 1), some 37, 0, false, none⟩
def k2_19 : It := ⟨(Op.store 3 (Operand.tmp 37) (Operand.tmp 33)), none, 0, false, none⟩
def k2_7 : It := ⟨(Op.call { callee := (Callee.builtin Builtin.min), args := #[(Operand.tmp 25), (Operand.tmp 26)], argTypes := #[3, 3] }), some 27, 3, false, none⟩
set_option maxRecDepth 100000 in
set_option maxHeartbeats 4000000 in
theorem keep_r2 {W : World} {m0 : Nat} {fv : Value} (lo hi n mn mx : Int) (hmn : (if n < lo then n else lo) = mn) (hmx : (if hi < n then n else hi) = mx) (h : W.heap[m0]? = some (.cells #[vi lo, vi hi, .bool true, fv] 121 (0, 0))) {t : Array Value} (hSl : Slots [some (.pointer (some ⟨m0, 0, none⟩)), some (vi n), none, none, none, none, none, none, none, none, none, none, none, none, none, none, none, none, none, none, none, none, none, none, none, none, none, none, none, none, none, none, none, none, none, none, none, none] t) :
    Exec Try.prog none (sub (Try.f135.body.getD .skip) [1]) t W (andThen (fun t' W' => W'.heap[m0]? = some (.cells #[vi mn, vi mx, .bool true, fv] 121 (0, 0)) ∧ W.grownBy W' (some m0)) fun _ _ _ => False) := by
  have hu119 := Try.underlying119
  have hd : Below W.heap.size W W.drew := (Below.refl _ W).drew
  have hh : W.drew.heap[m0]? = some (.cells #[vi lo, vi hi, .bool true, fv] 121 (0, 0)) := (hd.block _ (heap_lt h)).trans h
  have hk := Keep.of_below hd
  have hg := gb_below (some m0) hd
  refine region_tree (c := (sub (Try.f135.body.getD .skip) [1])) (id := 2) (.one 0 true (.one 1 true (.one 2 true (.one 3 true (.one 4 true (.one 6 true (.one 8 true (.one 9 true (.one 10 true (.one 12 true (.two 5 11 (.one 7 true (.one 11 false (.one 13 true (.one 14 false (.one 15 false (.one 16 false (.one 17 false (.one 18 false (.one 19 false (.nil)))))))))) (.one 13 true (.one 5 false (.one 7 false (.one 14 false (.one 15 false (.one 16 false (.one 17 false (.one 18 false (.one 19 false (.nil))))))))))))))))))))) (Opq (regOps (sub (Try.f135.body.getD .skip) [1]))) rfl (by kernel_rfl) (by kernel_rfl) (by kernel_rfl) (by kernel_rfl) (by kernel_rfl) (by kernel_rfl) [0, 0, 0, 4, 8, 16, 0, 96, 0, 256, 512, 1024, 0, 6144, 2301, 18685, 35069, 131071, 262143, 393215] (by kernel_rfl) (by kernel_rfl) (fun W' => True) (fun _ _ _ => False) (fun _ _ _ h => h.elim) (fun _ _ _ _ _ _ _ _ h => h.elim) fun ds Q' hQn hQp => ?_
  have F0 : Fr [some (.pointer (some ⟨m0, 0, none⟩)), some (vi n), none, none, none, none, none, none, none, none, none, none, none, none, none, none, none, none, none, none, none, none, none, none, none, none, none, none, none, none, none, none, none, none, none, none, none, none] ds { tmps := t, defers := ds } := Fr.start hSl
  clear hSl
  generalize ({ tmps := t, defers := ds } : Act) = a0 at *
  generalize W.drew = X0 at *
  have g0 : X0.cell? ⟨m0, 0, none⟩ = some (vi lo) := cells_get (cs := [_, _, _, _]) (k := 0) hh rfl
  have g1 : X0.cell? ⟨m0, 1, none⟩ = some (vi hi) := cells_get (cs := [_, _, _, _]) (k := 1) hh rfl
  have f0 : X0.frozen? ⟨m0, 0, none⟩ = false := frozen_cells hh
  have s1 := box_set X0 m0 0 [_, _, _, _] 121 (vi mn) hh
  have s2 := box_set _ m0 1 [_, _, _, _] 121 (vi mx) s1
  have g2 := cells_get (cs := [_, _, _, _]) (k := 1) s1 rfl
  have f2 : (X0.setCell ⟨m0, 0, none⟩ (vi mn)).frozen? ⟨m0, 1, none⟩ = false := frozen_cells s1
  refine tr_take k2_0t (.pointer (some ⟨m0, 0, none⟩)) (by kernel_rfl) rfl rfl (fun wq hq => ?_) trivial ?_; (focus (have e0 : a0.eval (.tmp 0) = (.pointer (some ⟨m0, 0, none⟩)) := F0.ev 0 (by kernel_rfl); generalize a0.eval = ev at e0 ⊢; simp [go_sem, mkO, k2_0t, e0]; done))
  refine F0.next 20 (.pointer (some ⟨m0, 0, none⟩)) fun a1 F1 => ?_
  clear F0
  refine tr_take k2_1t (.pointer (some ⟨m0, 0, none⟩)) (by kernel_rfl) rfl rfl (fun wq hq => ?_) trivial ?_; (focus (have e0 : a1.eval (.tmp 0) = (.pointer (some ⟨m0, 0, none⟩)) := F1.ev 0 (by kernel_rfl); generalize a1.eval = ev at e0 ⊢; simp [go_sem, mkO, k2_1t, e0]; done))
  refine F1.next 21 (.pointer (some ⟨m0, 0, none⟩)) fun a2 F2 => ?_
  clear F1 a1
  refine tr_take k2_2t (.pointer (some ⟨m0, 0, none⟩)) (by kernel_rfl) rfl rfl (fun wq hq => ?_) trivial ?_; (focus (have e0 : a2.eval (.tmp 0) = (.pointer (some ⟨m0, 0, none⟩)) := F2.ev 0 (by kernel_rfl); generalize a2.eval = ev at e0 ⊢; simp [go_sem, mkO, k2_2t, e0]; done))
  refine F2.next 22 (.pointer (some ⟨m0, 0, none⟩)) fun a3 F3 => ?_
  clear F2 a2
  refine tr_take k2_3t (.pointer (some ⟨m0, 0, none⟩)) (by kernel_rfl) rfl rfl (fun wq hq => ?_) trivial ?_; (focus (have e22 : a3.eval (.tmp 22) = (.pointer (some ⟨m0, 0, none⟩)) := F3.ev 22 (by kernel_rfl); generalize a3.eval = ev at e22 ⊢; simp [go_sem, mkO, k2_3t, e22]; done))
  refine F3.next 23 (.pointer (some ⟨m0, 0, none⟩)) fun a4 F4 => ?_
  clear F3 a3
  refine tr_take k2_4t (.pointer (some ⟨m0, 0, none⟩)) (by kernel_rfl) rfl rfl (fun wq hq => ?_) trivial ?_; (focus (have e23 : a4.eval (.tmp 23) = (.pointer (some ⟨m0, 0, none⟩)) := F4.ev 23 (by kernel_rfl); generalize a4.eval = ev at e23 ⊢; simp [go_sem, mkO, k2_4t, e23, hu119]; done))
  refine F4.next 24 (.pointer (some ⟨m0, 0, none⟩)) fun a5 F5 => ?_
  clear F4 a4
  refine tr_take k2_6t (vi n) (by kernel_rfl) rfl rfl (fun wq hq => ?_) trivial ?_; (focus (have e1 : a5.eval (.tmp 1) = (vi n) := F5.ev 1 (by kernel_rfl); generalize a5.eval = ev at e1 ⊢; simp [go_sem, mkO, k2_6t, e1]; done))
  refine F5.next 26 (vi n) fun a6 F6 => ?_
  clear F5 a5
  refine tr_take k2_8t (.pointer (some ⟨m0, 0, none⟩)) (by kernel_rfl) rfl rfl (fun wq hq => ?_) trivial ?_; (focus (have e0 : a6.eval (.tmp 0) = (.pointer (some ⟨m0, 0, none⟩)) := F6.ev 0 (by kernel_rfl); generalize a6.eval = ev at e0 ⊢; simp [go_sem, mkO, k2_8t, e0]; done))
  refine F6.next 28 (.pointer (some ⟨m0, 0, none⟩)) fun a7 F7 => ?_
  clear F6 a6
  refine tr_take k2_9t (.pointer (some ⟨m0, 0, none⟩)) (by kernel_rfl) rfl rfl (fun wq hq => ?_) trivial ?_; (focus (have e28 : a7.eval (.tmp 28) = (.pointer (some ⟨m0, 0, none⟩)) := F7.ev 28 (by kernel_rfl); generalize a7.eval = ev at e28 ⊢; simp [go_sem, mkO, k2_9t, e28]; done))
  refine F7.next 29 (.pointer (some ⟨m0, 0, none⟩)) fun a8 F8 => ?_
  clear F7 a7
  refine tr_take k2_10t (.pointer (some ⟨m0, 1, none⟩)) (by kernel_rfl) rfl rfl (fun wq hq => ?_) trivial ?_; (focus (have e29 : a8.eval (.tmp 29) = (.pointer (some ⟨m0, 0, none⟩)) := F8.ev 29 (by kernel_rfl); generalize a8.eval = ev at e29 ⊢; simp [go_sem, mkO, k2_10t, e29, hu119]; done))
  refine F8.next 30 (.pointer (some ⟨m0, 1, none⟩)) fun a9 F9 => ?_
  clear F8 a8
  refine tr_take k2_12t (vi n) (by kernel_rfl) rfl rfl (fun wq hq => ?_) trivial ?_; (focus (have e1 : a9.eval (.tmp 1) = (vi n) := F9.ev 1 (by kernel_rfl); generalize a9.eval = ev at e1 ⊢; simp [go_sem, mkO, k2_12t, e1]; done))
  refine F9.next 32 (vi n) fun a10 F10 => ?_
  clear F9 a9
  refine ⟨?_, ?_⟩
  · refine tr_make k2_5 (vi lo) X0 (by kernel_rfl) rfl rfl ?_ trivial ?_; (focus (have e24 : a10.eval (.tmp 24) = (.pointer (some ⟨m0, 0, none⟩)) := F10.ev 24 (by kernel_rfl); generalize a10.eval = ev at e24 ⊢; simp [go_sem, mkO, k2_5, e24, g0, g1]; done))
    refine F10.next 25 (vi lo) fun a11 F11 => ?_
    clear F10 a10
    refine tr_take k2_7t (vi mn) (by kernel_rfl) rfl rfl (fun wq hq => ?_) trivial ?_; (focus (have e25 : a11.eval (.tmp 25) = (vi lo) := F11.ev 25 (by kernel_rfl); have e26 : a11.eval (.tmp 26) = (vi n) := F11.ev 26 (by kernel_rfl); generalize a11.eval = ev at e25 e26 ⊢; simp [go_sem, mkO, k2_7t, e25, e26, hmn]; done))
    refine F11.next 27 (vi mn) fun a12 F12 => ?_
    clear F11 a11
    refine tr_make k2_11 (vi hi) X0 (by kernel_rfl) rfl rfl ?_ trivial ?_; (focus (have e30 : a12.eval (.tmp 30) = (.pointer (some ⟨m0, 1, none⟩)) := F12.ev 30 (by kernel_rfl); generalize a12.eval = ev at e30 ⊢; simp [go_sem, mkO, k2_11, e30, g0, g1]; done))
    refine F12.next 31 (vi hi) fun a13 F13 => ?_
    clear F12 a12
    refine tr_take k2_13t (vi mx) (by kernel_rfl) rfl rfl (fun wq hq => ?_) trivial ?_; (focus (have e31 : a13.eval (.tmp 31) = (vi hi) := F13.ev 31 (by kernel_rfl); have e32 : a13.eval (.tmp 32) = (vi n) := F13.ev 32 (by kernel_rfl); generalize a13.eval = ev at e31 e32 ⊢; simp [go_sem, mkO, k2_13t, e31, e32, hmx]; done))
    refine F13.next 33 (vi mx) fun a14 F14 => ?_
    clear F13 a13
    refine tr_make k2_14 (.pointer (some ⟨m0, 0, none⟩)) X0 (by kernel_rfl) rfl rfl ?_ trivial ?_; (focus (have e20 : a14.eval (.tmp 20) = (.pointer (some ⟨m0, 0, none⟩)) := F14.ev 20 (by kernel_rfl); generalize a14.eval = ev at e20 ⊢; simp [go_sem, mkO, k2_14, e20]; done))
    refine F14.next 34 (.pointer (some ⟨m0, 0, none⟩)) fun a15 F15 => ?_
    clear F14 a14
    refine tr_make k2_15 (.pointer (some ⟨m0, 0, none⟩)) X0 (by kernel_rfl) rfl rfl ?_ trivial ?_; (focus (have e34 : a15.eval (.tmp 34) = (.pointer (some ⟨m0, 0, none⟩)) := F15.ev 34 (by kernel_rfl); generalize a15.eval = ev at e34 ⊢; simp [go_sem, mkO, k2_15, e34, hu119]; done))
    refine F15.next 35 (.pointer (some ⟨m0, 0, none⟩)) fun a16 F16 => ?_
    clear F15 a15
    refine tr_store k2_16 (X0.setCell ⟨m0, 0, none⟩ (vi mn)) (by kernel_rfl) rfl rfl ?_ trivial ?_; (focus (have e27 : a16.eval (.tmp 27) = (vi mn) := F16.ev 27 (by kernel_rfl); have e35 : a16.eval (.tmp 35) = (.pointer (some ⟨m0, 0, none⟩)) := F16.ev 35 (by kernel_rfl); generalize a16.eval = ev at e27 e35 ⊢; simp [go_sem, mkO, k2_16, e27, e35, g0, f0]; done))
    show seqT _ _ _ _ _ a16 _
    refine tr_make k2_17 (.pointer (some ⟨m0, 0, none⟩)) (X0.setCell ⟨m0, 0, none⟩ (vi mn)) (by kernel_rfl) rfl rfl ?_ trivial ?_; (focus (have e21 : a16.eval (.tmp 21) = (.pointer (some ⟨m0, 0, none⟩)) := F16.ev 21 (by kernel_rfl); generalize a16.eval = ev at e21 ⊢; simp [go_sem, mkO, k2_17, e21]; done))
    refine F16.next 36 (.pointer (some ⟨m0, 0, none⟩)) fun a17 F17 => ?_
    clear F16 a16
    refine tr_make k2_18 (.pointer (some ⟨m0, 1, none⟩)) (X0.setCell ⟨m0, 0, none⟩ (vi mn)) (by kernel_rfl) rfl rfl ?_ trivial ?_; (focus (have e36 : a17.eval (.tmp 36) = (.pointer (some ⟨m0, 0, none⟩)) := F17.ev 36 (by kernel_rfl); generalize a17.eval = ev at e36 ⊢; simp [go_sem, mkO, k2_18, e36, hu119]; done))
    refine F17.next 37 (.pointer (some ⟨m0, 1, none⟩)) fun a18 F18 => ?_
    clear F17 a17
    refine tr_store k2_19 ((X0.setCell ⟨m0, 0, none⟩ (vi mn)).setCell ⟨m0, 1, none⟩ (vi mx)) (by kernel_rfl) rfl rfl ?_ trivial ?_; (focus (have e33 : a18.eval (.tmp 33) = (vi mx) := F18.ev 33 (by kernel_rfl); have e37 : a18.eval (.tmp 37) = (.pointer (some ⟨m0, 1, none⟩)) := F18.ev 37 (by kernel_rfl); generalize a18.eval = ev at e33 e37 ⊢; simp [go_sem, mkO, k2_19, e33, e37, g2, f2]; done))
    show seqT _ _ _ _ _ a18 _
    exact F18.out hQn ((hk.setCell _ _).setCell _ _) ⟨s2, gb_trans (gb_trans hg (grown_set _ _ _ _)) (grown_set _ _ _ _)⟩
  · refine tr_make k2_11 (vi hi) X0 (by kernel_rfl) rfl rfl ?_ trivial ?_; (focus (have e30 : a10.eval (.tmp 30) = (.pointer (some ⟨m0, 1, none⟩)) := F10.ev 30 (by kernel_rfl); generalize a10.eval = ev at e30 ⊢; simp [go_sem, mkO, k2_11, e30, g0, g1]; done))
    refine F10.next 31 (vi hi) fun a11 F11 => ?_
    clear F10 a10
    refine tr_take k2_13t (vi mx) (by kernel_rfl) rfl rfl (fun wq hq => ?_) trivial ?_; (focus (have e31 : a11.eval (.tmp 31) = (vi hi) := F11.ev 31 (by kernel_rfl); have e32 : a11.eval (.tmp 32) = (vi n) := F11.ev 32 (by kernel_rfl); generalize a11.eval = ev at e31 e32 ⊢; simp [go_sem, mkO, k2_13t, e31, e32, hmx]; done))
    refine F11.next 33 (vi mx) fun a12 F12 => ?_
    clear F11 a11
    refine tr_make k2_5 (vi lo) X0 (by kernel_rfl) rfl rfl ?_ trivial ?_; (focus (have e24 : a12.eval (.tmp 24) = (.pointer (some ⟨m0, 0, none⟩)) := F12.ev 24 (by kernel_rfl); generalize a12.eval = ev at e24 ⊢; simp [go_sem, mkO, k2_5, e24, g0, g1]; done))
    refine F12.next 25 (vi lo) fun a13 F13 => ?_
    clear F12 a12
    refine tr_make k2_7 (vi mn) X0 (by kernel_rfl) rfl rfl ?_ trivial ?_; (focus (have e25 : a13.eval (.tmp 25) = (vi lo) := F13.ev 25 (by kernel_rfl); have e26 : a13.eval (.tmp 26) = (vi n) := F13.ev 26 (by kernel_rfl); generalize a13.eval = ev at e25 e26 ⊢; simp [go_sem, mkO, k2_7, e25, e26, hmn]; done))
    refine F13.next 27 (vi mn) fun a14 F14 => ?_
    clear F13 a13
    refine tr_make k2_14 (.pointer (some ⟨m0, 0, none⟩)) X0 (by kernel_rfl) rfl rfl ?_ trivial ?_; (focus (have e20 : a14.eval (.tmp 20) = (.pointer (some ⟨m0, 0, none⟩)) := F14.ev 20 (by kernel_rfl); generalize a14.eval = ev at e20 ⊢; simp [go_sem, mkO, k2_14, e20]; done))
    refine F14.next 34 (.pointer (some ⟨m0, 0, none⟩)) fun a15 F15 => ?_
    clear F14 a14
    refine tr_make k2_15 (.pointer (some ⟨m0, 0, none⟩)) X0 (by kernel_rfl) rfl rfl ?_ trivial ?_; (focus (have e34 : a15.eval (.tmp 34) = (.pointer (some ⟨m0, 0, none⟩)) := F15.ev 34 (by kernel_rfl); generalize a15.eval = ev at e34 ⊢; simp [go_sem, mkO, k2_15, e34, hu119]; done))
    refine F15.next 35 (.pointer (some ⟨m0, 0, none⟩)) fun a16 F16 => ?_
    clear F15 a15
    refine tr_store k2_16 (X0.setCell ⟨m0, 0, none⟩ (vi mn)) (by kernel_rfl) rfl rfl ?_ trivial ?_; (focus (have e27 : a16.eval (.tmp 27) = (vi mn) := F16.ev 27 (by kernel_rfl); have e35 : a16.eval (.tmp 35) = (.pointer (some ⟨m0, 0, none⟩)) := F16.ev 35 (by kernel_rfl); generalize a16.eval = ev at e27 e35 ⊢; simp [go_sem, mkO, k2_16, e27, e35, g0, f0]; done))
    show seqT _ _ _ _ _ a16 _
    refine tr_make k2_17 (.pointer (some ⟨m0, 0, none⟩)) (X0.setCell ⟨m0, 0, none⟩ (vi mn)) (by kernel_rfl) rfl rfl ?_ trivial ?_; (focus (have e21 : a16.eval (.tmp 21) = (.pointer (some ⟨m0, 0, none⟩)) := F16.ev 21 (by kernel_rfl); generalize a16.eval = ev at e21 ⊢; simp [go_sem, mkO, k2_17, e21]; done))
    refine F16.next 36 (.pointer (some ⟨m0, 0, none⟩)) fun a17 F17 => ?_
    clear F16 a16
    refine tr_make k2_18 (.pointer (some ⟨m0, 1, none⟩)) (X0.setCell ⟨m0, 0, none⟩ (vi mn)) (by kernel_rfl) rfl rfl ?_ trivial ?_; (focus (have e36 : a17.eval (.tmp 36) = (.pointer (some ⟨m0, 0, none⟩)) := F17.ev 36 (by kernel_rfl); generalize a17.eval = ev at e36 ⊢; simp [go_sem, mkO, k2_18, e36, hu119]; done))
    refine F17.next 37 (.pointer (some ⟨m0, 1, none⟩)) fun a18 F18 => ?_
    clear F17 a17
    refine tr_store k2_19 ((X0.setCell ⟨m0, 0, none⟩ (vi mn)).setCell ⟨m0, 1, none⟩ (vi mx)) (by kernel_rfl) rfl rfl ?_ trivial ?_; (focus (have e33 : a18.eval (.tmp 33) = (vi mx) := F18.ev 33 (by kernel_rfl); have e37 : a18.eval (.tmp 37) = (.pointer (some ⟨m0, 1, none⟩)) := F18.ev 37 (by kernel_rfl); generalize a18.eval = ev at e33 e37 ⊢; simp [go_sem, mkO, k2_19, e33, e37, g2, f2]; done))
    show seqT _ _ _ _ _ a18 _
    exact F18.out hQn ((hk.setCell _ _).setCell _ _) ⟨s2, gb_trans (gb_trans hg (grown_set _ _ _ _)) (grown_set _ _ _ _)⟩
end Go.Proofs.Ytafmgmaelnpehaa.Tp
end

section
namespace Go.Proofs.Ytafmgmaelnpehaa.Tp
open Go.RowKit Go.TL Go.Shelf
attribute [local go_sem] Oper.semAt_some
attribute [local go_sem] run_store_func
def a1_0t : It := ⟨(Op.load 3 (Operand.tmp 1)), some 10, 3, true, none⟩
def a1_1t : It := ⟨(Op.fieldAddr 116 (Operand.tmp 4) 0), some 11, 0, true, none⟩
def a1_2t : It := ⟨(Op.indexAddr 114 (Operand.tmp 11) (Operand.tmp 10)), some 12, 0, true, none⟩
def a1_3t : It := ⟨(Op.load 113 (Operand.tmp 12)), some 13, 113, true, none⟩
def a1_4t : It := ⟨(Op.load 3 (Operand.tmp 2)), some 14, 3, true, none⟩
def a1_5t : It := ⟨(Op.fieldAddr 116 (Operand.tmp 4) 0), some 15, 0, true, none⟩
def a1_6t : It := ⟨(Op.indexAddr 114 (Operand.tmp 15) (Operand.tmp 14)), some 16, 0, true, none⟩
def a1_7t : It := ⟨(Op.load 113 (Operand.tmp 16)), some 17, 113, true, none⟩
def a1_8t : It := ⟨(Op.load 3 (Operand.tmp 3)), some 18, 3, true, none⟩
def a1_9t : It := ⟨(Op.fieldAddr 116 (Operand.tmp 4) 0), some 19, 0, true, none⟩
def a1_10t : It := ⟨(Op.indexAddr 114 (Operand.tmp 19) (Operand.tmp 18)), some 20, 0, true, none⟩
def a1_11t : It := ⟨(Op.load 113 (Operand.tmp 20)), some 21, 113, true, none⟩
def a1_12 : It := ⟨(Op.alloc 113), some 6, 0, false, none⟩
def a1_13 : It := ⟨(Op.alloc 113), some 7, 0, false, none⟩
def a1_14 : It := ⟨(Op.alloc 113), some 8, 0, false, none⟩
def a1_15 : It := ⟨(Op.store 113 (Operand.tmp 6) (Operand.tmp 13)), none, 0, false, none⟩
def a1_16 : It := ⟨(Op.store 113 (Operand.tmp 7) (Operand.tmp 17)), none, 0, false, none⟩
def a1_17 : It := ⟨(Op.store 113 (Operand.tmp 8) (Operand.tmp 21)), none, 0, false, none⟩
set_option maxRecDepth 100000 in
set_option maxHeartbeats 4000000 in
theorem area_r1 {w W : World} {T : List Int} {tb p0 p1 p2 : Nat} {x0 y0 x1 y1 x2 y2 : Int} (hx0 : (T.map vi)[0]? = some (vi x0)) (hy0 : (T.map vi)[1]? = some (vi y0)) (hx1 : (T.map vi)[2]? = some (vi x1)) (hy1 : (T.map vi)[3]? = some (vi y1)) (hx2 : (T.map vi)[4]? = some (vi x2)) (hy2 : (T.map vi)[5]? = some (vi y2)) (hck0 : ∀ Y, Below w.heap.size w Y → Y.cell? ⟨p0, 0, none⟩ = some (iv 0)) (hck1 : ∀ Y, Below w.heap.size w Y → Y.cell? ⟨p1, 0, none⟩ = some (iv 1)) (hck2 : ∀ Y, Below w.heap.size w Y → Y.cell? ⟨p2, 0, none⟩ = some (iv 2)) (hT : Tr w W W [(tb, .cells (T.map vi).toArray 116 (0, 0))]) {t : Array Value} (hSl : Slots [none, some (.pointer (some ⟨p0, 0, none⟩)), some (.pointer (some ⟨p1, 0, none⟩)), some (.pointer (some ⟨p2, 0, none⟩)), some (.pointer (some ⟨tb, 0, none⟩)), some (vi 0), none, none, none, none, none, none, none, none, none, none, none, none, none, none, none, none, none, none, none, none, none, none, none, none, none, none, none, none, none, none, none, none, none, none, none, none, none, none, none, none, none, none, none] t) :
    Exec Try.prog none (sub (Try.f79.body.getD .skip) [1, 0]) t W (andThen (fun t' W' => ∃ gu gv gw, Tr w W' W' [(gw, .cells #[vi x2, vi y2] 113 (0, 0)), (gv, .cells #[vi x1, vi y1] 113 (0, 0)), (gu, .cells #[vi x0, vi y0] 113 (0, 0)), (tb, .cells (T.map vi).toArray 116 (0, 0))] ∧ Slots [none, some (.pointer (some ⟨p0, 0, none⟩)), some (.pointer (some ⟨p1, 0, none⟩)), some (.pointer (some ⟨p2, 0, none⟩)), some (.pointer (some ⟨tb, 0, none⟩)), some (vi 0), some (.pointer (some ⟨gu, 0, none⟩)), some (.pointer (some ⟨gv, 0, none⟩)), some (.pointer (some ⟨gw, 0, none⟩)), none, none, none, none, none, none, none, none, none, none, none, none, none, none, none, none, none, none, none, none, none, none, none, none, none, none, none, none, none, none, none, none, none, none, none, none, none, none, none, none] t') fun _ _ _ => False) := by
  have hu116 := Try.underlying116
  have hu114 := Try.underlying114
  have hu113 := Try.underlying113
  have hT0 := hT.again.drew
  refine region_tree (c := (sub (Try.f79.body.getD .skip) [1, 0])) (id := 1) (.one 0 true (.one 1 true (.one 2 true (.one 3 true (.one 4 true (.one 5 true (.one 6 true (.one 7 true (.one 8 true (.one 9 true (.one 10 true (.one 11 true (.three 12 13 14 (.two 13 14 (.one 14 false (.one 15 false (.one 16 false (.one 17 false (.nil))))) (.one 13 false (.one 15 false (.one 16 false (.one 17 false (.nil)))))) (.two 12 14 (.one 14 false (.one 15 false (.one 16 false (.one 17 false (.nil))))) (.one 12 false (.one 15 false (.one 16 false (.one 17 false (.nil)))))) (.two 12 13 (.one 13 false (.one 15 false (.one 16 false (.one 17 false (.nil))))) (.one 12 false (.one 15 false (.one 16 false (.one 17 false (.nil))))))))))))))))))) (Opq (regOps (sub (Try.f79.body.getD .skip) [1, 0]))) rfl (by kernel_rfl) (by kernel_rfl) (by kernel_rfl) (by kernel_rfl) (by kernel_rfl) (by kernel_rfl) [0, 0, 3, 4, 0, 0, 48, 64, 0, 0, 768, 1024, 0, 0, 0, 28687, 61695, 131071] (by kernel_rfl) (by kernel_rfl) (fun W' => W'.cell? ⟨tb, 0, none⟩ = some (vi x0) ∧ W'.cell? ⟨tb, 1, none⟩ = some (vi y0) ∧ W'.cell? ⟨tb, 2, none⟩ = some (vi x1) ∧ W'.cell? ⟨tb, 3, none⟩ = some (vi y1) ∧ W'.cell? ⟨tb, 4, none⟩ = some (vi x2) ∧ W'.cell? ⟨tb, 5, none⟩ = some (vi y2) ∧ W'.cell? ⟨p0, 0, none⟩ = some (iv 0) ∧ W'.cell? ⟨p1, 0, none⟩ = some (iv 1) ∧ W'.cell? ⟨p2, 0, none⟩ = some (iv 2)) (fun _ _ _ => False) (fun _ _ _ h => h.elim) (fun _ _ _ _ _ _ _ _ h => h.elim) fun ds Q' hQn hQp => ?_
  have F0 : Fr [none, some (.pointer (some ⟨p0, 0, none⟩)), some (.pointer (some ⟨p1, 0, none⟩)), some (.pointer (some ⟨p2, 0, none⟩)), some (.pointer (some ⟨tb, 0, none⟩)), some (vi 0), none, none, none, none, none, none, none, none, none, none, none, none, none, none, none, none, none, none, none, none, none, none, none, none, none, none, none, none, none, none, none, none, none, none, none, none, none, none, none, none, none, none, none] ds { tmps := t, defers := ds } := Fr.start hSl
  clear hSl
  generalize ({ tmps := t, defers := ds } : Act) = a0 at *
  generalize W.drew = X0 at *
  refine tr_take a1_0t (iv 0) (by kernel_rfl) rfl rfl (fun wq hq => ?_) ⟨(hT0.cell 0 rfl hx0), (hT0.cell 0 rfl hy0), (hT0.cell 0 rfl hx1), (hT0.cell 0 rfl hy1), (hT0.cell 0 rfl hx2), (hT0.cell 0 rfl hy2), (hck0 _ hT0.below), (hck1 _ hT0.below), (hck2 _ hT0.below)⟩ ?_; (focus (have e1 : a0.eval (.tmp 1) = (.pointer (some ⟨p0, 0, none⟩)) := F0.ev 1 (by kernel_rfl); generalize a0.eval = ev at e1 ⊢; simp [go_sem, mkO, a1_0t, e1, hq.2.2.2.2.2.2.1]; done))
  refine F0.next 10 (iv 0) fun a1 F1 => ?_
  clear F0
  refine tr_take a1_1t (.pointer (some ⟨tb, 0, none⟩)) (by kernel_rfl) rfl rfl (fun wq hq => ?_) ⟨(hT0.cell 0 rfl hx0), (hT0.cell 0 rfl hy0), (hT0.cell 0 rfl hx1), (hT0.cell 0 rfl hy1), (hT0.cell 0 rfl hx2), (hT0.cell 0 rfl hy2), (hck0 _ hT0.below), (hck1 _ hT0.below), (hck2 _ hT0.below)⟩ ?_; (focus (have e4 : a1.eval (.tmp 4) = (.pointer (some ⟨tb, 0, none⟩)) := F1.ev 4 (by kernel_rfl); generalize a1.eval = ev at e4 ⊢; simp [go_sem, mkO, a1_1t, e4, hu116]; done))
  refine F1.next 11 (.pointer (some ⟨tb, 0, none⟩)) fun a2 F2 => ?_
  clear F1 a1
  refine tr_take a1_2t (.pointer (some ⟨tb, 0, none⟩)) (by kernel_rfl) rfl rfl (fun wq hq => ?_) ⟨(hT0.cell 0 rfl hx0), (hT0.cell 0 rfl hy0), (hT0.cell 0 rfl hx1), (hT0.cell 0 rfl hy1), (hT0.cell 0 rfl hx2), (hT0.cell 0 rfl hy2), (hck0 _ hT0.below), (hck1 _ hT0.below), (hck2 _ hT0.below)⟩ ?_; (focus (have e10 : a2.eval (.tmp 10) = (iv 0) := F2.ev 10 (by kernel_rfl); have e11 : a2.eval (.tmp 11) = (.pointer (some ⟨tb, 0, none⟩)) := F2.ev 11 (by kernel_rfl); generalize a2.eval = ev at e10 e11 ⊢; simp [go_sem, mkO, a1_2t, e10, e11, hu114, hu113]; done))
  refine F2.next 12 (.pointer (some ⟨tb, 0, none⟩)) fun a3 F3 => ?_
  clear F2 a2
  refine tr_take a1_3t (.agg #[vi x0, vi y0]) (by kernel_rfl) rfl rfl (fun wq hq => ?_) ⟨(hT0.cell 0 rfl hx0), (hT0.cell 0 rfl hy0), (hT0.cell 0 rfl hx1), (hT0.cell 0 rfl hy1), (hT0.cell 0 rfl hx2), (hT0.cell 0 rfl hy2), (hck0 _ hT0.below), (hck1 _ hT0.below), (hck2 _ hT0.below)⟩ ?_; (focus (have e12 : a3.eval (.tmp 12) = (.pointer (some ⟨tb, 0, none⟩)) := F3.ev 12 (by kernel_rfl); generalize a3.eval = ev at e12 ⊢; simp [go_sem, mkO, a1_3t, e12, hu113, hq.1, hq.2.1]; done))
  refine F3.next 13 (.agg #[vi x0, vi y0]) fun a4 F4 => ?_
  clear F3 a3
  refine tr_take a1_4t (iv 1) (by kernel_rfl) rfl rfl (fun wq hq => ?_) ⟨(hT0.cell 0 rfl hx0), (hT0.cell 0 rfl hy0), (hT0.cell 0 rfl hx1), (hT0.cell 0 rfl hy1), (hT0.cell 0 rfl hx2), (hT0.cell 0 rfl hy2), (hck0 _ hT0.below), (hck1 _ hT0.below), (hck2 _ hT0.below)⟩ ?_; (focus (have e2 : a4.eval (.tmp 2) = (.pointer (some ⟨p1, 0, none⟩)) := F4.ev 2 (by kernel_rfl); generalize a4.eval = ev at e2 ⊢; simp [go_sem, mkO, a1_4t, e2, hq.2.2.2.2.2.2.2.1]; done))
  refine F4.next 14 (iv 1) fun a5 F5 => ?_
  clear F4 a4
  refine tr_take a1_5t (.pointer (some ⟨tb, 0, none⟩)) (by kernel_rfl) rfl rfl (fun wq hq => ?_) ⟨(hT0.cell 0 rfl hx0), (hT0.cell 0 rfl hy0), (hT0.cell 0 rfl hx1), (hT0.cell 0 rfl hy1), (hT0.cell 0 rfl hx2), (hT0.cell 0 rfl hy2), (hck0 _ hT0.below), (hck1 _ hT0.below), (hck2 _ hT0.below)⟩ ?_; (focus (have e4 : a5.eval (.tmp 4) = (.pointer (some ⟨tb, 0, none⟩)) := F5.ev 4 (by kernel_rfl); generalize a5.eval = ev at e4 ⊢; simp [go_sem, mkO, a1_5t, e4, hu116]; done))
  refine F5.next 15 (.pointer (some ⟨tb, 0, none⟩)) fun a6 F6 => ?_
  clear F5 a5
  refine tr_take a1_6t (.pointer (some ⟨tb, 2, none⟩)) (by kernel_rfl) rfl rfl (fun wq hq => ?_) ⟨(hT0.cell 0 rfl hx0), (hT0.cell 0 rfl hy0), (hT0.cell 0 rfl hx1), (hT0.cell 0 rfl hy1), (hT0.cell 0 rfl hx2), (hT0.cell 0 rfl hy2), (hck0 _ hT0.below), (hck1 _ hT0.below), (hck2 _ hT0.below)⟩ ?_; (focus (have e14 : a6.eval (.tmp 14) = (iv 1) := F6.ev 14 (by kernel_rfl); have e15 : a6.eval (.tmp 15) = (.pointer (some ⟨tb, 0, none⟩)) := F6.ev 15 (by kernel_rfl); generalize a6.eval = ev at e14 e15 ⊢; simp [go_sem, mkO, a1_6t, e14, e15, hu114, hu113]; done))
  refine F6.next 16 (.pointer (some ⟨tb, 2, none⟩)) fun a7 F7 => ?_
  clear F6 a6
  refine tr_take a1_7t (.agg #[vi x1, vi y1]) (by kernel_rfl) rfl rfl (fun wq hq => ?_) ⟨(hT0.cell 0 rfl hx0), (hT0.cell 0 rfl hy0), (hT0.cell 0 rfl hx1), (hT0.cell 0 rfl hy1), (hT0.cell 0 rfl hx2), (hT0.cell 0 rfl hy2), (hck0 _ hT0.below), (hck1 _ hT0.below), (hck2 _ hT0.below)⟩ ?_; (focus (have e16 : a7.eval (.tmp 16) = (.pointer (some ⟨tb, 2, none⟩)) := F7.ev 16 (by kernel_rfl); generalize a7.eval = ev at e16 ⊢; simp [go_sem, mkO, a1_7t, e16, hu113, hq.2.2.1, hq.2.2.2.1]; done))
  refine F7.next 17 (.agg #[vi x1, vi y1]) fun a8 F8 => ?_
  clear F7 a7
  refine tr_take a1_8t (iv 2) (by kernel_rfl) rfl rfl (fun wq hq => ?_) ⟨(hT0.cell 0 rfl hx0), (hT0.cell 0 rfl hy0), (hT0.cell 0 rfl hx1), (hT0.cell 0 rfl hy1), (hT0.cell 0 rfl hx2), (hT0.cell 0 rfl hy2), (hck0 _ hT0.below), (hck1 _ hT0.below), (hck2 _ hT0.below)⟩ ?_; (focus (have e3 : a8.eval (.tmp 3) = (.pointer (some ⟨p2, 0, none⟩)) := F8.ev 3 (by kernel_rfl); generalize a8.eval = ev at e3 ⊢; simp [go_sem, mkO, a1_8t, e3, hq.2.2.2.2.2.2.2.2]; done))
  refine F8.next 18 (iv 2) fun a9 F9 => ?_
  clear F8 a8
  refine tr_take a1_9t (.pointer (some ⟨tb, 0, none⟩)) (by kernel_rfl) rfl rfl (fun wq hq => ?_) ⟨(hT0.cell 0 rfl hx0), (hT0.cell 0 rfl hy0), (hT0.cell 0 rfl hx1), (hT0.cell 0 rfl hy1), (hT0.cell 0 rfl hx2), (hT0.cell 0 rfl hy2), (hck0 _ hT0.below), (hck1 _ hT0.below), (hck2 _ hT0.below)⟩ ?_; (focus (have e4 : a9.eval (.tmp 4) = (.pointer (some ⟨tb, 0, none⟩)) := F9.ev 4 (by kernel_rfl); generalize a9.eval = ev at e4 ⊢; simp [go_sem, mkO, a1_9t, e4, hu116]; done))
  refine F9.next 19 (.pointer (some ⟨tb, 0, none⟩)) fun a10 F10 => ?_
  clear F9 a9
  refine tr_take a1_10t (.pointer (some ⟨tb, 4, none⟩)) (by kernel_rfl) rfl rfl (fun wq hq => ?_) ⟨(hT0.cell 0 rfl hx0), (hT0.cell 0 rfl hy0), (hT0.cell 0 rfl hx1), (hT0.cell 0 rfl hy1), (hT0.cell 0 rfl hx2), (hT0.cell 0 rfl hy2), (hck0 _ hT0.below), (hck1 _ hT0.below), (hck2 _ hT0.below)⟩ ?_; (focus (have e18 : a10.eval (.tmp 18) = (iv 2) := F10.ev 18 (by kernel_rfl); have e19 : a10.eval (.tmp 19) = (.pointer (some ⟨tb, 0, none⟩)) := F10.ev 19 (by kernel_rfl); generalize a10.eval = ev at e18 e19 ⊢; simp [go_sem, mkO, a1_10t, e18, e19, hu114, hu113]; done))
  refine F10.next 20 (.pointer (some ⟨tb, 4, none⟩)) fun a11 F11 => ?_
  clear F10 a10
  refine tr_take a1_11t (.agg #[vi x2, vi y2]) (by kernel_rfl) rfl rfl (fun wq hq => ?_) ⟨(hT0.cell 0 rfl hx0), (hT0.cell 0 rfl hy0), (hT0.cell 0 rfl hx1), (hT0.cell 0 rfl hy1), (hT0.cell 0 rfl hx2), (hT0.cell 0 rfl hy2), (hck0 _ hT0.below), (hck1 _ hT0.below), (hck2 _ hT0.below)⟩ ?_; (focus (have e20 : a11.eval (.tmp 20) = (.pointer (some ⟨tb, 4, none⟩)) := F11.ev 20 (by kernel_rfl); generalize a11.eval = ev at e20 ⊢; simp [go_sem, mkO, a1_11t, e20, hu113, hq.2.2.2.2.1, hq.2.2.2.2.2.1]; done))
  refine F11.next 21 (.agg #[vi x2, vi y2]) fun a12 F12 => ?_
  clear F11 a11
  refine ⟨?_, ?_, ?_⟩
  · have hT1 : Tr w W (X0.alloc (.cells #[.int .i64 0, .int .i64 0] 113)) [(X0.heap.size, .cells #[.int .i64 0, .int .i64 0] 113 (0, 0)), (tb, .cells (T.map vi).toArray 116 (0, 0))] := hT0.alloc (.cells #[.int .i64 0, .int .i64 0] 113)
    refine tr_make a1_12 (.pointer (some ⟨X0.heap.size, 0, none⟩)) (X0.alloc (.cells #[.int .i64 0, .int .i64 0] 113)) (by kernel_rfl) rfl rfl ?_ ⟨(hT1.cell 1 rfl hx0), (hT1.cell 1 rfl hy0), (hT1.cell 1 rfl hx1), (hT1.cell 1 rfl hy1), (hT1.cell 1 rfl hx2), (hT1.cell 1 rfl hy2), (hck0 _ hT1.below), (hck1 _ hT1.below), (hck2 _ hT1.below)⟩ ?_; (focus (simp [go_sem, mkO, a1_12]; done))
    obtain ⟨gu, hggu⟩ : ∃ b, X0.heap.size = b := ⟨_, rfl⟩
    simp only [hggu] at hT1 ⊢
    generalize X0.alloc (.cells #[.int .i64 0, .int .i64 0] 113) = X1 at *
    clear hggu hT0
    clear X0
    refine F12.next 6 (.pointer (some ⟨gu, 0, none⟩)) fun a13 F13 => ?_
    clear F12 a12
    refine ⟨?_, ?_⟩
    · have hT2 : Tr w W (X1.alloc (.cells #[.int .i64 0, .int .i64 0] 113)) [(X1.heap.size, .cells #[.int .i64 0, .int .i64 0] 113 (0, 0)), (gu, .cells #[.int .i64 0, .int .i64 0] 113 (0, 0)), (tb, .cells (T.map vi).toArray 116 (0, 0))] := hT1.alloc (.cells #[.int .i64 0, .int .i64 0] 113)
      refine tr_make a1_13 (.pointer (some ⟨X1.heap.size, 0, none⟩)) (X1.alloc (.cells #[.int .i64 0, .int .i64 0] 113)) (by kernel_rfl) rfl rfl ?_ ⟨(hT2.cell 2 rfl hx0), (hT2.cell 2 rfl hy0), (hT2.cell 2 rfl hx1), (hT2.cell 2 rfl hy1), (hT2.cell 2 rfl hx2), (hT2.cell 2 rfl hy2), (hck0 _ hT2.below), (hck1 _ hT2.below), (hck2 _ hT2.below)⟩ ?_; (focus (simp [go_sem, mkO, a1_13]; done))
      obtain ⟨gv, hggv⟩ : ∃ b, X1.heap.size = b := ⟨_, rfl⟩
      simp only [hggv] at hT2 ⊢
      generalize X1.alloc (.cells #[.int .i64 0, .int .i64 0] 113) = X2 at *
      clear hggv hT1
      clear X1
      refine F13.next 7 (.pointer (some ⟨gv, 0, none⟩)) fun a14 F14 => ?_
      clear F13 a13
      have hT3 : Tr w W (X2.alloc (.cells #[.int .i64 0, .int .i64 0] 113)) [(X2.heap.size, .cells #[.int .i64 0, .int .i64 0] 113 (0, 0)), (gv, .cells #[.int .i64 0, .int .i64 0] 113 (0, 0)), (gu, .cells #[.int .i64 0, .int .i64 0] 113 (0, 0)), (tb, .cells (T.map vi).toArray 116 (0, 0))] := hT2.alloc (.cells #[.int .i64 0, .int .i64 0] 113)
      refine tr_make a1_14 (.pointer (some ⟨X2.heap.size, 0, none⟩)) (X2.alloc (.cells #[.int .i64 0, .int .i64 0] 113)) (by kernel_rfl) rfl rfl ?_ ⟨(hT3.cell 3 rfl hx0), (hT3.cell 3 rfl hy0), (hT3.cell 3 rfl hx1), (hT3.cell 3 rfl hy1), (hT3.cell 3 rfl hx2), (hT3.cell 3 rfl hy2), (hck0 _ hT3.below), (hck1 _ hT3.below), (hck2 _ hT3.below)⟩ ?_; (focus (simp [go_sem, mkO, a1_14]; done))
      obtain ⟨gw, hggw⟩ : ∃ b, X2.heap.size = b := ⟨_, rfl⟩
      simp only [hggw] at hT3 ⊢
      generalize X2.alloc (.cells #[.int .i64 0, .int .i64 0] 113) = X3 at *
      clear hggw hT2
      clear X2
      refine F14.next 8 (.pointer (some ⟨gw, 0, none⟩)) fun a15 F15 => ?_
      clear F14 a14
      have hz := hT3.fz 2 rfl
      have hc0 : X3.cell? ⟨gu, 0, none⟩ = some (.int .i64 0) := hT3.cell 2 rfl rfl
      have hc1 : X3.cell? ⟨gu, 1, none⟩ = some (.int .i64 0) := hT3.cell 2 rfl rfl
      have hT4 : Tr w W ((X3.setCell ⟨gu, 0, none⟩ (vi x0)).setCell ⟨gu, 1, none⟩ (vi y0)) [(gw, .cells #[.int .i64 0, .int .i64 0] 113 (0, 0)), (gv, .cells #[.int .i64 0, .int .i64 0] 113 (0, 0)), (gu, .cells #[vi x0, vi y0] 113 (0, 0)), (tb, .cells (T.map vi).toArray 116 (0, 0))] := ((hT3.set 2 rfl 0 (vi x0)).set 2 rfl 1 (vi y0))
      refine tr_store a1_15 ((X3.setCell ⟨gu, 0, none⟩ (vi x0)).setCell ⟨gu, 1, none⟩ (vi y0)) (by kernel_rfl) rfl rfl ?_ ⟨(hT4.cell 3 rfl hx0), (hT4.cell 3 rfl hy0), (hT4.cell 3 rfl hx1), (hT4.cell 3 rfl hy1), (hT4.cell 3 rfl hx2), (hT4.cell 3 rfl hy2), (hck0 _ hT4.below), (hck1 _ hT4.below), (hck2 _ hT4.below)⟩ ?_; (focus (have e6 : a15.eval (.tmp 6) = (.pointer (some ⟨gu, 0, none⟩)) := F15.ev 6 (by kernel_rfl); have e13 : a15.eval (.tmp 13) = (.agg #[vi x0, vi y0]) := F15.ev 13 (by kernel_rfl); generalize a15.eval = ev at e6 e13 ⊢; simp [go_sem, mkO, a1_15, e6, e13, hz, hc0, hc1, hu113]; done))
      clear hz hc0 hc1
      generalize ((X3.setCell ⟨gu, 0, none⟩ (vi x0)).setCell ⟨gu, 1, none⟩ (vi y0)) = X4 at *
      clear hT3
      clear X3
      show seqT _ _ _ _ _ a15 _
      have hz := hT4.fz 1 rfl
      have hc0 : X4.cell? ⟨gv, 0, none⟩ = some (.int .i64 0) := hT4.cell 1 rfl rfl
      have hc1 : X4.cell? ⟨gv, 1, none⟩ = some (.int .i64 0) := hT4.cell 1 rfl rfl
      have hT5 : Tr w W ((X4.setCell ⟨gv, 0, none⟩ (vi x1)).setCell ⟨gv, 1, none⟩ (vi y1)) [(gw, .cells #[.int .i64 0, .int .i64 0] 113 (0, 0)), (gv, .cells #[vi x1, vi y1] 113 (0, 0)), (gu, .cells #[vi x0, vi y0] 113 (0, 0)), (tb, .cells (T.map vi).toArray 116 (0, 0))] := ((hT4.set 1 rfl 0 (vi x1)).set 1 rfl 1 (vi y1))
      refine tr_store a1_16 ((X4.setCell ⟨gv, 0, none⟩ (vi x1)).setCell ⟨gv, 1, none⟩ (vi y1)) (by kernel_rfl) rfl rfl ?_ ⟨(hT5.cell 3 rfl hx0), (hT5.cell 3 rfl hy0), (hT5.cell 3 rfl hx1), (hT5.cell 3 rfl hy1), (hT5.cell 3 rfl hx2), (hT5.cell 3 rfl hy2), (hck0 _ hT5.below), (hck1 _ hT5.below), (hck2 _ hT5.below)⟩ ?_; (focus (have e7 : a15.eval (.tmp 7) = (.pointer (some ⟨gv, 0, none⟩)) := F15.ev 7 (by kernel_rfl); have e17 : a15.eval (.tmp 17) = (.agg #[vi x1, vi y1]) := F15.ev 17 (by kernel_rfl); generalize a15.eval = ev at e7 e17 ⊢; simp [go_sem, mkO, a1_16, e7, e17, hz, hc0, hc1, hu113]; done))
      clear hz hc0 hc1
      generalize ((X4.setCell ⟨gv, 0, none⟩ (vi x1)).setCell ⟨gv, 1, none⟩ (vi y1)) = X5 at *
      clear hT4
      clear X4
      show seqT _ _ _ _ _ a15 _
      have hz := hT5.fz 0 rfl
      have hc0 : X5.cell? ⟨gw, 0, none⟩ = some (.int .i64 0) := hT5.cell 0 rfl rfl
      have hc1 : X5.cell? ⟨gw, 1, none⟩ = some (.int .i64 0) := hT5.cell 0 rfl rfl
      have hT6 : Tr w W ((X5.setCell ⟨gw, 0, none⟩ (vi x2)).setCell ⟨gw, 1, none⟩ (vi y2)) [(gw, .cells #[vi x2, vi y2] 113 (0, 0)), (gv, .cells #[vi x1, vi y1] 113 (0, 0)), (gu, .cells #[vi x0, vi y0] 113 (0, 0)), (tb, .cells (T.map vi).toArray 116 (0, 0))] := ((hT5.set 0 rfl 0 (vi x2)).set 0 rfl 1 (vi y2))
      refine tr_store a1_17 ((X5.setCell ⟨gw, 0, none⟩ (vi x2)).setCell ⟨gw, 1, none⟩ (vi y2)) (by kernel_rfl) rfl rfl ?_ ⟨(hT6.cell 3 rfl hx0), (hT6.cell 3 rfl hy0), (hT6.cell 3 rfl hx1), (hT6.cell 3 rfl hy1), (hT6.cell 3 rfl hx2), (hT6.cell 3 rfl hy2), (hck0 _ hT6.below), (hck1 _ hT6.below), (hck2 _ hT6.below)⟩ ?_; (focus (have e8 : a15.eval (.tmp 8) = (.pointer (some ⟨gw, 0, none⟩)) := F15.ev 8 (by kernel_rfl); have e21 : a15.eval (.tmp 21) = (.agg #[vi x2, vi y2]) := F15.ev 21 (by kernel_rfl); generalize a15.eval = ev at e8 e21 ⊢; simp [go_sem, mkO, a1_17, e8, e21, hz, hc0, hc1, hu113]; done))
      clear hz hc0 hc1
      generalize ((X5.setCell ⟨gw, 0, none⟩ (vi x2)).setCell ⟨gw, 1, none⟩ (vi y2)) = X6 at *
      clear hT5
      clear X5
      show seqT _ _ _ _ _ a15 _
      exact F15.out hQn hT6.keep ⟨gu, gv, gw, hT6.again, (F15.fin [10, 11, 12, 13, 14, 15, 16, 17, 18, 19, 20, 21] (by kernel_rfl))⟩
    · have hT2 : Tr w W (X1.alloc (.cells #[.int .i64 0, .int .i64 0] 113)) [(X1.heap.size, .cells #[.int .i64 0, .int .i64 0] 113 (0, 0)), (gu, .cells #[.int .i64 0, .int .i64 0] 113 (0, 0)), (tb, .cells (T.map vi).toArray 116 (0, 0))] := hT1.alloc (.cells #[.int .i64 0, .int .i64 0] 113)
      refine tr_make a1_14 (.pointer (some ⟨X1.heap.size, 0, none⟩)) (X1.alloc (.cells #[.int .i64 0, .int .i64 0] 113)) (by kernel_rfl) rfl rfl ?_ ⟨(hT2.cell 2 rfl hx0), (hT2.cell 2 rfl hy0), (hT2.cell 2 rfl hx1), (hT2.cell 2 rfl hy1), (hT2.cell 2 rfl hx2), (hT2.cell 2 rfl hy2), (hck0 _ hT2.below), (hck1 _ hT2.below), (hck2 _ hT2.below)⟩ ?_; (focus (simp [go_sem, mkO, a1_14]; done))
      obtain ⟨gw, hggw⟩ : ∃ b, X1.heap.size = b := ⟨_, rfl⟩
      simp only [hggw] at hT2 ⊢
      generalize X1.alloc (.cells #[.int .i64 0, .int .i64 0] 113) = X2 at *
      clear hggw hT1
      clear X1
      refine F13.next 8 (.pointer (some ⟨gw, 0, none⟩)) fun a14 F14 => ?_
      clear F13 a13
      have hT3 : Tr w W (X2.alloc (.cells #[.int .i64 0, .int .i64 0] 113)) [(X2.heap.size, .cells #[.int .i64 0, .int .i64 0] 113 (0, 0)), (gw, .cells #[.int .i64 0, .int .i64 0] 113 (0, 0)), (gu, .cells #[.int .i64 0, .int .i64 0] 113 (0, 0)), (tb, .cells (T.map vi).toArray 116 (0, 0))] := hT2.alloc (.cells #[.int .i64 0, .int .i64 0] 113)
      refine tr_make a1_13 (.pointer (some ⟨X2.heap.size, 0, none⟩)) (X2.alloc (.cells #[.int .i64 0, .int .i64 0] 113)) (by kernel_rfl) rfl rfl ?_ ⟨(hT3.cell 3 rfl hx0), (hT3.cell 3 rfl hy0), (hT3.cell 3 rfl hx1), (hT3.cell 3 rfl hy1), (hT3.cell 3 rfl hx2), (hT3.cell 3 rfl hy2), (hck0 _ hT3.below), (hck1 _ hT3.below), (hck2 _ hT3.below)⟩ ?_; (focus (simp [go_sem, mkO, a1_13]; done))
      obtain ⟨gv, hggv⟩ : ∃ b, X2.heap.size = b := ⟨_, rfl⟩
      simp only [hggv] at hT3 ⊢
      generalize X2.alloc (.cells #[.int .i64 0, .int .i64 0] 113) = X3 at *
      clear hggv hT2
      clear X2
      refine F14.next 7 (.pointer (some ⟨gv, 0, none⟩)) fun a15 F15 => ?_
      clear F14 a14
      have hz := hT3.fz 2 rfl
      have hc0 : X3.cell? ⟨gu, 0, none⟩ = some (.int .i64 0) := hT3.cell 2 rfl rfl
      have hc1 : X3.cell? ⟨gu, 1, none⟩ = some (.int .i64 0) := hT3.cell 2 rfl rfl
      have hT4 : Tr w W ((X3.setCell ⟨gu, 0, none⟩ (vi x0)).setCell ⟨gu, 1, none⟩ (vi y0)) [(gv, .cells #[.int .i64 0, .int .i64 0] 113 (0, 0)), (gw, .cells #[.int .i64 0, .int .i64 0] 113 (0, 0)), (gu, .cells #[vi x0, vi y0] 113 (0, 0)), (tb, .cells (T.map vi).toArray 116 (0, 0))] := ((hT3.set 2 rfl 0 (vi x0)).set 2 rfl 1 (vi y0))
      refine tr_store a1_15 ((X3.setCell ⟨gu, 0, none⟩ (vi x0)).setCell ⟨gu, 1, none⟩ (vi y0)) (by kernel_rfl) rfl rfl ?_ ⟨(hT4.cell 3 rfl hx0), (hT4.cell 3 rfl hy0), (hT4.cell 3 rfl hx1), (hT4.cell 3 rfl hy1), (hT4.cell 3 rfl hx2), (hT4.cell 3 rfl hy2), (hck0 _ hT4.below), (hck1 _ hT4.below), (hck2 _ hT4.below)⟩ ?_; (focus (have e6 : a15.eval (.tmp 6) = (.pointer (some ⟨gu, 0, none⟩)) := F15.ev 6 (by kernel_rfl); have e13 : a15.eval (.tmp 13) = (.agg #[vi x0, vi y0]) := F15.ev 13 (by kernel_rfl); generalize a15.eval = ev at e6 e13 ⊢; simp [go_sem, mkO, a1_15, e6, e13, hz, hc0, hc1, hu113]; done))
      clear hz hc0 hc1
      generalize ((X3.setCell ⟨gu, 0, none⟩ (vi x0)).setCell ⟨gu, 1, none⟩ (vi y0)) = X4 at *
      clear hT3
      clear X3
      show seqT _ _ _ _ _ a15 _
      have hz := hT4.fz 0 rfl
      have hc0 : X4.cell? ⟨gv, 0, none⟩ = some (.int .i64 0) := hT4.cell 0 rfl rfl
      have hc1 : X4.cell? ⟨gv, 1, none⟩ = some (.int .i64 0) := hT4.cell 0 rfl rfl
      have hT5 : Tr w W ((X4.setCell ⟨gv, 0, none⟩ (vi x1)).setCell ⟨gv, 1, none⟩ (vi y1)) [(gv, .cells #[vi x1, vi y1] 113 (0, 0)), (gw, .cells #[.int .i64 0, .int .i64 0] 113 (0, 0)), (gu, .cells #[vi x0, vi y0] 113 (0, 0)), (tb, .cells (T.map vi).toArray 116 (0, 0))] := ((hT4.set 0 rfl 0 (vi x1)).set 0 rfl 1 (vi y1))
      refine tr_store a1_16 ((X4.setCell ⟨gv, 0, none⟩ (vi x1)).setCell ⟨gv, 1, none⟩ (vi y1)) (by kernel_rfl) rfl rfl ?_ ⟨(hT5.cell 3 rfl hx0), (hT5.cell 3 rfl hy0), (hT5.cell 3 rfl hx1), (hT5.cell 3 rfl hy1), (hT5.cell 3 rfl hx2), (hT5.cell 3 rfl hy2), (hck0 _ hT5.below), (hck1 _ hT5.below), (hck2 _ hT5.below)⟩ ?_; (focus (have e7 : a15.eval (.tmp 7) = (.pointer (some ⟨gv, 0, none⟩)) := F15.ev 7 (by kernel_rfl); have e17 : a15.eval (.tmp 17) = (.agg #[vi x1, vi y1]) := F15.ev 17 (by kernel_rfl); generalize a15.eval = ev at e7 e17 ⊢; simp [go_sem, mkO, a1_16, e7, e17, hz, hc0, hc1, hu113]; done))
      clear hz hc0 hc1
      generalize ((X4.setCell ⟨gv, 0, none⟩ (vi x1)).setCell ⟨gv, 1, none⟩ (vi y1)) = X5 at *
      clear hT4
      clear X4
      show seqT _ _ _ _ _ a15 _
      have hz := hT5.fz 1 rfl
      have hc0 : X5.cell? ⟨gw, 0, none⟩ = some (.int .i64 0) := hT5.cell 1 rfl rfl
      have hc1 : X5.cell? ⟨gw, 1, none⟩ = some (.int .i64 0) := hT5.cell 1 rfl rfl
      have hT6 : Tr w W ((X5.setCell ⟨gw, 0, none⟩ (vi x2)).setCell ⟨gw, 1, none⟩ (vi y2)) [(gv, .cells #[vi x1, vi y1] 113 (0, 0)), (gw, .cells #[vi x2, vi y2] 113 (0, 0)), (gu, .cells #[vi x0, vi y0] 113 (0, 0)), (tb, .cells (T.map vi).toArray 116 (0, 0))] := ((hT5.set 1 rfl 0 (vi x2)).set 1 rfl 1 (vi y2))
      refine tr_store a1_17 ((X5.setCell ⟨gw, 0, none⟩ (vi x2)).setCell ⟨gw, 1, none⟩ (vi y2)) (by kernel_rfl) rfl rfl ?_ ⟨(hT6.cell 3 rfl hx0), (hT6.cell 3 rfl hy0), (hT6.cell 3 rfl hx1), (hT6.cell 3 rfl hy1), (hT6.cell 3 rfl hx2), (hT6.cell 3 rfl hy2), (hck0 _ hT6.below), (hck1 _ hT6.below), (hck2 _ hT6.below)⟩ ?_; (focus (have e8 : a15.eval (.tmp 8) = (.pointer (some ⟨gw, 0, none⟩)) := F15.ev 8 (by kernel_rfl); have e21 : a15.eval (.tmp 21) = (.agg #[vi x2, vi y2]) := F15.ev 21 (by kernel_rfl); generalize a15.eval = ev at e8 e21 ⊢; simp [go_sem, mkO, a1_17, e8, e21, hz, hc0, hc1, hu113]; done))
      clear hz hc0 hc1
      generalize ((X5.setCell ⟨gw, 0, none⟩ (vi x2)).setCell ⟨gw, 1, none⟩ (vi y2)) = X6 at *
      clear hT5
      clear X5
      show seqT _ _ _ _ _ a15 _
      exact F15.out hQn hT6.keep ⟨gu, gv, gw, (hT6.pick [1, 0, 2, 3] (by kernel_rfl) (by kernel_rfl) (by kernel_rfl)).again, (F15.fin [10, 11, 12, 13, 14, 15, 16, 17, 18, 19, 20, 21] (by kernel_rfl))⟩
  · have hT1 : Tr w W (X0.alloc (.cells #[.int .i64 0, .int .i64 0] 113)) [(X0.heap.size, .cells #[.int .i64 0, .int .i64 0] 113 (0, 0)), (tb, .cells (T.map vi).toArray 116 (0, 0))] := hT0.alloc (.cells #[.int .i64 0, .int .i64 0] 113)
    refine tr_make a1_13 (.pointer (some ⟨X0.heap.size, 0, none⟩)) (X0.alloc (.cells #[.int .i64 0, .int .i64 0] 113)) (by kernel_rfl) rfl rfl ?_ ⟨(hT1.cell 1 rfl hx0), (hT1.cell 1 rfl hy0), (hT1.cell 1 rfl hx1), (hT1.cell 1 rfl hy1), (hT1.cell 1 rfl hx2), (hT1.cell 1 rfl hy2), (hck0 _ hT1.below), (hck1 _ hT1.below), (hck2 _ hT1.below)⟩ ?_; (focus (simp [go_sem, mkO, a1_13]; done))
    obtain ⟨gv, hggv⟩ : ∃ b, X0.heap.size = b := ⟨_, rfl⟩
    simp only [hggv] at hT1 ⊢
    generalize X0.alloc (.cells #[.int .i64 0, .int .i64 0] 113) = X1 at *
    clear hggv hT0
    clear X0
    refine F12.next 7 (.pointer (some ⟨gv, 0, none⟩)) fun a13 F13 => ?_
    clear F12 a12
    refine ⟨?_, ?_⟩
    · have hT2 : Tr w W (X1.alloc (.cells #[.int .i64 0, .int .i64 0] 113)) [(X1.heap.size, .cells #[.int .i64 0, .int .i64 0] 113 (0, 0)), (gv, .cells #[.int .i64 0, .int .i64 0] 113 (0, 0)), (tb, .cells (T.map vi).toArray 116 (0, 0))] := hT1.alloc (.cells #[.int .i64 0, .int .i64 0] 113)
      refine tr_make a1_12 (.pointer (some ⟨X1.heap.size, 0, none⟩)) (X1.alloc (.cells #[.int .i64 0, .int .i64 0] 113)) (by kernel_rfl) rfl rfl ?_ ⟨(hT2.cell 2 rfl hx0), (hT2.cell 2 rfl hy0), (hT2.cell 2 rfl hx1), (hT2.cell 2 rfl hy1), (hT2.cell 2 rfl hx2), (hT2.cell 2 rfl hy2), (hck0 _ hT2.below), (hck1 _ hT2.below), (hck2 _ hT2.below)⟩ ?_; (focus (simp [go_sem, mkO, a1_12]; done))
      obtain ⟨gu, hggu⟩ : ∃ b, X1.heap.size = b := ⟨_, rfl⟩
      simp only [hggu] at hT2 ⊢
      generalize X1.alloc (.cells #[.int .i64 0, .int .i64 0] 113) = X2 at *
      clear hggu hT1
      clear X1
      refine F13.next 6 (.pointer (some ⟨gu, 0, none⟩)) fun a14 F14 => ?_
      clear F13 a13
      have hT3 : Tr w W (X2.alloc (.cells #[.int .i64 0, .int .i64 0] 113)) [(X2.heap.size, .cells #[.int .i64 0, .int .i64 0] 113 (0, 0)), (gu, .cells #[.int .i64 0, .int .i64 0] 113 (0, 0)), (gv, .cells #[.int .i64 0, .int .i64 0] 113 (0, 0)), (tb, .cells (T.map vi).toArray 116 (0, 0))] := hT2.alloc (.cells #[.int .i64 0, .int .i64 0] 113)
      refine tr_make a1_14 (.pointer (some ⟨X2.heap.size, 0, none⟩)) (X2.alloc (.cells #[.int .i64 0, .int .i64 0] 113)) (by kernel_rfl) rfl rfl ?_ ⟨(hT3.cell 3 rfl hx0), (hT3.cell 3 rfl hy0), (hT3.cell 3 rfl hx1), (hT3.cell 3 rfl hy1), (hT3.cell 3 rfl hx2), (hT3.cell 3 rfl hy2), (hck0 _ hT3.below), (hck1 _ hT3.below), (hck2 _ hT3.below)⟩ ?_; (focus (simp [go_sem, mkO, a1_14]; done))
      obtain ⟨gw, hggw⟩ : ∃ b, X2.heap.size = b := ⟨_, rfl⟩
      simp only [hggw] at hT3 ⊢
      generalize X2.alloc (.cells #[.int .i64 0, .int .i64 0] 113) = X3 at *
      clear hggw hT2
      clear X2
      refine F14.next 8 (.pointer (some ⟨gw, 0, none⟩)) fun a15 F15 => ?_
      clear F14 a14
      have hz := hT3.fz 1 rfl
      have hc0 : X3.cell? ⟨gu, 0, none⟩ = some (.int .i64 0) := hT3.cell 1 rfl rfl
      have hc1 : X3.cell? ⟨gu, 1, none⟩ = some (.int .i64 0) := hT3.cell 1 rfl rfl
      have hT4 : Tr w W ((X3.setCell ⟨gu, 0, none⟩ (vi x0)).setCell ⟨gu, 1, none⟩ (vi y0)) [(gw, .cells #[.int .i64 0, .int .i64 0] 113 (0, 0)), (gu, .cells #[vi x0, vi y0] 113 (0, 0)), (gv, .cells #[.int .i64 0, .int .i64 0] 113 (0, 0)), (tb, .cells (T.map vi).toArray 116 (0, 0))] := ((hT3.set 1 rfl 0 (vi x0)).set 1 rfl 1 (vi y0))
      refine tr_store a1_15 ((X3.setCell ⟨gu, 0, none⟩ (vi x0)).setCell ⟨gu, 1, none⟩ (vi y0)) (by kernel_rfl) rfl rfl ?_ ⟨(hT4.cell 3 rfl hx0), (hT4.cell 3 rfl hy0), (hT4.cell 3 rfl hx1), (hT4.cell 3 rfl hy1), (hT4.cell 3 rfl hx2), (hT4.cell 3 rfl hy2), (hck0 _ hT4.below), (hck1 _ hT4.below), (hck2 _ hT4.below)⟩ ?_; (focus (have e6 : a15.eval (.tmp 6) = (.pointer (some ⟨gu, 0, none⟩)) := F15.ev 6 (by kernel_rfl); have e13 : a15.eval (.tmp 13) = (.agg #[vi x0, vi y0]) := F15.ev 13 (by kernel_rfl); generalize a15.eval = ev at e6 e13 ⊢; simp [go_sem, mkO, a1_15, e6, e13, hz, hc0, hc1, hu113]; done))
      clear hz hc0 hc1
      generalize ((X3.setCell ⟨gu, 0, none⟩ (vi x0)).setCell ⟨gu, 1, none⟩ (vi y0)) = X4 at *
      clear hT3
      clear X3
      show seqT _ _ _ _ _ a15 _
      have hz := hT4.fz 2 rfl
      have hc0 : X4.cell? ⟨gv, 0, none⟩ = some (.int .i64 0) := hT4.cell 2 rfl rfl
      have hc1 : X4.cell? ⟨gv, 1, none⟩ = some (.int .i64 0) := hT4.cell 2 rfl rfl
      have hT5 : Tr w W ((X4.setCell ⟨gv, 0, none⟩ (vi x1)).setCell ⟨gv, 1, none⟩ (vi y1)) [(gw, .cells #[.int .i64 0, .int .i64 0] 113 (0, 0)), (gu, .cells #[vi x0, vi y0] 113 (0, 0)), (gv, .cells #[vi x1, vi y1] 113 (0, 0)), (tb, .cells (T.map vi).toArray 116 (0, 0))] := ((hT4.set 2 rfl 0 (vi x1)).set 2 rfl 1 (vi y1))
      refine tr_store a1_16 ((X4.setCell ⟨gv, 0, none⟩ (vi x1)).setCell ⟨gv, 1, none⟩ (vi y1)) (by kernel_rfl) rfl rfl ?_ ⟨(hT5.cell 3 rfl hx0), (hT5.cell 3 rfl hy0), (hT5.cell 3 rfl hx1), (hT5.cell 3 rfl hy1), (hT5.cell 3 rfl hx2), (hT5.cell 3 rfl hy2), (hck0 _ hT5.below), (hck1 _ hT5.below), (hck2 _ hT5.below)⟩ ?_; (focus (have e7 : a15.eval (.tmp 7) = (.pointer (some ⟨gv, 0, none⟩)) := F15.ev 7 (by kernel_rfl); have e17 : a15.eval (.tmp 17) = (.agg #[vi x1, vi y1]) := F15.ev 17 (by kernel_rfl); generalize a15.eval = ev at e7 e17 ⊢; simp [go_sem, mkO, a1_16, e7, e17, hz, hc0, hc1, hu113]; done))
      clear hz hc0 hc1
      generalize ((X4.setCell ⟨gv, 0, none⟩ (vi x1)).setCell ⟨gv, 1, none⟩ (vi y1)) = X5 at *
      clear hT4
      clear X4
      show seqT _ _ _ _ _ a15 _
      have hz := hT5.fz 0 rfl
      have hc0 : X5.cell? ⟨gw, 0, none⟩ = some (.int .i64 0) := hT5.cell 0 rfl rfl
      have hc1 : X5.cell? ⟨gw, 1, none⟩ = some (.int .i64 0) := hT5.cell 0 rfl rfl
      have hT6 : Tr w W ((X5.setCell ⟨gw, 0, none⟩ (vi x2)).setCell ⟨gw, 1, none⟩ (vi y2)) [(gw, .cells #[vi x2, vi y2] 113 (0, 0)), (gu, .cells #[vi x0, vi y0] 113 (0, 0)), (gv, .cells #[vi x1, vi y1] 113 (0, 0)), (tb, .cells (T.map vi).toArray 116 (0, 0))] := ((hT5.set 0 rfl 0 (vi x2)).set 0 rfl 1 (vi y2))
      refine tr_store a1_17 ((X5.setCell ⟨gw, 0, none⟩ (vi x2)).setCell ⟨gw, 1, none⟩ (vi y2)) (by kernel_rfl) rfl rfl ?_ ⟨(hT6.cell 3 rfl hx0), (hT6.cell 3 rfl hy0), (hT6.cell 3 rfl hx1), (hT6.cell 3 rfl hy1), (hT6.cell 3 rfl hx2), (hT6.cell 3 rfl hy2), (hck0 _ hT6.below), (hck1 _ hT6.below), (hck2 _ hT6.below)⟩ ?_; (focus (have e8 : a15.eval (.tmp 8) = (.pointer (some ⟨gw, 0, none⟩)) := F15.ev 8 (by kernel_rfl); have e21 : a15.eval (.tmp 21) = (.agg #[vi x2, vi y2]) := F15.ev 21 (by kernel_rfl); generalize a15.eval = ev at e8 e21 ⊢; simp [go_sem, mkO, a1_17, e8, e21, hz, hc0, hc1, hu113]; done))
      clear hz hc0 hc1
      generalize ((X5.setCell ⟨gw, 0, none⟩ (vi x2)).setCell ⟨gw, 1, none⟩ (vi y2)) = X6 at *
      clear hT5
      clear X5
      show seqT _ _ _ _ _ a15 _
      exact F15.out hQn hT6.keep ⟨gu, gv, gw, (hT6.pick [0, 2, 1, 3] (by kernel_rfl) (by kernel_rfl) (by kernel_rfl)).again, (F15.fin [10, 11, 12, 13, 14, 15, 16, 17, 18, 19, 20, 21] (by kernel_rfl))⟩
    · have hT2 : Tr w W (X1.alloc (.cells #[.int .i64 0, .int .i64 0] 113)) [(X1.heap.size, .cells #[.int .i64 0, .int .i64 0] 113 (0, 0)), (gv, .cells #[.int .i64 0, .int .i64 0] 113 (0, 0)), (tb, .cells (T.map vi).toArray 116 (0, 0))] := hT1.alloc (.cells #[.int .i64 0, .int .i64 0] 113)
      refine tr_make a1_14 (.pointer (some ⟨X1.heap.size, 0, none⟩)) (X1.alloc (.cells #[.int .i64 0, .int .i64 0] 113)) (by kernel_rfl) rfl rfl ?_ ⟨(hT2.cell 2 rfl hx0), (hT2.cell 2 rfl hy0), (hT2.cell 2 rfl hx1), (hT2.cell 2 rfl hy1), (hT2.cell 2 rfl hx2), (hT2.cell 2 rfl hy2), (hck0 _ hT2.below), (hck1 _ hT2.below), (hck2 _ hT2.below)⟩ ?_; (focus (simp [go_sem, mkO, a1_14]; done))
      obtain ⟨gw, hggw⟩ : ∃ b, X1.heap.size = b := ⟨_, rfl⟩
      simp only [hggw] at hT2 ⊢
      generalize X1.alloc (.cells #[.int .i64 0, .int .i64 0] 113) = X2 at *
      clear hggw hT1
      clear X1
      refine F13.next 8 (.pointer (some ⟨gw, 0, none⟩)) fun a14 F14 => ?_
      clear F13 a13
      have hT3 : Tr w W (X2.alloc (.cells #[.int .i64 0, .int .i64 0] 113)) [(X2.heap.size, .cells #[.int .i64 0, .int .i64 0] 113 (0, 0)), (gw, .cells #[.int .i64 0, .int .i64 0] 113 (0, 0)), (gv, .cells #[.int .i64 0, .int .i64 0] 113 (0, 0)), (tb, .cells (T.map vi).toArray 116 (0, 0))] := hT2.alloc (.cells #[.int .i64 0, .int .i64 0] 113)
      refine tr_make a1_12 (.pointer (some ⟨X2.heap.size, 0, none⟩)) (X2.alloc (.cells #[.int .i64 0, .int .i64 0] 113)) (by kernel_rfl) rfl rfl ?_ ⟨(hT3.cell 3 rfl hx0), (hT3.cell 3 rfl hy0), (hT3.cell 3 rfl hx1), (hT3.cell 3 rfl hy1), (hT3.cell 3 rfl hx2), (hT3.cell 3 rfl hy2), (hck0 _ hT3.below), (hck1 _ hT3.below), (hck2 _ hT3.below)⟩ ?_; (focus (simp [go_sem, mkO, a1_12]; done))
      obtain ⟨gu, hggu⟩ : ∃ b, X2.heap.size = b := ⟨_, rfl⟩
      simp only [hggu] at hT3 ⊢
      generalize X2.alloc (.cells #[.int .i64 0, .int .i64 0] 113) = X3 at *
      clear hggu hT2
      clear X2
      refine F14.next 6 (.pointer (some ⟨gu, 0, none⟩)) fun a15 F15 => ?_
      clear F14 a14
      have hz := hT3.fz 0 rfl
      have hc0 : X3.cell? ⟨gu, 0, none⟩ = some (.int .i64 0) := hT3.cell 0 rfl rfl
      have hc1 : X3.cell? ⟨gu, 1, none⟩ = some (.int .i64 0) := hT3.cell 0 rfl rfl
      have hT4 : Tr w W ((X3.setCell ⟨gu, 0, none⟩ (vi x0)).setCell ⟨gu, 1, none⟩ (vi y0)) [(gu, .cells #[vi x0, vi y0] 113 (0, 0)), (gw, .cells #[.int .i64 0, .int .i64 0] 113 (0, 0)), (gv, .cells #[.int .i64 0, .int .i64 0] 113 (0, 0)), (tb, .cells (T.map vi).toArray 116 (0, 0))] := ((hT3.set 0 rfl 0 (vi x0)).set 0 rfl 1 (vi y0))
      refine tr_store a1_15 ((X3.setCell ⟨gu, 0, none⟩ (vi x0)).setCell ⟨gu, 1, none⟩ (vi y0)) (by kernel_rfl) rfl rfl ?_ ⟨(hT4.cell 3 rfl hx0), (hT4.cell 3 rfl hy0), (hT4.cell 3 rfl hx1), (hT4.cell 3 rfl hy1), (hT4.cell 3 rfl hx2), (hT4.cell 3 rfl hy2), (hck0 _ hT4.below), (hck1 _ hT4.below), (hck2 _ hT4.below)⟩ ?_; (focus (have e6 : a15.eval (.tmp 6) = (.pointer (some ⟨gu, 0, none⟩)) := F15.ev 6 (by kernel_rfl); have e13 : a15.eval (.tmp 13) = (.agg #[vi x0, vi y0]) := F15.ev 13 (by kernel_rfl); generalize a15.eval = ev at e6 e13 ⊢; simp [go_sem, mkO, a1_15, e6, e13, hz, hc0, hc1, hu113]; done))
      clear hz hc0 hc1
      generalize ((X3.setCell ⟨gu, 0, none⟩ (vi x0)).setCell ⟨gu, 1, none⟩ (vi y0)) = X4 at *
      clear hT3
      clear X3
      show seqT _ _ _ _ _ a15 _
      have hz := hT4.fz 2 rfl
      have hc0 : X4.cell? ⟨gv, 0, none⟩ = some (.int .i64 0) := hT4.cell 2 rfl rfl
      have hc1 : X4.cell? ⟨gv, 1, none⟩ = some (.int .i64 0) := hT4.cell 2 rfl rfl
      have hT5 : Tr w W ((X4.setCell ⟨gv, 0, none⟩ (vi x1)).setCell ⟨gv, 1, none⟩ (vi y1)) [(gu, .cells #[vi x0, vi y0] 113 (0, 0)), (gw, .cells #[.int .i64 0, .int .i64 0] 113 (0, 0)), (gv, .cells #[vi x1, vi y1] 113 (0, 0)), (tb, .cells (T.map vi).toArray 116 (0, 0))] := ((hT4.set 2 rfl 0 (vi x1)).set 2 rfl 1 (vi y1))
      refine tr_store a1_16 ((X4.setCell ⟨gv, 0, none⟩ (vi x1)).setCell ⟨gv, 1, none⟩ (vi y1)) (by kernel_rfl) rfl rfl ?_ ⟨(hT5.cell 3 rfl hx0), (hT5.cell 3 rfl hy0), (hT5.cell 3 rfl hx1), (hT5.cell 3 rfl hy1), (hT5.cell 3 rfl hx2), (hT5.cell 3 rfl hy2), (hck0 _ hT5.below), (hck1 _ hT5.below), (hck2 _ hT5.below)⟩ ?_; (focus (have e7 : a15.eval (.tmp 7) = (.pointer (some ⟨gv, 0, none⟩)) := F15.ev 7 (by kernel_rfl); have e17 : a15.eval (.tmp 17) = (.agg #[vi x1, vi y1]) := F15.ev 17 (by kernel_rfl); generalize a15.eval = ev at e7 e17 ⊢; simp [go_sem, mkO, a1_16, e7, e17, hz, hc0, hc1, hu113]; done))
      clear hz hc0 hc1
      generalize ((X4.setCell ⟨gv, 0, none⟩ (vi x1)).setCell ⟨gv, 1, none⟩ (vi y1)) = X5 at *
      clear hT4
      clear X4
      show seqT _ _ _ _ _ a15 _
      have hz := hT5.fz 1 rfl
      have hc0 : X5.cell? ⟨gw, 0, none⟩ = some (.int .i64 0) := hT5.cell 1 rfl rfl
      have hc1 : X5.cell? ⟨gw, 1, none⟩ = some (.int .i64 0) := hT5.cell 1 rfl rfl
      have hT6 : Tr w W ((X5.setCell ⟨gw, 0, none⟩ (vi x2)).setCell ⟨gw, 1, none⟩ (vi y2)) [(gu, .cells #[vi x0, vi y0] 113 (0, 0)), (gw, .cells #[vi x2, vi y2] 113 (0, 0)), (gv, .cells #[vi x1, vi y1] 113 (0, 0)), (tb, .cells (T.map vi).toArray 116 (0, 0))] := ((hT5.set 1 rfl 0 (vi x2)).set 1 rfl 1 (vi y2))
      refine tr_store a1_17 ((X5.setCell ⟨gw, 0, none⟩ (vi x2)).setCell ⟨gw, 1, none⟩ (vi y2)) (by kernel_rfl) rfl rfl ?_ ⟨(hT6.cell 3 rfl hx0), (hT6.cell 3 rfl hy0), (hT6.cell 3 rfl hx1), (hT6.cell 3 rfl hy1), (hT6.cell 3 rfl hx2), (hT6.cell 3 rfl hy2), (hck0 _ hT6.below), (hck1 _ hT6.below), (hck2 _ hT6.below)⟩ ?_; (focus (have e8 : a15.eval (.tmp 8) = (.pointer (some ⟨gw, 0, none⟩)) := F15.ev 8 (by kernel_rfl); have e21 : a15.eval (.tmp 21) = (.agg #[vi x2, vi y2]) := F15.ev 21 (by kernel_rfl); generalize a15.eval = ev at e8 e21 ⊢; simp [go_sem, mkO, a1_17, e8, e21, hz, hc0, hc1, hu113]; done))
      clear hz hc0 hc1
      generalize ((X5.setCell ⟨gw, 0, none⟩ (vi x2)).setCell ⟨gw, 1, none⟩ (vi y2)) = X6 at *
      clear hT5
      clear X5
      show seqT _ _ _ _ _ a15 _
      exact F15.out hQn hT6.keep ⟨gu, gv, gw, (hT6.pick [1, 2, 0, 3] (by kernel_rfl) (by kernel_rfl) (by kernel_rfl)).again, (F15.fin [10, 11, 12, 13, 14, 15, 16, 17, 18, 19, 20, 21] (by kernel_rfl))⟩
  · have hT1 : Tr w W (X0.alloc (.cells #[.int .i64 0, .int .i64 0] 113)) [(X0.heap.size, .cells #[.int .i64 0, .int .i64 0] 113 (0, 0)), (tb, .cells (T.map vi).toArray 116 (0, 0))] := hT0.alloc (.cells #[.int .i64 0, .int .i64 0] 113)
    refine tr_make a1_14 (.pointer (some ⟨X0.heap.size, 0, none⟩)) (X0.alloc (.cells #[.int .i64 0, .int .i64 0] 113)) (by kernel_rfl) rfl rfl ?_ ⟨(hT1.cell 1 rfl hx0), (hT1.cell 1 rfl hy0), (hT1.cell 1 rfl hx1), (hT1.cell 1 rfl hy1), (hT1.cell 1 rfl hx2), (hT1.cell 1 rfl hy2), (hck0 _ hT1.below), (hck1 _ hT1.below), (hck2 _ hT1.below)⟩ ?_; (focus (simp [go_sem, mkO, a1_14]; done))
    obtain ⟨gw, hggw⟩ : ∃ b, X0.heap.size = b := ⟨_, rfl⟩
    simp only [hggw] at hT1 ⊢
    generalize X0.alloc (.cells #[.int .i64 0, .int .i64 0] 113) = X1 at *
    clear hggw hT0
    clear X0
    refine F12.next 8 (.pointer (some ⟨gw, 0, none⟩)) fun a13 F13 => ?_
    clear F12 a12
    refine ⟨?_, ?_⟩
    · have hT2 : Tr w W (X1.alloc (.cells #[.int .i64 0, .int .i64 0] 113)) [(X1.heap.size, .cells #[.int .i64 0, .int .i64 0] 113 (0, 0)), (gw, .cells #[.int .i64 0, .int .i64 0] 113 (0, 0)), (tb, .cells (T.map vi).toArray 116 (0, 0))] := hT1.alloc (.cells #[.int .i64 0, .int .i64 0] 113)
      refine tr_make a1_12 (.pointer (some ⟨X1.heap.size, 0, none⟩)) (X1.alloc (.cells #[.int .i64 0, .int .i64 0] 113)) (by kernel_rfl) rfl rfl ?_ ⟨(hT2.cell 2 rfl hx0), (hT2.cell 2 rfl hy0), (hT2.cell 2 rfl hx1), (hT2.cell 2 rfl hy1), (hT2.cell 2 rfl hx2), (hT2.cell 2 rfl hy2), (hck0 _ hT2.below), (hck1 _ hT2.below), (hck2 _ hT2.below)⟩ ?_; (focus (simp [go_sem, mkO, a1_12]; done))
      obtain ⟨gu, hggu⟩ : ∃ b, X1.heap.size = b := ⟨_, rfl⟩
      simp only [hggu] at hT2 ⊢
      generalize X1.alloc (.cells #[.int .i64 0, .int .i64 0] 113) = X2 at *
      clear hggu hT1
      clear X1
      refine F13.next 6 (.pointer (some ⟨gu, 0, none⟩)) fun a14 F14 => ?_
      clear F13 a13
      have hT3 : Tr w W (X2.alloc (.cells #[.int .i64 0, .int .i64 0] 113)) [(X2.heap.size, .cells #[.int .i64 0, .int .i64 0] 113 (0, 0)), (gu, .cells #[.int .i64 0, .int .i64 0] 113 (0, 0)), (gw, .cells #[.int .i64 0, .int .i64 0] 113 (0, 0)), (tb, .cells (T.map vi).toArray 116 (0, 0))] := hT2.alloc (.cells #[.int .i64 0, .int .i64 0] 113)
      refine tr_make a1_13 (.pointer (some ⟨X2.heap.size, 0, none⟩)) (X2.alloc (.cells #[.int .i64 0, .int .i64 0] 113)) (by kernel_rfl) rfl rfl ?_ ⟨(hT3.cell 3 rfl hx0), (hT3.cell 3 rfl hy0), (hT3.cell 3 rfl hx1), (hT3.cell 3 rfl hy1), (hT3.cell 3 rfl hx2), (hT3.cell 3 rfl hy2), (hck0 _ hT3.below), (hck1 _ hT3.below), (hck2 _ hT3.below)⟩ ?_; (focus (simp [go_sem, mkO, a1_13]; done))
      obtain ⟨gv, hggv⟩ : ∃ b, X2.heap.size = b := ⟨_, rfl⟩
      simp only [hggv] at hT3 ⊢
      generalize X2.alloc (.cells #[.int .i64 0, .int .i64 0] 113) = X3 at *
      clear hggv hT2
      clear X2
      refine F14.next 7 (.pointer (some ⟨gv, 0, none⟩)) fun a15 F15 => ?_
      clear F14 a14
      have hz := hT3.fz 1 rfl
      have hc0 : X3.cell? ⟨gu, 0, none⟩ = some (.int .i64 0) := hT3.cell 1 rfl rfl
      have hc1 : X3.cell? ⟨gu, 1, none⟩ = some (.int .i64 0) := hT3.cell 1 rfl rfl
      have hT4 : Tr w W ((X3.setCell ⟨gu, 0, none⟩ (vi x0)).setCell ⟨gu, 1, none⟩ (vi y0)) [(gv, .cells #[.int .i64 0, .int .i64 0] 113 (0, 0)), (gu, .cells #[vi x0, vi y0] 113 (0, 0)), (gw, .cells #[.int .i64 0, .int .i64 0] 113 (0, 0)), (tb, .cells (T.map vi).toArray 116 (0, 0))] := ((hT3.set 1 rfl 0 (vi x0)).set 1 rfl 1 (vi y0))
      refine tr_store a1_15 ((X3.setCell ⟨gu, 0, none⟩ (vi x0)).setCell ⟨gu, 1, none⟩ (vi y0)) (by kernel_rfl) rfl rfl ?_ ⟨(hT4.cell 3 rfl hx0), (hT4.cell 3 rfl hy0), (hT4.cell 3 rfl hx1), (hT4.cell 3 rfl hy1), (hT4.cell 3 rfl hx2), (hT4.cell 3 rfl hy2), (hck0 _ hT4.below), (hck1 _ hT4.below), (hck2 _ hT4.below)⟩ ?_; (focus (have e6 : a15.eval (.tmp 6) = (.pointer (some ⟨gu, 0, none⟩)) := F15.ev 6 (by kernel_rfl); have e13 : a15.eval (.tmp 13) = (.agg #[vi x0, vi y0]) := F15.ev 13 (by kernel_rfl); generalize a15.eval = ev at e6 e13 ⊢; simp [go_sem, mkO, a1_15, e6, e13, hz, hc0, hc1, hu113]; done))
      clear hz hc0 hc1
      generalize ((X3.setCell ⟨gu, 0, none⟩ (vi x0)).setCell ⟨gu, 1, none⟩ (vi y0)) = X4 at *
      clear hT3
      clear X3
      show seqT _ _ _ _ _ a15 _
      have hz := hT4.fz 0 rfl
      have hc0 : X4.cell? ⟨gv, 0, none⟩ = some (.int .i64 0) := hT4.cell 0 rfl rfl
      have hc1 : X4.cell? ⟨gv, 1, none⟩ = some (.int .i64 0) := hT4.cell 0 rfl rfl
      have hT5 : Tr w W ((X4.setCell ⟨gv, 0, none⟩ (vi x1)).setCell ⟨gv, 1, none⟩ (vi y1)) [(gv, .cells #[vi x1, vi y1] 113 (0, 0)), (gu, .cells #[vi x0, vi y0] 113 (0, 0)), (gw, .cells #[.int .i64 0, .int .i64 0] 113 (0, 0)), (tb, .cells (T.map vi).toArray 116 (0, 0))] := ((hT4.set 0 rfl 0 (vi x1)).set 0 rfl 1 (vi y1))
      refine tr_store a1_16 ((X4.setCell ⟨gv, 0, none⟩ (vi x1)).setCell ⟨gv, 1, none⟩ (vi y1)) (by kernel_rfl) rfl rfl ?_ ⟨(hT5.cell 3 rfl hx0), (hT5.cell 3 rfl hy0), (hT5.cell 3 rfl hx1), (hT5.cell 3 rfl hy1), (hT5.cell 3 rfl hx2), (hT5.cell 3 rfl hy2), (hck0 _ hT5.below), (hck1 _ hT5.below), (hck2 _ hT5.below)⟩ ?_; (focus (have e7 : a15.eval (.tmp 7) = (.pointer (some ⟨gv, 0, none⟩)) := F15.ev 7 (by kernel_rfl); have e17 : a15.eval (.tmp 17) = (.agg #[vi x1, vi y1]) := F15.ev 17 (by kernel_rfl); generalize a15.eval = ev at e7 e17 ⊢; simp [go_sem, mkO, a1_16, e7, e17, hz, hc0, hc1, hu113]; done))
      clear hz hc0 hc1
      generalize ((X4.setCell ⟨gv, 0, none⟩ (vi x1)).setCell ⟨gv, 1, none⟩ (vi y1)) = X5 at *
      clear hT4
      clear X4
      show seqT _ _ _ _ _ a15 _
      have hz := hT5.fz 2 rfl
      have hc0 : X5.cell? ⟨gw, 0, none⟩ = some (.int .i64 0) := hT5.cell 2 rfl rfl
      have hc1 : X5.cell? ⟨gw, 1, none⟩ = some (.int .i64 0) := hT5.cell 2 rfl rfl
      have hT6 : Tr w W ((X5.setCell ⟨gw, 0, none⟩ (vi x2)).setCell ⟨gw, 1, none⟩ (vi y2)) [(gv, .cells #[vi x1, vi y1] 113 (0, 0)), (gu, .cells #[vi x0, vi y0] 113 (0, 0)), (gw, .cells #[vi x2, vi y2] 113 (0, 0)), (tb, .cells (T.map vi).toArray 116 (0, 0))] := ((hT5.set 2 rfl 0 (vi x2)).set 2 rfl 1 (vi y2))
      refine tr_store a1_17 ((X5.setCell ⟨gw, 0, none⟩ (vi x2)).setCell ⟨gw, 1, none⟩ (vi y2)) (by kernel_rfl) rfl rfl ?_ ⟨(hT6.cell 3 rfl hx0), (hT6.cell 3 rfl hy0), (hT6.cell 3 rfl hx1), (hT6.cell 3 rfl hy1), (hT6.cell 3 rfl hx2), (hT6.cell 3 rfl hy2), (hck0 _ hT6.below), (hck1 _ hT6.below), (hck2 _ hT6.below)⟩ ?_; (focus (have e8 : a15.eval (.tmp 8) = (.pointer (some ⟨gw, 0, none⟩)) := F15.ev 8 (by kernel_rfl); have e21 : a15.eval (.tmp 21) = (.agg #[vi x2, vi y2]) := F15.ev 21 (by kernel_rfl); generalize a15.eval = ev at e8 e21 ⊢; simp [go_sem, mkO, a1_17, e8, e21, hz, hc0, hc1, hu113]; done))
      clear hz hc0 hc1
      generalize ((X5.setCell ⟨gw, 0, none⟩ (vi x2)).setCell ⟨gw, 1, none⟩ (vi y2)) = X6 at *
      clear hT5
      clear X5
      show seqT _ _ _ _ _ a15 _
      exact F15.out hQn hT6.keep ⟨gu, gv, gw, (hT6.pick [2, 0, 1, 3] (by kernel_rfl) (by kernel_rfl) (by kernel_rfl)).again, (F15.fin [10, 11, 12, 13, 14, 15, 16, 17, 18, 19, 20, 21] (by kernel_rfl))⟩
    · have hT2 : Tr w W (X1.alloc (.cells #[.int .i64 0, .int .i64 0] 113)) [(X1.heap.size, .cells #[.int .i64 0, .int .i64 0] 113 (0, 0)), (gw, .cells #[.int .i64 0, .int .i64 0] 113 (0, 0)), (tb, .cells (T.map vi).toArray 116 (0, 0))] := hT1.alloc (.cells #[.int .i64 0, .int .i64 0] 113)
      refine tr_make a1_13 (.pointer (some ⟨X1.heap.size, 0, none⟩)) (X1.alloc (.cells #[.int .i64 0, .int .i64 0] 113)) (by kernel_rfl) rfl rfl ?_ ⟨(hT2.cell 2 rfl hx0), (hT2.cell 2 rfl hy0), (hT2.cell 2 rfl hx1), (hT2.cell 2 rfl hy1), (hT2.cell 2 rfl hx2), (hT2.cell 2 rfl hy2), (hck0 _ hT2.below), (hck1 _ hT2.below), (hck2 _ hT2.below)⟩ ?_; (focus (simp [go_sem, mkO, a1_13]; done))
      obtain ⟨gv, hggv⟩ : ∃ b, X1.heap.size = b := ⟨_, rfl⟩
      simp only [hggv] at hT2 ⊢
      generalize X1.alloc (.cells #[.int .i64 0, .int .i64 0] 113) = X2 at *
      clear hggv hT1
      clear X1
      refine F13.next 7 (.pointer (some ⟨gv, 0, none⟩)) fun a14 F14 => ?_
      clear F13 a13
      have hT3 : Tr w W (X2.alloc (.cells #[.int .i64 0, .int .i64 0] 113)) [(X2.heap.size, .cells #[.int .i64 0, .int .i64 0] 113 (0, 0)), (gv, .cells #[.int .i64 0, .int .i64 0] 113 (0, 0)), (gw, .cells #[.int .i64 0, .int .i64 0] 113 (0, 0)), (tb, .cells (T.map vi).toArray 116 (0, 0))] := hT2.alloc (.cells #[.int .i64 0, .int .i64 0] 113)
      refine tr_make a1_12 (.pointer (some ⟨X2.heap.size, 0, none⟩)) (X2.alloc (.cells #[.int .i64 0, .int .i64 0] 113)) (by kernel_rfl) rfl rfl ?_ ⟨(hT3.cell 3 rfl hx0), (hT3.cell 3 rfl hy0), (hT3.cell 3 rfl hx1), (hT3.cell 3 rfl hy1), (hT3.cell 3 rfl hx2), (hT3.cell 3 rfl hy2), (hck0 _ hT3.below), (hck1 _ hT3.below), (hck2 _ hT3.below)⟩ ?_; (focus (simp [go_sem, mkO, a1_12]; done))
      obtain ⟨gu, hggu⟩ : ∃ b, X2.heap.size = b := ⟨_, rfl⟩
      simp only [hggu] at hT3 ⊢
      generalize X2.alloc (.cells #[.int .i64 0, .int .i64 0] 113) = X3 at *
      clear hggu hT2
      clear X2
      refine F14.next 6 (.pointer (some ⟨gu, 0, none⟩)) fun a15 F15 => ?_
      clear F14 a14
      have hz := hT3.fz 0 rfl
      have hc0 : X3.cell? ⟨gu, 0, none⟩ = some (.int .i64 0) := hT3.cell 0 rfl rfl
      have hc1 : X3.cell? ⟨gu, 1, none⟩ = some (.int .i64 0) := hT3.cell 0 rfl rfl
      have hT4 : Tr w W ((X3.setCell ⟨gu, 0, none⟩ (vi x0)).setCell ⟨gu, 1, none⟩ (vi y0)) [(gu, .cells #[vi x0, vi y0] 113 (0, 0)), (gv, .cells #[.int .i64 0, .int .i64 0] 113 (0, 0)), (gw, .cells #[.int .i64 0, .int .i64 0] 113 (0, 0)), (tb, .cells (T.map vi).toArray 116 (0, 0))] := ((hT3.set 0 rfl 0 (vi x0)).set 0 rfl 1 (vi y0))
      refine tr_store a1_15 ((X3.setCell ⟨gu, 0, none⟩ (vi x0)).setCell ⟨gu, 1, none⟩ (vi y0)) (by kernel_rfl) rfl rfl ?_ ⟨(hT4.cell 3 rfl hx0), (hT4.cell 3 rfl hy0), (hT4.cell 3 rfl hx1), (hT4.cell 3 rfl hy1), (hT4.cell 3 rfl hx2), (hT4.cell 3 rfl hy2), (hck0 _ hT4.below), (hck1 _ hT4.below), (hck2 _ hT4.below)⟩ ?_; (focus (have e6 : a15.eval (.tmp 6) = (.pointer (some ⟨gu, 0, none⟩)) := F15.ev 6 (by kernel_rfl); have e13 : a15.eval (.tmp 13) = (.agg #[vi x0, vi y0]) := F15.ev 13 (by kernel_rfl); generalize a15.eval = ev at e6 e13 ⊢; simp [go_sem, mkO, a1_15, e6, e13, hz, hc0, hc1, hu113]; done))
      clear hz hc0 hc1
      generalize ((X3.setCell ⟨gu, 0, none⟩ (vi x0)).setCell ⟨gu, 1, none⟩ (vi y0)) = X4 at *
      clear hT3
      clear X3
      show seqT _ _ _ _ _ a15 _
      have hz := hT4.fz 1 rfl
      have hc0 : X4.cell? ⟨gv, 0, none⟩ = some (.int .i64 0) := hT4.cell 1 rfl rfl
      have hc1 : X4.cell? ⟨gv, 1, none⟩ = some (.int .i64 0) := hT4.cell 1 rfl rfl
      have hT5 : Tr w W ((X4.setCell ⟨gv, 0, none⟩ (vi x1)).setCell ⟨gv, 1, none⟩ (vi y1)) [(gu, .cells #[vi x0, vi y0] 113 (0, 0)), (gv, .cells #[vi x1, vi y1] 113 (0, 0)), (gw, .cells #[.int .i64 0, .int .i64 0] 113 (0, 0)), (tb, .cells (T.map vi).toArray 116 (0, 0))] := ((hT4.set 1 rfl 0 (vi x1)).set 1 rfl 1 (vi y1))
      refine tr_store a1_16 ((X4.setCell ⟨gv, 0, none⟩ (vi x1)).setCell ⟨gv, 1, none⟩ (vi y1)) (by kernel_rfl) rfl rfl ?_ ⟨(hT5.cell 3 rfl hx0), (hT5.cell 3 rfl hy0), (hT5.cell 3 rfl hx1), (hT5.cell 3 rfl hy1), (hT5.cell 3 rfl hx2), (hT5.cell 3 rfl hy2), (hck0 _ hT5.below), (hck1 _ hT5.below), (hck2 _ hT5.below)⟩ ?_; (focus (have e7 : a15.eval (.tmp 7) = (.pointer (some ⟨gv, 0, none⟩)) := F15.ev 7 (by kernel_rfl); have e17 : a15.eval (.tmp 17) = (.agg #[vi x1, vi y1]) := F15.ev 17 (by kernel_rfl); generalize a15.eval = ev at e7 e17 ⊢; simp [go_sem, mkO, a1_16, e7, e17, hz, hc0, hc1, hu113]; done))
      clear hz hc0 hc1
      generalize ((X4.setCell ⟨gv, 0, none⟩ (vi x1)).setCell ⟨gv, 1, none⟩ (vi y1)) = X5 at *
      clear hT4
      clear X4
      show seqT _ _ _ _ _ a15 _
      have hz := hT5.fz 2 rfl
      have hc0 : X5.cell? ⟨gw, 0, none⟩ = some (.int .i64 0) := hT5.cell 2 rfl rfl
      have hc1 : X5.cell? ⟨gw, 1, none⟩ = some (.int .i64 0) := hT5.cell 2 rfl rfl
      have hT6 : Tr w W ((X5.setCell ⟨gw, 0, none⟩ (vi x2)).setCell ⟨gw, 1, none⟩ (vi y2)) [(gu, .cells #[vi x0, vi y0] 113 (0, 0)), (gv, .cells #[vi x1, vi y1] 113 (0, 0)), (gw, .cells #[vi x2, vi y2] 113 (0, 0)), (tb, .cells (T.map vi).toArray 116 (0, 0))] := ((hT5.set 2 rfl 0 (vi x2)).set 2 rfl 1 (vi y2))
      refine tr_store a1_17 ((X5.setCell ⟨gw, 0, none⟩ (vi x2)).setCell ⟨gw, 1, none⟩ (vi y2)) (by kernel_rfl) rfl rfl ?_ ⟨(hT6.cell 3 rfl hx0), (hT6.cell 3 rfl hy0), (hT6.cell 3 rfl hx1), (hT6.cell 3 rfl hy1), (hT6.cell 3 rfl hx2), (hT6.cell 3 rfl hy2), (hck0 _ hT6.below), (hck1 _ hT6.below), (hck2 _ hT6.below)⟩ ?_; (focus (have e8 : a15.eval (.tmp 8) = (.pointer (some ⟨gw, 0, none⟩)) := F15.ev 8 (by kernel_rfl); have e21 : a15.eval (.tmp 21) = (.agg #[vi x2, vi y2]) := F15.ev 21 (by kernel_rfl); generalize a15.eval = ev at e8 e21 ⊢; simp [go_sem, mkO, a1_17, e8, e21, hz, hc0, hc1, hu113]; done))
      clear hz hc0 hc1
      generalize ((X5.setCell ⟨gw, 0, none⟩ (vi x2)).setCell ⟨gw, 1, none⟩ (vi y2)) = X6 at *
      clear hT5
      clear X5
      show seqT _ _ _ _ _ a15 _
      exact F15.out hQn hT6.keep ⟨gu, gv, gw, (hT6.pick [2, 1, 0, 3] (by kernel_rfl) (by kernel_rfl) (by kernel_rfl)).again, (F15.fin [10, 11, 12, 13, 14, 15, 16, 17, 18, 19, 20, 21] (by kernel_rfl))⟩
end Go.Proofs.Ytafmgmaelnpehaa.Tp
end

section
namespace Go.Proofs.Ytafmgmaelnpehaa.Tp
open Go.RowKit Go.TL Go.Shelf
attribute [local go_sem] Oper.semAt_some
attribute [local go_sem] run_store_func
def areaN (x0 y0 x1 y1 x2 y2 : Int) : Int := (x1 - x0) * (y2 - y0) - (x2 - x0) * (y1 - y0)
def areaV (T : List Int) : Int := max (areaN (T.getD 0 0) (T.getD 1 0) (T.getD 2 0) (T.getD 3 0) (T.getD 4 0) (T.getD 5 0)) (-(areaN (T.getD 0 0) (T.getD 1 0) (T.getD 2 0) (T.getD 3 0) (T.getD 4 0) (T.getD 5 0)))
theorem mul_bound {a b : Int} (ha : -100 ≤ a ∧ a ≤ 100) (hb : -100 ≤ b ∧ b ≤ 100) : -10000 ≤ a * b ∧ a * b ≤ 10000 := by
  have key : ∀ a b : Int, 0 ≤ a → a ≤ 100 → 0 ≤ b → b ≤ 100 → 0 ≤ a * b ∧ a * b ≤ 10000 := fun a b h1 h2 h3 h4 => ⟨Int.mul_nonneg h1 h3, by
    have := Int.mul_le_mul h2 h4 h3 (by omega)
    omega⟩
  rcases Int.le_total 0 a with h1 | h1 <;> rcases Int.le_total 0 b with h2 | h2
  · have := key a b h1 ha.2 h2 hb.2; omega
  · have := key a (-b) h1 ha.2 (by omega) (by omega); rw [Int.mul_neg] at this; omega
  · have := key (-a) b (by omega) (by omega) h2 hb.2; rw [Int.neg_mul] at this; omega
  · have := key (-a) (-b) (by omega) (by omega) (by omega) (by omega); rw [Int.neg_mul_neg] at this; omega
set_option maxRecDepth 100000 in
set_option maxHeartbeats 2000000 in
theorem area79 (T : List Int) (hT : TOk T) (p0 p1 p2 : Nat) (w : World) (h0 : w.heap[p0]? = some (.cells #[iv 0] 3 (0, 0))) (h1 : w.heap[p1]? = some (.cells #[iv 1] 3 (0, 0))) (h2 : w.heap[p2]? = some (.cells #[iv 2] 3 (0, 0))) : Calls Try.prog 79 #[.agg (T.map vi).toArray, .pointer (some ⟨p0, 0, none⟩), .pointer (some ⟨p1, 0, none⟩), .pointer (some ⟨p2, 0, none⟩)] w fun e w' => e = .returned (vi (areaV T)) ∧ Below w.heap.size w w' := by
  have hu116 := Try.underlying116
  have hu113 := Try.underlying113
  obtain ⟨x0, y0, x1, y1, x2, y2, t6, t7, t8, hTa, h8⟩ := T_nine hT.len
  have hav : areaV T = max (areaN x0 y0 x1 y1 x2 y2) (-(areaN x0 y0 x1 y1 x2 y2)) ∧ (((0 ≤ x0 ∧ x0 ≤ 100) ∧ 0 ≤ y0 ∧ y0 ≤ 100) ∧ ((0 ≤ x1 ∧ x1 ≤ 100) ∧ 0 ≤ y1 ∧ y1 ≤ 100) ∧ (0 ≤ x2 ∧ x2 ≤ 100) ∧ 0 ≤ y2 ∧ y2 ≤ 100) ∧ (T.map vi)[0]? = some (vi x0) ∧ (T.map vi)[1]? = some (vi y0) ∧ (T.map vi)[2]? = some (vi x1) ∧ (T.map vi)[3]? = some (vi y1) ∧ (T.map vi)[4]? = some (vi x2) ∧ (T.map vi)[5]? = some (vi y2) := by
    have hb := hT.b
    match T, hT.len, hTa with
    | [a, b, c, d, e, f, g, h, i], _, hTa =>
      simp only [List.map_cons, List.map_nil, Array.mk.injEq, List.cons.injEq, Value.int.injEq, true_and, and_true] at hTa
      obtain ⟨rfl, rfl, rfl, rfl, rfl, rfl, rfl, rfl, rfl⟩ := hTa
      exact ⟨rfl, ⟨⟨hb 0 (by omega), hb 1 (by omega)⟩, ⟨hb 2 (by omega), hb 3 (by omega)⟩, hb 4 (by omega), hb 5 (by omega)⟩, rfl, rfl, rfl, rfl, rfl, rfl⟩
  obtain ⟨hav, ⟨⟨bx0, by0⟩, ⟨bx1, by1⟩, bx2, by2⟩, hx0, hy0, hx1, hy1, hx2, hy2⟩ := hav
  rw [hav, hTa]
  refine calls_of_exec Try.func79 rfl ?_
  simp only [Try.ntmps79, List.size_toArray, List.length_cons, List.length_nil, Nat.reduceAdd, Nat.reduceSub, Array.replicate_succ, Array.replicate_zero, List.push_toArray, List.append_toArray, List.nil_append, List.cons_append]
  refine exec_seq (exec_region_o fun ds => ?_)
  gi_wp2
  refine eq_mk ((Keep.refl w).alloc _) ?_
  show Exec _ _ (Code.seq _ _) _ (w.alloc (.cells #[vi x0, vi y0, vi x1, vi y1, vi x2, vi y2, vi t6, vi t7, vi t8] 116)) _
  rw [← hTa]
  have hB := (Below.refl w.heap.size w).alloc (Nat.le_refl _) (.cells (T.map vi).toArray 116)
  have hq : (w.alloc (.cells (T.map vi).toArray 116)).heap[w.heap.size]? = some (.cells (T.map vi).toArray 116 (0, 0)) := World.alloc_heap_new _ _
  generalize w.alloc (.cells (T.map vi).toArray 116) = X at *
  have hck : ∀ q v, w.heap[q]? = some (.cells #[v] 3 (0, 0)) → ∀ Y, Below w.heap.size w Y → Y.cell? ⟨q, 0, none⟩ = some v := fun q v h Y hY => cells_get (cs := [v]) (k := 0) ((hY.block _ (heap_lt h)).trans h) rfl
  refine exec_seq ((area_r1 (w := w) (W := X) (T := T) (tb := w.heap.size) (p0 := p0) (p1 := p1) (p2 := p2) hx0 hy0 hx1 hy1 hx2 hy2 (hck p0 _ h0) (hck p1 _ h1) (hck p2 _ h2) ⟨hB, Keep.refl _, fun p hp => by
    rw [List.mem_singleton.1 hp]
    exact Nat.le_refl _, fun p hp => by
    rw [List.mem_singleton.1 hp]
    exact hq, by simp⟩ (by simp [Slots, Fits])).mono ?_)
  intro e t Y hh
  obtain ⟨rfl, gu, gv, gw, hTr, hSl⟩ := only_normal hh
  clear hh hq hck hB
  clear X
  have hBY := hTr.below
  have c0 := hTr.cell 2 rfl (j := 0) rfl
  have c1 := hTr.cell 2 rfl (j := 1) rfl
  have c2 := hTr.cell 1 rfl (j := 0) rfl
  have c3 := hTr.cell 1 rfl (j := 1) rfl
  have c4 := hTr.cell 0 rfl (j := 0) rfl
  have c5 := hTr.cell 0 rfl (j := 1) rfl
  clear hTr
  have w1 : IntKind.i64.wrap (x1 - x0) = x1 - x0 := IntWalk.i64_in _ (by omega)
  have w2 : IntKind.i64.wrap (y2 - y0) = y2 - y0 := IntWalk.i64_in _ (by omega)
  have w4 : IntKind.i64.wrap (x2 - x0) = x2 - x0 := IntWalk.i64_in _ (by omega)
  have w5 : IntKind.i64.wrap (y1 - y0) = y1 - y0 := IntWalk.i64_in _ (by omega)
  have m1 := mul_bound (a := x1 - x0) (b := y2 - y0) (by omega) (by omega)
  have m2 := mul_bound (a := x2 - x0) (b := y1 - y0) (by omega) (by omega)
  have hN : areaN x0 y0 x1 y1 x2 y2 = (x1 - x0) * (y2 - y0) - (x2 - x0) * (y1 - y0) := rfl
  have w3 : IntKind.i64.wrap ((x1 - x0) * (y2 - y0)) = (x1 - x0) * (y2 - y0) := IntWalk.i64_in _ (by omega)
  have w6 : IntKind.i64.wrap ((x2 - x0) * (y1 - y0)) = (x2 - x0) * (y1 - y0) := IntWalk.i64_in _ (by omega)
  have w7 : IntKind.i64.wrap ((x1 - x0) * (y2 - y0) - (x2 - x0) * (y1 - y0)) = areaN x0 y0 x1 y1 x2 y2 := by rw [hN]; exact IntWalk.i64_in _ (by omega)
  have hNb : -20000 ≤ areaN x0 y0 x1 y1 x2 y2 ∧ areaN x0 y0 x1 y1 x2 y2 ≤ 20000 := by rw [hN]; omega
  clear hN m1 m2
  obtain ⟨x, hx⟩ := Slots.open_ hSl; simp only [fill, Nat.reduceAdd] at hx; subst hx; clear hSl
  show Exec _ _ (Code.seq _ _) _ _ _
  refine exec_seq (exec_region_o fun ds => ?_)
  gi_wp2
  refine eq_mk (Keep.refl _) ?_
  clear c0 c1 c2 c3 c4 c5 w1 w2 w3 w4 w5 w6 w7
  generalize areaN x0 y0 x1 y1 x2 y2 = N at *
  have w8 : IntKind.i64.wrap (-N) = -N := IntWalk.i64_in _ (by omega)
  show Exec _ _ (Code.seq _ _) _ _ _
  refine exec_seq (exec_region_o fun ds => ?_)
  rcases Int.lt_or_le N (-N) with hc | hc
  · have hmx : max N (-N) = -N := by omega
    gi_wp2
    refine eq_mk (Keep.refl _) ?_
    exact exec_ret ⟨.inr rfl, fun W' hG => ⟨vi (-N), by simp [results, Try.f79, go_sem], by first | rfl | rw [hmx], hBY.trans (hG.below (Nat.le_refl _) hBY.size)⟩⟩
  · have hmx : max N (-N) = N := by omega
    have hc' : ¬ N < -N := by omega
    gi_wp2
    refine eq_mk (Keep.refl _) ?_
    exact exec_ret ⟨.inr rfl, fun W' hG => ⟨vi N, by simp [results, Try.f79, go_sem], by first | rfl | rw [hmx], hBY.trans (hG.below (Nat.le_refl _) hBY.size)⟩⟩
end Go.Proofs.Ytafmgmaelnpehaa.Tp
end

section
namespace Go.Proofs.Ytafmgmaelnpehaa.Tp
open Go.RowKit Go.TL Go.Shelf
attribute [local go_sem] Oper.semAt_some
attribute [local go_sem] run_store_func
theorem grownBy_grow {w W W' : World} {row : Option Nat} (h : w.grownBy W row) (hG : Grow w.heap.size W W') : w.grownBy W' row :=
  ⟨hG.os.trans h.os, hG.tape.trans h.tape, hG.output.trans h.output, Nat.le_trans h.size hG.size, fun k hk hne => by
    have h1 := h.block k hk hne
    rw [Array.getElem?_eq_getElem hk] at h1 ⊢
    exact hG.same k _ h1 (.inl hk)⟩
set_option maxRecDepth 100000 in
theorem keep135 {m0 : Nat} {fv : Value} (s : Bool) (lo hi n lo' hi' : Int) (hl0 : (if s then min lo n else n) = lo') (hh0 : (if s then max hi n else n) = hi') (w : World) (h : w.heap[m0]? = some (.cells #[vi lo, vi hi, .bool s, fv] 121 (0, 0))) : Calls Try.prog 135 #[.pointer (some ⟨m0, 0, none⟩), vi n] w fun e W' => e = .returned (.tuple #[]) ∧ W'.heap[m0]? = some (.cells #[vi lo', vi hi', .bool true, fv] 121 (0, 0)) ∧ w.grownBy W' (some m0) := by
  have hu119 := Try.underlying119
  have hu121 := Try.underlying121
  have c2 := cells_get (cs := [_, _, _, _]) (k := 2) h rfl
  have HL := Lib.hid hl0
  have HH := Lib.hid hh0
  clear hl0 hh0
  refine calls_of_exec Try.func135 rfl ?_
  simp only [Try.ntmps135, List.size_toArray, List.length_cons, List.length_nil, Nat.reduceAdd, Nat.reduceSub, Array.replicate_succ, Array.replicate_zero, List.push_toArray, List.append_toArray, List.nil_append, List.cons_append]
  refine exec_seq (exec_seq (exec_region_o fun ds => ?_))
  gi_wp2
  refine eq_mk (Keep.refl _) ?_
  clear c2
  show Exec _ _ (Code.cond _ _ _) _ _ _
  cases s with
  | true =>
    refine exec_cond (b := false) rfl (fun h => by cases h) (fun _ => exec_skip ?_)
    show Exec Try.prog none (sub (Try.f135.body.getD .skip) [1]) _ _ _
    refine (keep_r2 (W := w) lo hi n lo' hi' (by have := HL.out; simp only [if_true] at this; rw [← this]; split <;> omega) (by have := HH.out; simp only [if_true] at this; rw [← this]; split <;> omega) h (by simp [Slots, Fits])).mono ?_
    intro e t W hh
    obtain ⟨rfl, h1, h2⟩ := only_normal hh
    exact ⟨.inl rfl, fun W' hG => ⟨_, results_none rfl _ _ _, rfl, hG.same _ _ h1 (.inr rfl), grownBy_grow h2 hG⟩⟩
  | false =>
    refine exec_cond (b := true) rfl (fun _ => ?_) (fun h => by cases h)
    have s1 := box_set w m0 0 [_, _, _, _] 121 (vi n) h
    have s2 := box_set _ m0 1 [_, _, _, _] 121 (vi n) s1
    have s3 := box_set _ m0 2 [_, _, _, _] 121 (.bool true) s2
    have g0 := cells_get (cs := [_, _, _, _]) (k := 0) h rfl
    have g1 := cells_get (cs := [_, _, _, _]) (k := 1) s1 rfl
    have g2 := cells_get (cs := [_, _, _, _]) (k := 2) s2 rfl
    have f0 : w.frozen? ⟨m0, 0, none⟩ = false := frozen_cells h
    have f1 : (w.setCell ⟨m0, 0, none⟩ (vi n)).frozen? ⟨m0, 1, none⟩ = false := frozen_cells s1
    have f2 : ((w.setCell ⟨m0, 0, none⟩ (vi n)).setCell ⟨m0, 1, none⟩ (vi n)).frozen? ⟨m0, 2, none⟩ = false := frozen_cells s2
    have hg : w.grownBy (((w.setCell ⟨m0, 0, none⟩ (vi n)).setCell ⟨m0, 1, none⟩ (vi n)).setCell ⟨m0, 2, none⟩ (.bool true)) (some m0) := gb_trans (gb_trans (grown_set _ _ _ _) (grown_set _ _ _ _)) (grown_set _ _ _ _)
    show Exec _ _ (Code.region _ _ _) _ _ _
    refine exec_region_o fun ds => ?_
    gi_wp2
    refine eq_mk ((((Keep.refl _).setCell _ _).setCell _ _).setCell _ _) ?_
    clear g0 g1 g2 f0 f1 f2 s1 s2
    show Exec Try.prog none (sub (Try.f135.body.getD .skip) [1]) _ (((w.setCell ⟨m0, 0, none⟩ (vi n)).setCell ⟨m0, 1, none⟩ (vi n)).setCell ⟨m0, 2, none⟩ (.bool true)) _
    generalize ((w.setCell ⟨m0, 0, none⟩ (vi n)).setCell ⟨m0, 1, none⟩ (vi n)).setCell ⟨m0, 2, none⟩ (.bool true) = X at *
    refine (keep_r2 (W := X) n n n lo' hi' (by have : n = lo' := HL.out; split <;> omega) (by have : n = hi' := HH.out; split <;> omega) s3 (by simp [Slots, Fits])).mono ?_
    intro e t W hh
    obtain ⟨rfl, h1, h2⟩ := only_normal hh
    have h3 := gb_trans hg h2
    exact ⟨.inl rfl, fun W' hG => ⟨_, results_none rfl _ _ _, rfl, hG.same _ _ h1 (.inr rfl), grownBy_grow h3 hG⟩⟩
structure Nine (Z : World) (tb : Nat) (t0 t1 t2 t3 t4 t5 t6 t7 t8 : Int) : Prop where
  c0 : Z.cell? ⟨tb, 0, none⟩ = some (vi t0)
  c1 : Z.cell? ⟨tb, 1, none⟩ = some (vi t1)
  c2 : Z.cell? ⟨tb, 2, none⟩ = some (vi t2)
  c3 : Z.cell? ⟨tb, 3, none⟩ = some (vi t3)
  c4 : Z.cell? ⟨tb, 4, none⟩ = some (vi t4)
  c5 : Z.cell? ⟨tb, 5, none⟩ = some (vi t5)
  c6 : Z.cell? ⟨tb, 6, none⟩ = some (vi t6)
  c7 : Z.cell? ⟨tb, 7, none⟩ = some (vi t7)
  c8 : Z.cell? ⟨tb, 8, none⟩ = some (vi t8)
theorem Nine.of {Z : World} {tb : Nat} {t0 t1 t2 t3 t4 t5 t6 t7 t8 : Int} (h : Z.heap[tb]? = some (.cells #[vi t0, vi t1, vi t2, vi t3, vi t4, vi t5, vi t6, vi t7, vi t8] 116 (0, 0))) : Nine Z tb t0 t1 t2 t3 t4 t5 t6 t7 t8 := ⟨cells_get (cs := [_, _, _, _, _, _, _, _, _]) (k := 0) h rfl, cells_get (cs := [_, _, _, _, _, _, _, _, _]) (k := 1) h rfl, cells_get (cs := [_, _, _, _, _, _, _, _, _]) (k := 2) h rfl, cells_get (cs := [_, _, _, _, _, _, _, _, _]) (k := 3) h rfl, cells_get (cs := [_, _, _, _, _, _, _, _, _]) (k := 4) h rfl, cells_get (cs := [_, _, _, _, _, _, _, _, _]) (k := 5) h rfl, cells_get (cs := [_, _, _, _, _, _, _, _, _]) (k := 6) h rfl, cells_get (cs := [_, _, _, _, _, _, _, _, _]) (k := 7) h rfl, cells_get (cs := [_, _, _, _, _, _, _, _, _]) (k := 8) h rfl⟩
abbrev fn79 (p0 p1 p2 : Nat) : Value := .func (.func 79) #[] #[.pointer (some ⟨p0, 0, none⟩), .pointer (some ⟨p1, 0, none⟩), .pointer (some ⟨p2, 0, none⟩)]
set_option maxRecDepth 100000 in
set_option maxHeartbeats 2000000 in
theorem see136 {m0 p0 p1 p2 : Nat} (s : Bool) (lo hi lo' hi' : Int) (T : List Int) (hl0 : (if s then min lo (areaV T) else areaV T) = lo') (hh0 : (if s then max hi (areaV T) else areaV T) = hi') (hT : TOk T) (w : World) (h : w.heap[m0]? = some (.cells #[vi lo, vi hi, .bool s, fn79 p0 p1 p2] 121 (0, 0))) (h0 : w.heap[p0]? = some (.cells #[iv 0] 3 (0, 0))) (h1 : w.heap[p1]? = some (.cells #[iv 1] 3 (0, 0))) (h2 : w.heap[p2]? = some (.cells #[iv 2] 3 (0, 0))) : Calls Try.prog 136 #[.pointer (some ⟨m0, 0, none⟩), .agg (T.map vi).toArray] w fun e W' => e = .returned (.tuple #[]) ∧ W'.heap[m0]? = some (.cells #[vi lo', vi hi', .bool true, fn79 p0 p1 p2] 121 (0, 0)) ∧ w.grownBy W' (some m0) := by
  have hmf : ∀ fn first cap w, (Instr.makeFunc fn first cap).run Try.prog w = .ok (.func fn first cap) w := fun _ _ _ _ => rfl
  have hu116 := Try.underlying116
  have hu121 := Try.underlying121
  have hcallA := fun W => area79 T hT p0 p1 p2 W
  obtain ⟨t0, t1, t2, t3, t4, t5, t6, t7, t8, hTa, h8⟩ := T_nine hT.len
  rw [hTa] at hcallA ⊢
  obtain ⟨v, hv⟩ : ∃ v, areaV T = v := ⟨_, rfl⟩
  rw [hv] at hcallA hl0 hh0
  have HL := Lib.hid hl0
  have HH := Lib.hid hh0
  clear hv hTa h8 hl0 hh0
  refine calls_of_exec Try.func136 rfl ?_
  simp only [Try.ntmps136, List.size_toArray, List.length_cons, List.length_nil, Nat.reduceAdd, Nat.reduceSub, Array.replicate_succ, Array.replicate_zero, List.push_toArray, List.append_toArray, List.nil_append, List.cons_append]
  refine exec_seq (exec_region_o fun ds => ?_)
  gi_wp2
  refine eq_mk ((Keep.refl w).alloc _) ?_
  show Exec _ _ (Code.seq _ _) _ (w.alloc (.cells #[vi t0, vi t1, vi t2, vi t3, vi t4, vi t5, vi t6, vi t7, vi t8] 116)) _
  have hal := (Below.refl w.heap.size w).alloc (Nat.le_refl _) (.cells #[vi t0, vi t1, vi t2, vi t3, vi t4, vi t5, vi t6, vi t7, vi t8] 116)
  have hq : (w.alloc (.cells #[vi t0, vi t1, vi t2, vi t3, vi t4, vi t5, vi t6, vi t7, vi t8] 116)).heap[w.heap.size]? = some (.cells #[vi t0, vi t1, vi t2, vi t3, vi t4, vi t5, vi t6, vi t7, vi t8] 116 (0, 0)) := World.alloc_heap_new _ _
  have hm := heap_next h (.cells #[vi t0, vi t1, vi t2, vi t3, vi t4, vi t5, vi t6, vi t7, vi t8] 116)
  have hml := heap_lt h
  generalize hX : w.alloc (.cells #[vi t0, vi t1, vi t2, vi t3, vi t4, vi t5, vi t6, vi t7, vi t8] 116) = X at *
  clear hX
  refine exec_seq (exec_region_o fun ds => ?_)
  gi_wp2
  refine eq_mk (Keep.refl _) ?_
  show Exec _ _ (Code.region _ _ _) _ _ _
  refine region_of_tail 8 (by kernel_rfl) (by kernel_rfl) (by kernel_rfl) (fun Z => Z.cell? ⟨m0, 3, none⟩ = some (fn79 p0 p1 p2) ∧ Nine Z w.heap.size t0 t1 t2 t3 t4 t5 t6 t7 t8) (fun _ _ _ => False) (fun _ _ _ h => h.elim) fun ds => ?_
  have hd : Below X.heap.size X X.drew := (Below.refl _ X).drew
  have hbD := hal.trans (hd.mono hal.size)
  have hmD := (hd.block _ (heap_lt hm)).trans hm
  have hqD := (hd.block _ (heap_lt hq)).trans hq
  have hkD := Keep.of_below hd
  have hS : X.drew.cell? ⟨m0, 3, none⟩ = some (fn79 p0 p1 p2) ∧ Nine X.drew w.heap.size t0 t1 t2 t3 t4 t5 t6 t7 t8 := ⟨cells_get (cs := [_, _, _, _]) (k := 3) hmD rfl, .of hqD⟩
  generalize X.drew = V at *
  refine held_take 0 (.func (.func 135) #[.pointer (some ⟨m0, 0, none⟩)] #[]) rfl (by kernel_rfl) (by kernel_rfl) (by kernel_rfl) (by intro _ _ _ h; first | exact h | (simpa [behind, Act.put] using h)) rfl (by first | exact hS | assumption) (fun wq hq => ?_) ?_; (focus (first | rfl | (simp [go_sem]; done))); simp only [Act.put, Array.getInternal_eq_getElem, List.take_succ_cons, List.take_zero, List.take_nil, List.getElem_toArray, List.getElem_cons_succ, List.getElem_cons_zero, List.setIfInBounds_toArray, List.set_cons_succ, List.set_cons_zero]
  refine held_take 1 (.pointer (some ⟨m0, 0, none⟩)) rfl (by kernel_rfl) (by kernel_rfl) (by kernel_rfl) (by intro _ _ _ h; first | exact h | (simpa [behind, Act.put] using h)) rfl (by first | exact hS | assumption) (fun wq hq => ?_) ?_; (focus (first | rfl | (simp [go_sem]; done))); simp only [Act.put, Array.getInternal_eq_getElem, List.take_succ_cons, List.take_zero, List.take_nil, List.getElem_toArray, List.getElem_cons_succ, List.getElem_cons_zero, List.setIfInBounds_toArray, List.set_cons_succ, List.set_cons_zero]
  refine held_take 2 (.pointer (some ⟨m0, 0, none⟩)) rfl (by kernel_rfl) (by kernel_rfl) (by kernel_rfl) (by intro _ _ _ h; first | exact h | (simpa [behind, Act.put] using h)) rfl (by first | exact hS | assumption) (fun wq hq => ?_) ?_; (focus (first | rfl | (simp [go_sem]; done))); simp only [Act.put, Array.getInternal_eq_getElem, List.take_succ_cons, List.take_zero, List.take_nil, List.getElem_toArray, List.getElem_cons_succ, List.getElem_cons_zero, List.setIfInBounds_toArray, List.set_cons_succ, List.set_cons_zero]
  refine held_take 3 (.pointer (some ⟨m0, 3, none⟩)) rfl (by kernel_rfl) (by kernel_rfl) (by kernel_rfl) (by intro _ _ _ h; first | exact h | (simpa [behind, Act.put] using h)) rfl (by first | exact hS | assumption) (fun wq hq => ?_) ?_; (focus (first | rfl | (simp [go_sem, hu121]; done))); simp only [Act.put, Array.getInternal_eq_getElem, List.take_succ_cons, List.take_zero, List.take_nil, List.getElem_toArray, List.getElem_cons_succ, List.getElem_cons_zero, List.setIfInBounds_toArray, List.set_cons_succ, List.set_cons_zero]
  refine held_take 4 (fn79 p0 p1 p2) rfl (by kernel_rfl) (by kernel_rfl) (by kernel_rfl) (by intro _ _ _ h; first | exact h | (simpa [behind, Act.put] using h)) rfl (by first | exact hS | assumption) (fun wq hq => ?_) ?_; (focus (first | rfl | (simp [go_sem, hq.1]; done))); simp only [Act.put, Array.getInternal_eq_getElem, List.take_succ_cons, List.take_zero, List.take_nil, List.getElem_toArray, List.getElem_cons_succ, List.getElem_cons_zero, List.setIfInBounds_toArray, List.set_cons_succ, List.set_cons_zero]
  refine held_take 5 (.agg #[vi t0, vi t1, vi t2, vi t3, vi t4, vi t5, vi t6, vi t7, vi t8]) rfl (by kernel_rfl) (by kernel_rfl) (by kernel_rfl) (by intro _ _ _ h; first | exact h | (simpa [behind, Act.put] using h)) rfl (by first | exact hS | assumption) (fun wq hq => ?_) ?_; (focus (first | rfl | (simp [go_sem, hq.2.c0, hq.2.c1, hq.2.c2, hq.2.c3, hq.2.c4, hq.2.c5, hq.2.c6, hq.2.c7, hq.2.c8]; done))); simp only [Act.put, Array.getInternal_eq_getElem, List.take_succ_cons, List.take_zero, List.take_nil, List.getElem_toArray, List.getElem_cons_succ, List.getElem_cons_zero, List.setIfInBounds_toArray, List.set_cons_succ, List.set_cons_zero]
  refine held_call 6 (f := 79) (args := #[.agg #[vi t0, vi t1, vi t2, vi t3, vi t4, vi t5, vi t6, vi t7, vi t8], .pointer (some ⟨p0, 0, none⟩), .pointer (some ⟨p1, 0, none⟩), .pointer (some ⟨p2, 0, none⟩)]) rfl (by kernel_rfl) rfl (by simp [go_sem]) ?_
  refine (hcallA V ((hbD.block _ (heap_lt h0)).trans h0) ((hbD.block _ (heap_lt h1)).trans h1) ((hbD.block _ (heap_lt h2)).trans h2)).mono ?_
  rintro e Z ⟨rfl, hz⟩
  have hmZ := (hz.block _ (heap_lt hmD)).trans hmD
  have hqZ := (hz.block _ (heap_lt hqD)).trans hqD
  have hS1 : Z.cell? ⟨m0, 3, none⟩ = some (fn79 p0 p1 p2) ∧ Nine Z w.heap.size t0 t1 t2 t3 t4 t5 t6 t7 t8 := ⟨cells_get (cs := [_, _, _, _]) (k := 3) hmZ rfl, .of hqZ⟩
  refine .inl ⟨_, rfl, hS1, ?_⟩
  simp only [Act.put, Array.getInternal_eq_getElem, List.take_succ_cons, List.take_zero, List.take_nil, List.getElem_toArray, List.getElem_cons_succ, List.getElem_cons_zero, List.setIfInBounds_toArray, List.set_cons_succ, List.set_cons_zero]
  refine held_call 7 (f := 135) (args := #[.pointer (some ⟨m0, 0, none⟩), vi v]) rfl (by kernel_rfl) rfl (by simp [go_sem]) ?_
  refine (keep135 s lo hi v lo' hi' HL.out HH.out Z hmZ).mono ?_
  rintro e U ⟨rfl, hmU, hgU⟩
  have hqU := (hgU.block _ (heap_lt hqZ) (by simp; omega)).trans hqZ
  have hS2 : U.cell? ⟨m0, 3, none⟩ = some (fn79 p0 p1 p2) ∧ Nine U w.heap.size t0 t1 t2 t3 t4 t5 t6 t7 t8 := ⟨cells_get (cs := [_, _, _, _]) (k := 3) hmU rfl, .of hqU⟩
  have hg3 : w.grownBy U (some m0) := gb_trans (gb_below _ (hbD.trans (hz.mono hbD.size))) hgU
  have hkU : Keep X U := (hkD.trans (Keep.of_below hz)).grown hgU fun j o e ho => by
    cases e
    rw [hmZ] at ho
    cases ho
    rfl
  refine .inl ⟨_, rfl, hS2, ?_⟩
  simp only [Act.put, Array.getInternal_eq_getElem, List.take_succ_cons, List.take_zero, List.take_nil, List.getElem_toArray, List.getElem_cons_succ, List.getElem_cons_zero, List.setIfInBounds_toArray, List.set_cons_succ, List.set_cons_zero]
  refine held_done (by kernel_rfl) ?_
  refine any_done (by kernel_rfl) ⟨rfl, hkU, ?_⟩
  exact ⟨by first | exact .inl rfl | exact .inl trivial, fun W' hG => ⟨_, results_none rfl _ _ _, rfl, hG.same _ _ hmU (.inr rfl), grownBy_grow hg3 hG⟩⟩
end Go.Proofs.Ytafmgmaelnpehaa.Tp
end

section
namespace Go.Proofs.Ytafmgmaelnpehaa.Tp
open Go.RowKit Go.TL Go.Shelf
attribute [local go_sem] Oper.semAt_some
attribute [local go_sem] run_store_func
set_option maxRecDepth 100000 in
set_option maxHeartbeats 2000000 in
theorem ask82m {a : Pg} (ho : a.Ok) {pb : Nat} {A : Option Addr} {c : Nat} {ms : List Nat} {m0 : Nat} (Mp : Nat → World → Prop) (w : World) (hO : PgO w a pb A c ms) (hr : RowQ w a.AL a.L) (hm0 : m0 < w.heap.size) (np : pb ≠ m0) (nA : ∀ ad, A = some ad → ad.block ≠ m0 ∧ ad.block < w.heap.size) (nm : ∀ m ∈ ms, m ≠ m0) (nL : ∀ ad, a.AL = some ad → ad.block ≠ m0 ∧ ad.block < w.heap.size)
    (hMs : ∀ k W W', w.heap.size ≤ W.heap.size → Mp k W → (∀ j, j < w.heap.size → W'.heap[j]? = W.heap[j]?) → Mp k W') (hsee : ∀ k (hk : k < (truthsL a).length) W, Mp k W → Calls Try.prog 136 #[.pointer (some ⟨m0, 0, none⟩), .agg (((truthsL a)[k]'hk).map vi).toArray] W fun e W' => e = .returned (.tuple #[]) ∧ Mp (k + 1) W' ∧ W.grownBy W' (some m0)) (hMb : ∀ k W o, Mp k W → W.heap[m0]? = some o → book o = false) (hTl : ∀ T ∈ truthsL a, T.length = 9) (h0 : Mp 0 w) (hpos : 0 < (truthsL a).length) :
    Calls Try.prog 82 #[.pointer (some ⟨pb, 0, none⟩), .iface 111 (.pointer (some ⟨m0, 0, none⟩))] w fun e W' => e = .returned (.tuple #[]) ∧ Mp (truthsL a).length W' ∧ w.grownBy W' (some m0) := by
  have hl6 := ho.ll
  have hpw := heap_lt hO.box
  refine calls_of_exec Try.func82 rfl ?_
  simp only [Try.ntmps82, List.size_toArray, List.length_cons, List.length_nil, Nat.reduceAdd, Nat.reduceSub, Array.replicate_succ, Array.replicate_zero, List.push_toArray, List.append_toArray, List.nil_append, List.cons_append]
  refine exec_seq (exec_region_o fun ds => ?_)
  gi_wp2
  refine eq_mk ((Keep.refl w).alloc _) ?_
  show Exec _ _ (Code.seq _ _) _ (w.alloc (.cells #[.iface 111 (.pointer (some ⟨m0, 0, none⟩))] 157)) _
  have hB := (Below.refl w.heap.size w).alloc (Nat.le_refl _) (.cells #[.iface 111 (.pointer (some ⟨m0, 0, none⟩))] 157)
  have h3 : (w.alloc (.cells #[.iface 111 (.pointer (some ⟨m0, 0, none⟩))] 157)).heap[w.heap.size]? = some (.cells #[.iface 111 (.pointer (some ⟨m0, 0, none⟩))] 157 (0, 0)) := World.alloc_heap_new _ _
  have hs3 : (w.alloc (.cells #[.iface 111 (.pointer (some ⟨m0, 0, none⟩))] 157)).heap.size = w.heap.size + 1 := by simp
  generalize w.alloc (.cells #[.iface 111 (.pointer (some ⟨m0, 0, none⟩))] 157) = X at *
  refine exec_seq (exec_region_o fun ds => ?_)
  gi_wp2
  refine eq_mk ((Keep.refl _).alloc _) ?_
  show Exec _ _ (Code.seq (Code.seq _ _) _) _ (X.alloc (.cells #[.bool true] 4)) _
  have h4 : (X.alloc (.cells #[.bool true] 4)).heap[w.heap.size + 1]? = some (.cells #[.bool true] 4 (0, 0)) := by
    have := World.alloc_heap_new X (.cells #[.bool true] 4)
    rwa [hs3] at this
  have h3' := heap_next h3 (.cells #[.bool true] 4)
  have hB2 := hB.alloc hB.size (.cells #[.bool true] 4)
  try rw [hs3]
  clear hB h3 hs3
  generalize X.alloc (.cells #[.bool true] 4) = Y at *
  clear X
  refine exec_seq (exec_seq (exec_region_o fun ds => ?_))
  gi_wp2_with fail
  refine ⟨trivial, rfl, (callsIn_wide.2 (every102 a hl6 pb A c Y ((hB2.block _ hpw).trans hO.box))).mono ?_⟩
  rintro e U ⟨rfl, hu⟩
  have hBU := hB2.trans (hu.mono hB2.size)
  have hsU := hu.size
  have u3 := (hu.block _ (heap_lt h3')).trans h3'
  have u4 := (hu.block _ (heap_lt h4)).trans h4
  have hu4 := heap_lt h4
  gi_wp2_with fail
  refine ⟨trivial, rfl, (callsIn_wide.2 (truths101 pb ((2 ^ a.L.length - 1 : Nat) : Int) U)).mono ?_⟩
  rintro e Z ⟨⟨rfl, z2, z4⟩, hz, hsz⟩
  have hBZ := hBU.trans (hz.mono hBU.size)
  have q3 := (hz.block _ (heap_lt u3)).trans u3
  have q4 := (hz.block _ (heap_lt u4)).trans u4
  gi_wp2
  refine eq_mk ((Keep.of_below hu).trans (Keep.of_below hz)) ?_
  clear h3' h4 hB2 hu u3 u4 hBU hz
  show Exec _ _ (Code.block _ _) _ _ _
  refine exec_block ?_
  obtain ⟨b2, hb2⟩ : ∃ b2, U.heap.size = b2 := ⟨_, rfl⟩
  rw [hb2] at z2 z4 hsz hsU
  simp only [hb2]
  clear hb2
  clear U
  have hS : ∀ k, (k < Z.heap.size ∧ k ≠ m0 ∧ k ≠ w.heap.size + 1) → k < Z.heap.size := fun k h => h.1
  have hOZ : PgO Z a pb A c ms := ⟨(hBZ.block _ hpw).trans hO.box, hO.len, hO.row.grow (Grow.of_below (B := 0) hBZ), fun i p m hp hm => (hO.map i p m hp hm).below hBZ⟩
  have hit := truths111 (S := fun k => k < Z.heap.size ∧ k ≠ m0 ∧ k ≠ w.heap.size + 1) ho hS hOZ (hr.below hBZ) z2 z4 ⟨by have := hBZ.size; omega, np, by omega⟩ ⟨by omega, by omega, by omega⟩ ⟨by omega, by omega, by omega⟩ (fun ad e => ⟨by have := (nA ad e).2; have := hBZ.size; omega, (nA ad e).1, by have := (nA ad e).2; omega⟩) (fun m hm => ⟨by
    obtain ⟨i, hi⟩ := List.mem_iff_getElem?.1 hm
    have hil := (List.getElem?_eq_some_iff.1 hi).1
    exact (hOZ.map i _ m (List.getElem?_eq_getElem (by rw [← hO.len]; exact hil)) hi).lt, nm m hm, by
    obtain ⟨i, hi⟩ := List.mem_iff_getElem?.1 hm
    have hil := (List.getElem?_eq_some_iff.1 hi).1
    have := (hO.map i _ m (List.getElem?_eq_getElem (by rw [← hO.len]; exact hil)) hi).lt
    omega⟩) (fun ad e => ⟨by have := (nL ad e).2; have := hBZ.size; omega, (nL ad e).1, by have := (nL ad e).2; omega⟩)
  have hZ0 : Mp 0 Z := hMs 0 w Z (Nat.le_refl _) h0 fun j hj => hBZ.block j hj
  have hwZ := hBZ.size
  refine exec_rangeG (L := truthsL a) rfl (enters_of Try.func111 (by kernel_rfl) rfl) hit hS (fun _ => rfl)
    (fun k W => Mp k W ∧ W.heap[w.heap.size + 1]? = some (.cells #[.bool (decide (k = 0))] 4 (0, 0)) ∧ W.heap[w.heap.size]? = some (.cells #[.iface 111 (.pointer (some ⟨m0, 0, none⟩))] 157 (0, 0)) ∧ w.grownBy W (some m0)) (fun _ _ => False)
    (fun k X Y ⟨h1, h2, h3, h4⟩ hg => ⟨hMs k X Y h4.size h1 fun j hj => by
      have hjX := Nat.lt_of_lt_of_le hj h4.size
      rw [Array.getElem?_eq_getElem hjX]
      exact hg.same j _ (Array.getElem?_eq_getElem hjX) (.inl (by omega)), hg.same _ _ h2 (.inr rfl), hg.same _ _ h3 (.inr rfl), ⟨hg.os.trans h4.os, hg.tape.trans h4.tape, hg.output.trans h4.output, Nat.le_trans h4.size hg.size, fun j hj hne => by
      have h5 := h4.block j hj hne
      rw [Array.getElem?_eq_getElem hj] at h5 ⊢
      exact hg.same j _ h5 (.inl (by omega))⟩⟩)
    (fun c X Y h hg => h) ⟨hZ0, q4, q3, gb_below _ hBZ⟩ ?round ?done (fun _ h => h.elim) (fun _ _ h => h.elim)
  case done =>
    rintro W ⟨hM, hn, hi, hg⟩
    rw [decide_eq_false (by omega)] at hn
    have c4 := cells_get (cs := [_]) (k := 0) hn rfl
    clear hit hsee hZ0 hOZ
    show Exec _ _ (Code.region _ _ _) _ _ _
    refine exec_region_o fun ds => ?_
    gi_wp2_with fail
    refine ⟨trivial, rfl, (callsIn_wide.2 (need98 10 W)).mono ?_⟩
    rintro e V ⟨rfl, hv⟩
    gi_wp2
    refine eq_mk (Keep.of_below hv) ?_
    have hg2 := gb_trans hg (gb_below _ hv)
    refine ⟨.inl rfl, fun W' hG => ⟨_, results_none rfl _ _ _, rfl, hMs _ W W' hg.size hM fun j hj => ?_, grownBy_grow hg2 hG⟩⟩
    have hjW := Nat.lt_of_lt_of_le hj hg.size
    have hb := hv.block j hjW
    rw [Array.getElem?_eq_getElem hjW] at hb ⊢
    exact hG.same j _ hb (.inl hj)
  case round =>
    clear hit hZ0 q3 q4
    rintro l k hk W hlt ⟨hM, hn, hi, hg⟩
    have hcall := fun V => hsee k hk V
    obtain ⟨T, hT⟩ : ∃ T, (truthsL a)[k]'hk = T := ⟨_, rfl⟩
    have hT9 : T.length = 9 := hTl T (by rw [← hT]; exact List.getElem_mem hk)
    obtain ⟨t0, t1, t2, t3, t4, t5, t6, t7, t8, hTa, _⟩ := T_nine hT9
    simp only [hT, hTa] at hcall ⊢
    clear hT hTa hT9 hsee
    refine exec_region_r fun ds => ?_
    gi_wp2
    have hal := (Below.refl W.heap.size W).alloc (Nat.le_refl _) (.cells #[vi t0, vi t1, vi t2, vi t3, vi t4, vi t5, vi t6, vi t7, vi t8] 116)
    have h5 : (W.alloc (.cells #[vi t0, vi t1, vi t2, vi t3, vi t4, vi t5, vi t6, vi t7, vi t8] 116)).heap[W.heap.size]? = some (.cells #[vi t0, vi t1, vi t2, vi t3, vi t4, vi t5, vi t6, vi t7, vi t8] 116 (0, 0)) := World.alloc_heap_new _ _
    refine eq_mk ((Keep.refl _).alloc _) ⟨rfl, Same.of_below hal (fun j hj => by have := hj.1; omega), SF.of_below hal, ?_⟩
    intro V hG hsz
    have hgV : w.grownBy V (some m0) := ⟨hG.os.trans (hal.os.trans hg.os), hG.tape.trans (hal.tape.trans hg.tape), hG.output.trans (hal.output.trans hg.output), Nat.le_trans (Nat.le_trans hg.size hal.size) hG.size, fun j hj hne => by
      have e1 := (hal.block j (Nat.lt_of_lt_of_le hj hg.size)).trans (hg.block j hj hne)
      rw [Array.getElem?_eq_getElem hj] at e1 ⊢
      exact hG.same j _ e1 (.inl (by omega))⟩
    have hMV : Mp k V := hMs k W V hg.size hM fun j hj => by
      have hjW := Nat.lt_of_lt_of_le hj hg.size
      have e1 := hal.block j hjW
      rw [Array.getElem?_eq_getElem hjW] at e1 ⊢
      exact hG.same j _ e1 (.inl (by omega))
    have v3 := hG.same _ _ (heap_next hi (.cells #[vi t0, vi t1, vi t2, vi t3, vi t4, vi t5, vi t6, vi t7, vi t8] 116)) (.inr rfl)
    have v4 := hG.same _ _ (heap_next hn (.cells #[vi t0, vi t1, vi t2, vi t3, vi t4, vi t5, vi t6, vi t7, vi t8] 116)) (.inr rfl)
    have v5 := hG.same _ _ h5 (.inr rfl)
    have hVs : W.heap.size < V.heap.size := heap_lt v5
    have hZV : Z.heap.size ≤ V.heap.size := by omega
    obtain ⟨z5, hz5⟩ : ∃ z5, W.heap.size = z5 := ⟨_, rfl⟩
    have hz5' : Z.heap.size < z5 := by omega
    rw [hz5] at v5
    simp only [hz5]
    clear hG hsz hal h5 hM hn hi hg hVs hz5 hlt
    clear W
    have c3 := cells_get (cs := [_]) (k := 0) v3 rfl
    have hN := Nine.of v5
    have d0 := hN.c0
    have d1 := hN.c1
    have d2 := hN.c2
    have d3 := hN.c3
    have d4 := hN.c4
    have d5 := hN.c5
    have d6 := hN.c6
    have d7 := hN.c7
    have d8 := hN.c8
    clear hN
    refine exec_block (exec_seq (exec_region_r fun ds => ?_))
    gi_wp2_with fail
    refine ⟨fun _ _ => trivial, (fun h => by cases h), (callsIn_wide.2 (hcall V hMV)).mono ?_⟩
    rintro e U ⟨rfl, hM2, hgU⟩
    have hkU : Keep V U := (Keep.refl V).grown hgU fun j o e ho => by
      cases e
      exact hMb k V o hMV ho
    have hsU := hgU.size
    have hwV := hgV.size
    have u4 := (hgU.block _ (heap_lt v4) (by simp; omega)).trans v4
    have u3 := (hgU.block _ (heap_lt v3) (by simp; omega)).trans v3
    have hgw := gb_trans hgV hgU
    clear hcall c3 d0 d1 d2 d3 d4 d5 d6 d7 d8 v5
    gi_wp2
    refine eq_mk hkU ?_
    show Exec _ _ (Code.region _ _ _) _ _ _
    have g4 := cells_get (cs := [_]) (k := 0) u4 rfl
    have f4 : U.frozen? ⟨w.heap.size + 1, 0, none⟩ = false := frozen_cells u4
    have s4 := box_set U (w.heap.size + 1) 0 [_] 4 (.bool false) u4
    have s3 := box_far U (w.heap.size + 1) 0 w.heap.size (.bool false) _ u3 (by omega)
    refine exec_region_r fun ds => ?_
    gi_wp2
    refine eq_mk ((Keep.refl _).setCell _ _) ?_
    refine ⟨fun j hj => ?_, fun j h1 h2 => ?_, hMs _ U _ hgw.size hM2 fun j hj => Below.heap_setCell U ⟨w.heap.size + 1, 0, none⟩ (.bool false) j (by show j ≠ w.heap.size + 1; omega), ?_, s3, ⟨hgw.os, hgw.tape, hgw.output, by rw [World.size_setCell]; exact hgw.size, fun j hj hne => (Below.heap_setCell U ⟨w.heap.size + 1, 0, none⟩ (.bool false) j (by show j ≠ w.heap.size + 1; omega)).trans (hgw.block j hj hne)⟩⟩
    · obtain ⟨h1, h2, h3⟩ := hj
      exact (Below.heap_setCell U ⟨w.heap.size + 1, 0, none⟩ (.bool false) j h3).trans (hgU.block j (by omega) (by simp; exact fun e => h2 e))
    · exact (Below.heap_setCell U ⟨w.heap.size + 1, 0, none⟩ (.bool false) j (by show j ≠ w.heap.size + 1; omega)).trans (hgU.block j h2 (by simp; omega))
    · rw [decide_eq_false (Nat.succ_ne_zero k)]
      exact s4
set_option maxRecDepth 100000 in
set_option maxHeartbeats 2000000 in
theorem ask82v {a : Pg} (ho : a.Ok) {pb : Nat} {A : Option Addr} {c : Nat} {ms : List Nat} {m0 : Nat} (Mp : Nat → World → Prop) (w : World) (hO : PgO w a pb A c ms) (hr : RowQ w a.AL a.L) (hm0 : m0 < w.heap.size) (np : pb ≠ m0) (nA : ∀ ad, A = some ad → ad.block ≠ m0 ∧ ad.block < w.heap.size) (nm : ∀ m ∈ ms, m ≠ m0) (nL : ∀ ad, a.AL = some ad → ad.block ≠ m0 ∧ ad.block < w.heap.size)
    (hMs : ∀ k W W', w.heap.size ≤ W.heap.size → Mp k W → (∀ j, j < w.heap.size → W'.heap[j]? = W.heap[j]?) → Mp k W') (hsee : ∀ k (hk : k < (truthsL a).length) W, Mp k W → Calls Try.prog 137 #[.pointer (some ⟨m0, 0, none⟩), .agg (((truthsL a)[k]'hk).map vi).toArray] W fun e W' => e = .returned (.tuple #[]) ∧ Mp (k + 1) W' ∧ W.grownBy W' (some m0)) (hMb : ∀ k W o, Mp k W → W.heap[m0]? = some o → book o = false) (hTl : ∀ T ∈ truthsL a, T.length = 9) (h0 : Mp 0 w) (hpos : 0 < (truthsL a).length) :
    Calls Try.prog 82 #[.pointer (some ⟨pb, 0, none⟩), .iface 129 (.pointer (some ⟨m0, 0, none⟩))] w fun e W' => e = .returned (.tuple #[]) ∧ Mp (truthsL a).length W' ∧ w.grownBy W' (some m0) := by
  have hl6 := ho.ll
  have hpw := heap_lt hO.box
  refine calls_of_exec Try.func82 rfl ?_
  simp only [Try.ntmps82, List.size_toArray, List.length_cons, List.length_nil, Nat.reduceAdd, Nat.reduceSub, Array.replicate_succ, Array.replicate_zero, List.push_toArray, List.append_toArray, List.nil_append, List.cons_append]
  refine exec_seq (exec_region_o fun ds => ?_)
  gi_wp2
  refine eq_mk ((Keep.refl w).alloc _) ?_
  show Exec _ _ (Code.seq _ _) _ (w.alloc (.cells #[.iface 129 (.pointer (some ⟨m0, 0, none⟩))] 157)) _
  have hB := (Below.refl w.heap.size w).alloc (Nat.le_refl _) (.cells #[.iface 129 (.pointer (some ⟨m0, 0, none⟩))] 157)
  have h3 : (w.alloc (.cells #[.iface 129 (.pointer (some ⟨m0, 0, none⟩))] 157)).heap[w.heap.size]? = some (.cells #[.iface 129 (.pointer (some ⟨m0, 0, none⟩))] 157 (0, 0)) := World.alloc_heap_new _ _
  have hs3 : (w.alloc (.cells #[.iface 129 (.pointer (some ⟨m0, 0, none⟩))] 157)).heap.size = w.heap.size + 1 := by simp
  generalize w.alloc (.cells #[.iface 129 (.pointer (some ⟨m0, 0, none⟩))] 157) = X at *
  refine exec_seq (exec_region_o fun ds => ?_)
  gi_wp2
  refine eq_mk ((Keep.refl _).alloc _) ?_
  show Exec _ _ (Code.seq (Code.seq _ _) _) _ (X.alloc (.cells #[.bool true] 4)) _
  have h4 : (X.alloc (.cells #[.bool true] 4)).heap[w.heap.size + 1]? = some (.cells #[.bool true] 4 (0, 0)) := by
    have := World.alloc_heap_new X (.cells #[.bool true] 4)
    rwa [hs3] at this
  have h3' := heap_next h3 (.cells #[.bool true] 4)
  have hB2 := hB.alloc hB.size (.cells #[.bool true] 4)
  try rw [hs3]
  clear hB h3 hs3
  generalize X.alloc (.cells #[.bool true] 4) = Y at *
  clear X
  refine exec_seq (exec_seq (exec_region_o fun ds => ?_))
  gi_wp2_with fail
  refine ⟨trivial, rfl, (callsIn_wide.2 (every102 a hl6 pb A c Y ((hB2.block _ hpw).trans hO.box))).mono ?_⟩
  rintro e U ⟨rfl, hu⟩
  have hBU := hB2.trans (hu.mono hB2.size)
  have hsU := hu.size
  have u3 := (hu.block _ (heap_lt h3')).trans h3'
  have u4 := (hu.block _ (heap_lt h4)).trans h4
  have hu4 := heap_lt h4
  gi_wp2_with fail
  refine ⟨trivial, rfl, (callsIn_wide.2 (truths101 pb ((2 ^ a.L.length - 1 : Nat) : Int) U)).mono ?_⟩
  rintro e Z ⟨⟨rfl, z2, z4⟩, hz, hsz⟩
  have hBZ := hBU.trans (hz.mono hBU.size)
  have q3 := (hz.block _ (heap_lt u3)).trans u3
  have q4 := (hz.block _ (heap_lt u4)).trans u4
  gi_wp2
  refine eq_mk ((Keep.of_below hu).trans (Keep.of_below hz)) ?_
  clear h3' h4 hB2 hu u3 u4 hBU hz
  show Exec _ _ (Code.block _ _) _ _ _
  refine exec_block ?_
  obtain ⟨b2, hb2⟩ : ∃ b2, U.heap.size = b2 := ⟨_, rfl⟩
  rw [hb2] at z2 z4 hsz hsU
  simp only [hb2]
  clear hb2
  clear U
  have hS : ∀ k, (k < Z.heap.size ∧ k ≠ m0 ∧ k ≠ w.heap.size + 1) → k < Z.heap.size := fun k h => h.1
  have hOZ : PgO Z a pb A c ms := ⟨(hBZ.block _ hpw).trans hO.box, hO.len, hO.row.grow (Grow.of_below (B := 0) hBZ), fun i p m hp hm => (hO.map i p m hp hm).below hBZ⟩
  have hit := truths111 (S := fun k => k < Z.heap.size ∧ k ≠ m0 ∧ k ≠ w.heap.size + 1) ho hS hOZ (hr.below hBZ) z2 z4 ⟨by have := hBZ.size; omega, np, by omega⟩ ⟨by omega, by omega, by omega⟩ ⟨by omega, by omega, by omega⟩ (fun ad e => ⟨by have := (nA ad e).2; have := hBZ.size; omega, (nA ad e).1, by have := (nA ad e).2; omega⟩) (fun m hm => ⟨by
    obtain ⟨i, hi⟩ := List.mem_iff_getElem?.1 hm
    have hil := (List.getElem?_eq_some_iff.1 hi).1
    exact (hOZ.map i _ m (List.getElem?_eq_getElem (by rw [← hO.len]; exact hil)) hi).lt, nm m hm, by
    obtain ⟨i, hi⟩ := List.mem_iff_getElem?.1 hm
    have hil := (List.getElem?_eq_some_iff.1 hi).1
    have := (hO.map i _ m (List.getElem?_eq_getElem (by rw [← hO.len]; exact hil)) hi).lt
    omega⟩) (fun ad e => ⟨by have := (nL ad e).2; have := hBZ.size; omega, (nL ad e).1, by have := (nL ad e).2; omega⟩)
  have hZ0 : Mp 0 Z := hMs 0 w Z (Nat.le_refl _) h0 fun j hj => hBZ.block j hj
  have hwZ := hBZ.size
  refine exec_rangeG (L := truthsL a) rfl (enters_of Try.func111 (by kernel_rfl) rfl) hit hS (fun _ => rfl)
    (fun k W => Mp k W ∧ W.heap[w.heap.size + 1]? = some (.cells #[.bool (decide (k = 0))] 4 (0, 0)) ∧ W.heap[w.heap.size]? = some (.cells #[.iface 129 (.pointer (some ⟨m0, 0, none⟩))] 157 (0, 0)) ∧ w.grownBy W (some m0)) (fun _ _ => False)
    (fun k X Y ⟨h1, h2, h3, h4⟩ hg => ⟨hMs k X Y h4.size h1 fun j hj => by
      have hjX := Nat.lt_of_lt_of_le hj h4.size
      rw [Array.getElem?_eq_getElem hjX]
      exact hg.same j _ (Array.getElem?_eq_getElem hjX) (.inl (by omega)), hg.same _ _ h2 (.inr rfl), hg.same _ _ h3 (.inr rfl), ⟨hg.os.trans h4.os, hg.tape.trans h4.tape, hg.output.trans h4.output, Nat.le_trans h4.size hg.size, fun j hj hne => by
      have h5 := h4.block j hj hne
      rw [Array.getElem?_eq_getElem hj] at h5 ⊢
      exact hg.same j _ h5 (.inl (by omega))⟩⟩)
    (fun c X Y h hg => h) ⟨hZ0, q4, q3, gb_below _ hBZ⟩ ?round ?done (fun _ h => h.elim) (fun _ _ h => h.elim)
  case done =>
    rintro W ⟨hM, hn, hi, hg⟩
    rw [decide_eq_false (by omega)] at hn
    have c4 := cells_get (cs := [_]) (k := 0) hn rfl
    clear hit hsee hZ0 hOZ
    show Exec _ _ (Code.region _ _ _) _ _ _
    refine exec_region_o fun ds => ?_
    gi_wp2_with fail
    refine ⟨trivial, rfl, (callsIn_wide.2 (need98 10 W)).mono ?_⟩
    rintro e V ⟨rfl, hv⟩
    gi_wp2
    refine eq_mk (Keep.of_below hv) ?_
    have hg2 := gb_trans hg (gb_below _ hv)
    refine ⟨.inl rfl, fun W' hG => ⟨_, results_none rfl _ _ _, rfl, hMs _ W W' hg.size hM fun j hj => ?_, grownBy_grow hg2 hG⟩⟩
    have hjW := Nat.lt_of_lt_of_le hj hg.size
    have hb := hv.block j hjW
    rw [Array.getElem?_eq_getElem hjW] at hb ⊢
    exact hG.same j _ hb (.inl hj)
  case round =>
    clear hit hZ0 q3 q4
    rintro l k hk W hlt ⟨hM, hn, hi, hg⟩
    have hcall := fun V => hsee k hk V
    obtain ⟨T, hT⟩ : ∃ T, (truthsL a)[k]'hk = T := ⟨_, rfl⟩
    have hT9 : T.length = 9 := hTl T (by rw [← hT]; exact List.getElem_mem hk)
    obtain ⟨t0, t1, t2, t3, t4, t5, t6, t7, t8, hTa, _⟩ := T_nine hT9
    simp only [hT, hTa] at hcall ⊢
    clear hT hTa hT9 hsee
    refine exec_region_r fun ds => ?_
    gi_wp2
    have hal := (Below.refl W.heap.size W).alloc (Nat.le_refl _) (.cells #[vi t0, vi t1, vi t2, vi t3, vi t4, vi t5, vi t6, vi t7, vi t8] 116)
    have h5 : (W.alloc (.cells #[vi t0, vi t1, vi t2, vi t3, vi t4, vi t5, vi t6, vi t7, vi t8] 116)).heap[W.heap.size]? = some (.cells #[vi t0, vi t1, vi t2, vi t3, vi t4, vi t5, vi t6, vi t7, vi t8] 116 (0, 0)) := World.alloc_heap_new _ _
    refine eq_mk ((Keep.refl _).alloc _) ⟨rfl, Same.of_below hal (fun j hj => by have := hj.1; omega), SF.of_below hal, ?_⟩
    intro V hG hsz
    have hgV : w.grownBy V (some m0) := ⟨hG.os.trans (hal.os.trans hg.os), hG.tape.trans (hal.tape.trans hg.tape), hG.output.trans (hal.output.trans hg.output), Nat.le_trans (Nat.le_trans hg.size hal.size) hG.size, fun j hj hne => by
      have e1 := (hal.block j (Nat.lt_of_lt_of_le hj hg.size)).trans (hg.block j hj hne)
      rw [Array.getElem?_eq_getElem hj] at e1 ⊢
      exact hG.same j _ e1 (.inl (by omega))⟩
    have hMV : Mp k V := hMs k W V hg.size hM fun j hj => by
      have hjW := Nat.lt_of_lt_of_le hj hg.size
      have e1 := hal.block j hjW
      rw [Array.getElem?_eq_getElem hjW] at e1 ⊢
      exact hG.same j _ e1 (.inl (by omega))
    have v3 := hG.same _ _ (heap_next hi (.cells #[vi t0, vi t1, vi t2, vi t3, vi t4, vi t5, vi t6, vi t7, vi t8] 116)) (.inr rfl)
    have v4 := hG.same _ _ (heap_next hn (.cells #[vi t0, vi t1, vi t2, vi t3, vi t4, vi t5, vi t6, vi t7, vi t8] 116)) (.inr rfl)
    have v5 := hG.same _ _ h5 (.inr rfl)
    have hVs : W.heap.size < V.heap.size := heap_lt v5
    have hZV : Z.heap.size ≤ V.heap.size := by omega
    obtain ⟨z5, hz5⟩ : ∃ z5, W.heap.size = z5 := ⟨_, rfl⟩
    have hz5' : Z.heap.size < z5 := by omega
    rw [hz5] at v5
    simp only [hz5]
    clear hG hsz hal h5 hM hn hi hg hVs hz5 hlt
    clear W
    have c3 := cells_get (cs := [_]) (k := 0) v3 rfl
    have hN := Nine.of v5
    have d0 := hN.c0
    have d1 := hN.c1
    have d2 := hN.c2
    have d3 := hN.c3
    have d4 := hN.c4
    have d5 := hN.c5
    have d6 := hN.c6
    have d7 := hN.c7
    have d8 := hN.c8
    clear hN
    refine exec_block (exec_seq (exec_region_r fun ds => ?_))
    gi_wp2_with fail
    refine ⟨fun _ _ => trivial, (fun h => by cases h), (callsIn_wide.2 (hcall V hMV)).mono ?_⟩
    rintro e U ⟨rfl, hM2, hgU⟩
    have hkU : Keep V U := (Keep.refl V).grown hgU fun j o e ho => by
      cases e
      exact hMb k V o hMV ho
    have hsU := hgU.size
    have hwV := hgV.size
    have u4 := (hgU.block _ (heap_lt v4) (by simp; omega)).trans v4
    have u3 := (hgU.block _ (heap_lt v3) (by simp; omega)).trans v3
    have hgw := gb_trans hgV hgU
    clear hcall c3 d0 d1 d2 d3 d4 d5 d6 d7 d8 v5
    gi_wp2
    refine eq_mk hkU ?_
    show Exec _ _ (Code.region _ _ _) _ _ _
    have g4 := cells_get (cs := [_]) (k := 0) u4 rfl
    have f4 : U.frozen? ⟨w.heap.size + 1, 0, none⟩ = false := frozen_cells u4
    have s4 := box_set U (w.heap.size + 1) 0 [_] 4 (.bool false) u4
    have s3 := box_far U (w.heap.size + 1) 0 w.heap.size (.bool false) _ u3 (by omega)
    refine exec_region_r fun ds => ?_
    gi_wp2
    refine eq_mk ((Keep.refl _).setCell _ _) ?_
    refine ⟨fun j hj => ?_, fun j h1 h2 => ?_, hMs _ U _ hgw.size hM2 fun j hj => Below.heap_setCell U ⟨w.heap.size + 1, 0, none⟩ (.bool false) j (by show j ≠ w.heap.size + 1; omega), ?_, s3, ⟨hgw.os, hgw.tape, hgw.output, by rw [World.size_setCell]; exact hgw.size, fun j hj hne => (Below.heap_setCell U ⟨w.heap.size + 1, 0, none⟩ (.bool false) j (by show j ≠ w.heap.size + 1; omega)).trans (hgw.block j hj hne)⟩⟩
    · obtain ⟨h1, h2, h3⟩ := hj
      exact (Below.heap_setCell U ⟨w.heap.size + 1, 0, none⟩ (.bool false) j h3).trans (hgU.block j (by omega) (by simp; exact fun e => h2 e))
    · exact (Below.heap_setCell U ⟨w.heap.size + 1, 0, none⟩ (.bool false) j (by show j ≠ w.heap.size + 1; omega)).trans (hgU.block j h2 (by simp; omega))
    · rw [decide_eq_false (Nat.succ_ne_zero k)]
      exact s4
end Go.Proofs.Ytafmgmaelnpehaa.Tp
end
