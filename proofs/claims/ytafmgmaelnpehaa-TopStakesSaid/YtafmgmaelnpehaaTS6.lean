/- TopStakes returns true for all numbers, in whatever order Go evaluates what it leaves open; no condition. -/
import Derived.Test.YtafmgmaelnpehaaTS4
import Derived.Test.YtafmgmaelnpehaaProg
import Derived.Test.YtafmgmaelnpehaaTS2
import Derived.Test.YtafmgmaelnpehaaTS5
import Derived.Deep.Upon
import Derived.ArgAppend
import Derived.Maps.AppendAt
import Derived.WalkKit
import Derived.WalkSpells
import Derived.WalkLawsBesides
import Derived.Outline
import Derived.OwnWalkIn
import Derived.TacticsInMore
import Derived.LoopNIn
import Derived.LoopIn
import Derived.Shelf.RegionOpen
import Derived.Deep.QuietTactic
import Derived.BigQuiet
import Derived.Lib.Hide
import Derived.Great.BuildSlice
import Derived.Laws.Tables
import Derived.Test.YtafmgmaelnpehaaRows
import Derived.ProofKit
import Derived.OpenShut
import Derived.ShutString
import Derived.ChangeOld
import Derived.Below
import Derived.SizedLaws
import Derived.Laws.IdiomArrays
set_option linter.unusedVariables false
set_option linter.unusedSimpArgs false
section
namespace Go.Proofs.Ytafmgmaelnpehaa.PFurrowAsks
open Go.RowKit Go.Proofs.YtafmgmaelnpehaaW.PrintWords Go.Proofs.YtafmgmaelnpehaaW.PrintLast Go.Proofs.YtafmgmaelnpehaaW.PrintMore
attribute [local go_sem] max2_int min2_int max_two min_two max_three min_three max_four min_four   -- for this text's walks alone

/-! ### furrowworkstop_span04: function 41 -/
def furrowworkstop_span04.f (a0 : Int) (a1 : Int) : Option (Int × Int) := some (a0, a1)
set_option maxHeartbeats 8000000 in
set_option maxRecDepth 100000 in
theorem furrowworkstop_span04.calls (a0 : Int) (a1 : Int) (r1 : Int) (r2 : Int) (w : World) (h : furrowworkstop_span04.f a0 a1 = some (r1, r2)) :
    Calls Try.prog 41 #[.int .i64 a0, .int .i64 a1] w fun e w' => e = .returned (.agg #[.int .i64 r1, .int .i64 r2]) ∧ Below w.heap.size w w' := by
  have hu28 := Try.underlying28
  have HB := Aside0.mk (Below.refl w.heap.size w)
  have H : (some (a0, a1)) = some (r1, r2) := h
  clear h
  simp only [Option.some.injEq, Prod.mk.injEq] at H
  obtain ⟨rfl, rfl⟩ := H
  go_enter Try.func41, Try.ntmps41
  go_wp2_with (first | ((with_reducible refine gate_dst (N := 4) rfl ?_); refine box_event ?hg (N := 4) ?hd (cs := #[.int .i64 0, .int .i64 0]) (t := 28) ?hr ?_; (case hd => rfl); (case hg => rfl); (case hr => first | (go_simp; done) | (go_simp; rfl)); intro gb130 hg w3 hbox hb; have n0_ := Aside0.mk (below_step (by repeat (first | (with_reducible first | exact HB.out | apply below_alloc | apply pw_below_drewN | apply below_drew1) | exact HB.out)) hb); have n1_ := Aside0.mk (hbox); have n2_ := Aside0.mk ((by rw [hg]; exact (below_size (by repeat (first | (with_reducible first | exact HB.out | apply below_alloc | apply pw_below_drewN | apply below_drew1) | exact HB.out))) : w.heap.size ≤ gb130)); have n3_ := Aside0.mk ((by rw [hg]; exact (below_size (by repeat (first | (with_reducible first | exact HB.out | apply below_alloc | apply pw_below_drewN | apply below_drew1) | exact HB.out))) : w.heap.size ≤ gb130)); clear HB; have HB := n0_; have BK130 := n1_; have GW130 := n2_; have GE130 := n3_; clear n0_ n1_ n2_ n3_; clear hb hbox hg; have hcz4_0 : w3.cell? ⟨gb130, 0, none⟩ = some (.int .i64 0) := (blk_cell BK130.out 0).trans rfl; have hcz4_1 : w3.cell? ⟨gb130, 1, none⟩ = some (.int .i64 0) := (blk_cell BK130.out 1).trans rfl; have hfz4_0 := blk_frozen BK130.out 0; have hfz4_1 := blk_frozen BK130.out 1))
  refine bodyPost_ret (results_cell_row rfl _ _ gb130 28 #[.int .i64 a0, .int .i64 a1] (0, 0) _ rfl (by (with_reducible repeat (first | refine blk_drewN ?_ _ | refine blk_drew ?_ | refine blk_alloc ?_ _)); refine blk_put (cs := #[.int .i64 a0, .int .i64 0]) ?_ 1 _ rfl; (with_reducible repeat (first | refine blk_drewN ?_ _ | refine blk_drew ?_ | refine blk_alloc ?_ _)); refine blk_put (cs := #[.int .i64 0, .int .i64 0]) ?_ 0 _ rfl; (with_reducible repeat (first | refine blk_drewN ?_ _ | refine blk_drew ?_ | refine blk_alloc ?_ _)); exact BK130.out) Try.underlying28 rfl (by kernel_rfl)) rfl ?_
  exact ⟨by first | rfl | (simp [errW_none, errW_some] <;> rfl) | (simp [*, errW_none, errW_some] <;> rfl), by repeat (first | (with_reducible first | exact HB.out | apply below_alloc | apply pw_below_drewN | apply below_drew1 | refine below_set ?_ GE130.out) | exact HB.out)⟩

end Go.Proofs.Ytafmgmaelnpehaa.PFurrowAsks
end

section
namespace Go.Proofs.Ytafmgmaelnpehaa.PFurrowAsks
open Go.RowKit Go.Proofs.YtafmgmaelnpehaaW.PrintWords Go.Proofs.YtafmgmaelnpehaaW.PrintLast Go.Proofs.YtafmgmaelnpehaaW.PrintMore
attribute [local go_sem] max2_int min2_int max_two min_two max_three min_three max_four min_four   -- for this text's walks alone

/-! ### furrowworkstop_furrow04: function 85 -/
def furrowworkstop_furrow04.l0 : Nat → Int → Int → List (S28) → List (S28) → List (S28) → Option ((List (S28)) × (List (S28)) × (List (S28)))
  | 0, _, _, _, _, _ => none
  | k + 1, x17, x18, x159000, x159001, x159002 => if x18 < x17 then ((furrowworkstop_span04.f 30 30).bind fun bt159 => (if x159001.length < 8796093022208 then (furrowworkstop_furrow04.l0 k x17 (wrap64 (x18 + 1)) x159000 (x159001 ++ [(⟨bt159.1, bt159.2⟩ : S28)]) x159002) else (none))) else (some (x159000, x159001, x159002))
def furrowworkstop_furrow04.f (k : Nat)  : Option ((List (S28)) × (List (S28)) × (List (S28))) := (furrowworkstop_span04.f 0 1).bind fun bt132 => ((furrowworkstop_span04.f 2 3).bind fun bt134 => ((furrowworkstop_span04.f 0 0).bind fun bt136 => ((furrowworkstop_span04.f 1 1).bind fun bt138 => ((furrowworkstop_span04.f 5 6).bind fun bt140 => ((some (([(⟨bt132.1, bt132.2⟩ : S28), (⟨bt134.1, bt134.2⟩ : S28), (⟨bt136.1, bt136.2⟩ : S28), (⟨bt138.1, bt138.2⟩ : S28), (⟨bt140.1, bt140.2⟩ : S28)] : List (S28)) : List (S28))).bind fun y142 => ((furrowworkstop_span04.f 15 16).bind fun bt145 => ((furrowworkstop_span04.f 14 18).bind fun bt147 => ((furrowworkstop_span04.f 15 15).bind fun bt149 => ((furrowworkstop_span04.f 12 14).bind fun bt151 => ((furrowworkstop_span04.f 16 17).bind fun bt153 => (furrowworkstop_furrow04.l0 k (y142.length : Int) 0 y142 ([] : List (S28)) (([(⟨bt145.1, bt145.2⟩ : S28), (⟨bt147.1, bt147.2⟩ : S28), (⟨bt149.1, bt149.2⟩ : S28), (⟨bt151.1, bt151.2⟩ : S28), (⟨bt153.1, bt153.2⟩ : S28)] : List (S28))))))))))))))
theorem furrowworkstop_furrow04.mono_l : ∀ k, (∀ y0 y1 y2 y3 y4, LeO (furrowworkstop_furrow04.l0 k y0 y1 y2 y3 y4) (furrowworkstop_furrow04.l0 (k + 1) y0 y1 y2 y3 y4))
  | 0 => fun _ _ _ _ _ r h => by simp [furrowworkstop_furrow04.l0] at h
  | k + 1 => by
    have ih0 := furrowworkstop_furrow04.mono_l k
    · intro y0 y1 y2 y3 y4
      unfold furrowworkstop_furrow04.l0
      repeat' first
      | (with_reducible exact ih0 _ _ _ _ _)
      | (with_reducible exact LeO.refl _)
      | (with_reducible exact LeO.none _)
      | (with_reducible refine LeO.ite ?_ ?_)
      | (with_reducible refine LeO.bind ?_ (fun _ => ?_))
      | exact ih0 _ _ _ _ _
      | exact LeO.none _
      | refine LeO.ite ?_ ?_
      | refine LeO.bind ?_ (fun _ => ?_)
theorem furrowworkstop_furrow04.mono : ∀ k, LeO (furrowworkstop_furrow04.f k ) (furrowworkstop_furrow04.f (k + 1) ) := by
  intro  k
  have ih0 := furrowworkstop_furrow04.mono_l k
  unfold furrowworkstop_furrow04.f
  repeat' first
      | (with_reducible exact ih0 _ _ _ _ _)
      | (with_reducible exact LeO.refl _)
      | (with_reducible exact LeO.none _)
      | (with_reducible refine LeO.ite ?_ ?_)
      | (with_reducible refine LeO.bind ?_ (fun _ => ?_))
      | exact ih0 _ _ _ _ _
      | exact LeO.none _
      | refine LeO.ite ?_ ?_
      | refine LeO.bind ?_ (fun _ => ?_)
set_option maxHeartbeats 8000000 in
set_option maxRecDepth 100000 in
theorem furrowworkstop_furrow04.calls (k : Nat)  (r1 : List (S28)) (r2 : List (S28)) (r3 : List (S28)) (w : World) (h : furrowworkstop_furrow04.f k  = some (r1, r2, r3)) :
    Calls Try.prog 85 #[] w fun e w' => ∃ v0_ v1_ v2_ : Value, e = .returned (.agg #[v0_, v1_, v2_]) ∧ Kd.R k28 28 w' w.heap.size (fun k_ => some k_ ≠ (v1_ : Value).ownBlock ∧ some k_ ≠ (v2_ : Value).ownBlock) v0_ r1 ∧ Kd.R k28 28 w' w.heap.size (fun k_ => some k_ ≠ (v0_ : Value).ownBlock ∧ some k_ ≠ (v2_ : Value).ownBlock) v1_ r2 ∧ Kd.R k28 28 w' w.heap.size (fun k_ => some k_ ≠ (v0_ : Value).ownBlock ∧ some k_ ≠ (v1_ : Value).ownBlock) v2_ r3 ∧ Below w.heap.size w w' := by
  have hu24 := Try.underlying24
  have HB := Aside0.mk (Below.refl w.heap.size w)
  have H : ((furrowworkstop_span04.f 0 1).bind fun bt132 => ((furrowworkstop_span04.f 2 3).bind fun bt134 => ((furrowworkstop_span04.f 0 0).bind fun bt136 => ((furrowworkstop_span04.f 1 1).bind fun bt138 => ((furrowworkstop_span04.f 5 6).bind fun bt140 => ((some (([(⟨bt132.1, bt132.2⟩ : S28), (⟨bt134.1, bt134.2⟩ : S28), (⟨bt136.1, bt136.2⟩ : S28), (⟨bt138.1, bt138.2⟩ : S28), (⟨bt140.1, bt140.2⟩ : S28)] : List (S28)) : List (S28))).bind fun y142 => ((furrowworkstop_span04.f 15 16).bind fun bt145 => ((furrowworkstop_span04.f 14 18).bind fun bt147 => ((furrowworkstop_span04.f 15 15).bind fun bt149 => ((furrowworkstop_span04.f 12 14).bind fun bt151 => ((furrowworkstop_span04.f 16 17).bind fun bt153 => (furrowworkstop_furrow04.l0 k (y142.length : Int) 0 y142 ([] : List (S28)) (([(⟨bt145.1, bt145.2⟩ : S28), (⟨bt147.1, bt147.2⟩ : S28), (⟨bt149.1, bt149.2⟩ : S28), (⟨bt151.1, bt151.2⟩ : S28), (⟨bt153.1, bt153.2⟩ : S28)] : List (S28))))))))))))))) = some (r1, r2, r3) := h
  clear h
  replace H := Option.bind_eq_some_iff.mp H
  obtain ⟨⟨t132, t133⟩, A10, H⟩ := H
  replace H : ((furrowworkstop_span04.f 2 3).bind fun bt134 => ((furrowworkstop_span04.f 0 0).bind fun bt136 => ((furrowworkstop_span04.f 1 1).bind fun bt138 => ((furrowworkstop_span04.f 5 6).bind fun bt140 => ((some (([(⟨t132, t133⟩ : S28), (⟨bt134.1, bt134.2⟩ : S28), (⟨bt136.1, bt136.2⟩ : S28), (⟨bt138.1, bt138.2⟩ : S28), (⟨bt140.1, bt140.2⟩ : S28)] : List (S28)) : List (S28))).bind fun y142 => ((furrowworkstop_span04.f 15 16).bind fun bt145 => ((furrowworkstop_span04.f 14 18).bind fun bt147 => ((furrowworkstop_span04.f 15 15).bind fun bt149 => ((furrowworkstop_span04.f 12 14).bind fun bt151 => ((furrowworkstop_span04.f 16 17).bind fun bt153 => (furrowworkstop_furrow04.l0 k (y142.length : Int) 0 y142 ([] : List (S28)) (([(⟨bt145.1, bt145.2⟩ : S28), (⟨bt147.1, bt147.2⟩ : S28), (⟨bt149.1, bt149.2⟩ : S28), (⟨bt151.1, bt151.2⟩ : S28), (⟨bt153.1, bt153.2⟩ : S28)] : List (S28)))))))))))))) = some (r1, r2, r3) := H
  have A1 := Aside0.mk A10
  clear A10
  replace H := Option.bind_eq_some_iff.mp H
  obtain ⟨⟨t134, t135⟩, A20, H⟩ := H
  replace H : ((furrowworkstop_span04.f 0 0).bind fun bt136 => ((furrowworkstop_span04.f 1 1).bind fun bt138 => ((furrowworkstop_span04.f 5 6).bind fun bt140 => ((some (([(⟨t132, t133⟩ : S28), (⟨t134, t135⟩ : S28), (⟨bt136.1, bt136.2⟩ : S28), (⟨bt138.1, bt138.2⟩ : S28), (⟨bt140.1, bt140.2⟩ : S28)] : List (S28)) : List (S28))).bind fun y142 => ((furrowworkstop_span04.f 15 16).bind fun bt145 => ((furrowworkstop_span04.f 14 18).bind fun bt147 => ((furrowworkstop_span04.f 15 15).bind fun bt149 => ((furrowworkstop_span04.f 12 14).bind fun bt151 => ((furrowworkstop_span04.f 16 17).bind fun bt153 => (furrowworkstop_furrow04.l0 k (y142.length : Int) 0 y142 ([] : List (S28)) (([(⟨bt145.1, bt145.2⟩ : S28), (⟨bt147.1, bt147.2⟩ : S28), (⟨bt149.1, bt149.2⟩ : S28), (⟨bt151.1, bt151.2⟩ : S28), (⟨bt153.1, bt153.2⟩ : S28)] : List (S28))))))))))))) = some (r1, r2, r3) := H
  have A2 := Aside0.mk A20
  clear A20
  replace H := Option.bind_eq_some_iff.mp H
  obtain ⟨⟨t136, t137⟩, A30, H⟩ := H
  replace H : ((furrowworkstop_span04.f 1 1).bind fun bt138 => ((furrowworkstop_span04.f 5 6).bind fun bt140 => ((some (([(⟨t132, t133⟩ : S28), (⟨t134, t135⟩ : S28), (⟨t136, t137⟩ : S28), (⟨bt138.1, bt138.2⟩ : S28), (⟨bt140.1, bt140.2⟩ : S28)] : List (S28)) : List (S28))).bind fun y142 => ((furrowworkstop_span04.f 15 16).bind fun bt145 => ((furrowworkstop_span04.f 14 18).bind fun bt147 => ((furrowworkstop_span04.f 15 15).bind fun bt149 => ((furrowworkstop_span04.f 12 14).bind fun bt151 => ((furrowworkstop_span04.f 16 17).bind fun bt153 => (furrowworkstop_furrow04.l0 k (y142.length : Int) 0 y142 ([] : List (S28)) (([(⟨bt145.1, bt145.2⟩ : S28), (⟨bt147.1, bt147.2⟩ : S28), (⟨bt149.1, bt149.2⟩ : S28), (⟨bt151.1, bt151.2⟩ : S28), (⟨bt153.1, bt153.2⟩ : S28)] : List (S28)))))))))))) = some (r1, r2, r3) := H
  have A3 := Aside0.mk A30
  clear A30
  replace H := Option.bind_eq_some_iff.mp H
  obtain ⟨⟨t138, t139⟩, A40, H⟩ := H
  replace H : ((furrowworkstop_span04.f 5 6).bind fun bt140 => ((some (([(⟨t132, t133⟩ : S28), (⟨t134, t135⟩ : S28), (⟨t136, t137⟩ : S28), (⟨t138, t139⟩ : S28), (⟨bt140.1, bt140.2⟩ : S28)] : List (S28)) : List (S28))).bind fun y142 => ((furrowworkstop_span04.f 15 16).bind fun bt145 => ((furrowworkstop_span04.f 14 18).bind fun bt147 => ((furrowworkstop_span04.f 15 15).bind fun bt149 => ((furrowworkstop_span04.f 12 14).bind fun bt151 => ((furrowworkstop_span04.f 16 17).bind fun bt153 => (furrowworkstop_furrow04.l0 k (y142.length : Int) 0 y142 ([] : List (S28)) (([(⟨bt145.1, bt145.2⟩ : S28), (⟨bt147.1, bt147.2⟩ : S28), (⟨bt149.1, bt149.2⟩ : S28), (⟨bt151.1, bt151.2⟩ : S28), (⟨bt153.1, bt153.2⟩ : S28)] : List (S28))))))))))) = some (r1, r2, r3) := H
  have A4 := Aside0.mk A40
  clear A40
  replace H := Option.bind_eq_some_iff.mp H
  obtain ⟨⟨t140, t141⟩, A50, H⟩ := H
  replace H : ((some (([(⟨t132, t133⟩ : S28), (⟨t134, t135⟩ : S28), (⟨t136, t137⟩ : S28), (⟨t138, t139⟩ : S28), (⟨t140, t141⟩ : S28)] : List (S28)) : List (S28))).bind fun y142 => ((furrowworkstop_span04.f 15 16).bind fun bt145 => ((furrowworkstop_span04.f 14 18).bind fun bt147 => ((furrowworkstop_span04.f 15 15).bind fun bt149 => ((furrowworkstop_span04.f 12 14).bind fun bt151 => ((furrowworkstop_span04.f 16 17).bind fun bt153 => (furrowworkstop_furrow04.l0 k (y142.length : Int) 0 y142 ([] : List (S28)) (([(⟨bt145.1, bt145.2⟩ : S28), (⟨bt147.1, bt147.2⟩ : S28), (⟨bt149.1, bt149.2⟩ : S28), (⟨bt151.1, bt151.2⟩ : S28), (⟨bt153.1, bt153.2⟩ : S28)] : List (S28)))))))))) = some (r1, r2, r3) := H
  have A5 := Aside0.mk A50
  clear A50
  obtain ⟨y142, hy142⟩ : ∃ y_ : List (S28), y_ = (([(⟨t132, t133⟩ : S28), (⟨t134, t135⟩ : S28), (⟨t136, t137⟩ : S28), (⟨t138, t139⟩ : S28), (⟨t140, t141⟩ : S28)] : List (S28))) := ⟨_, rfl⟩
  replace H : ((furrowworkstop_span04.f 15 16).bind fun bt145 => ((furrowworkstop_span04.f 14 18).bind fun bt147 => ((furrowworkstop_span04.f 15 15).bind fun bt149 => ((furrowworkstop_span04.f 12 14).bind fun bt151 => ((furrowworkstop_span04.f 16 17).bind fun bt153 => (furrowworkstop_furrow04.l0 k (y142.length : Int) 0 y142 ([] : List (S28)) (([(⟨bt145.1, bt145.2⟩ : S28), (⟨bt147.1, bt147.2⟩ : S28), (⟨bt149.1, bt149.2⟩ : S28), (⟨bt151.1, bt151.2⟩ : S28), (⟨bt153.1, bt153.2⟩ : S28)] : List (S28))))))))) = some (r1, r2, r3) := by first | (rw [hy142]; with_reducible exact H) | (have H2_ := (Option.bind_some _ _).symm.trans H; rw [hy142]; with_reducible exact H2_) | (have H2_ := (Option.bind_some _ _).symm.trans H; with_reducible exact H2_) | with_reducible exact H | (rw [hy142]; exact H) | exact H
  have Ny142 := Aside0.mk hy142
  clear hy142
  replace H := Option.bind_eq_some_iff.mp H
  obtain ⟨⟨t145, t146⟩, A60, H⟩ := H
  replace H : ((furrowworkstop_span04.f 14 18).bind fun bt147 => ((furrowworkstop_span04.f 15 15).bind fun bt149 => ((furrowworkstop_span04.f 12 14).bind fun bt151 => ((furrowworkstop_span04.f 16 17).bind fun bt153 => (furrowworkstop_furrow04.l0 k (y142.length : Int) 0 y142 ([] : List (S28)) (([(⟨t145, t146⟩ : S28), (⟨bt147.1, bt147.2⟩ : S28), (⟨bt149.1, bt149.2⟩ : S28), (⟨bt151.1, bt151.2⟩ : S28), (⟨bt153.1, bt153.2⟩ : S28)] : List (S28)))))))) = some (r1, r2, r3) := H
  have A6 := Aside0.mk A60
  clear A60
  replace H := Option.bind_eq_some_iff.mp H
  obtain ⟨⟨t147, t148⟩, A70, H⟩ := H
  replace H : ((furrowworkstop_span04.f 15 15).bind fun bt149 => ((furrowworkstop_span04.f 12 14).bind fun bt151 => ((furrowworkstop_span04.f 16 17).bind fun bt153 => (furrowworkstop_furrow04.l0 k (y142.length : Int) 0 y142 ([] : List (S28)) (([(⟨t145, t146⟩ : S28), (⟨t147, t148⟩ : S28), (⟨bt149.1, bt149.2⟩ : S28), (⟨bt151.1, bt151.2⟩ : S28), (⟨bt153.1, bt153.2⟩ : S28)] : List (S28))))))) = some (r1, r2, r3) := H
  have A7 := Aside0.mk A70
  clear A70
  replace H := Option.bind_eq_some_iff.mp H
  obtain ⟨⟨t149, t150⟩, A80, H⟩ := H
  replace H : ((furrowworkstop_span04.f 12 14).bind fun bt151 => ((furrowworkstop_span04.f 16 17).bind fun bt153 => (furrowworkstop_furrow04.l0 k (y142.length : Int) 0 y142 ([] : List (S28)) (([(⟨t145, t146⟩ : S28), (⟨t147, t148⟩ : S28), (⟨t149, t150⟩ : S28), (⟨bt151.1, bt151.2⟩ : S28), (⟨bt153.1, bt153.2⟩ : S28)] : List (S28)))))) = some (r1, r2, r3) := H
  have A8 := Aside0.mk A80
  clear A80
  replace H := Option.bind_eq_some_iff.mp H
  obtain ⟨⟨t151, t152⟩, A90, H⟩ := H
  replace H : ((furrowworkstop_span04.f 16 17).bind fun bt153 => (furrowworkstop_furrow04.l0 k (y142.length : Int) 0 y142 ([] : List (S28)) (([(⟨t145, t146⟩ : S28), (⟨t147, t148⟩ : S28), (⟨t149, t150⟩ : S28), (⟨t151, t152⟩ : S28), (⟨bt153.1, bt153.2⟩ : S28)] : List (S28))))) = some (r1, r2, r3) := H
  have A9 := Aside0.mk A90
  clear A90
  replace H := Option.bind_eq_some_iff.mp H
  obtain ⟨⟨t153, t154⟩, A100, H⟩ := H
  replace H : (furrowworkstop_furrow04.l0 k (y142.length : Int) 0 y142 ([] : List (S28)) (([(⟨t145, t146⟩ : S28), (⟨t147, t148⟩ : S28), (⟨t149, t150⟩ : S28), (⟨t151, t152⟩ : S28), (⟨t153, t154⟩ : S28)] : List (S28)))) = some (r1, r2, r3) := H
  have A10 := Aside0.mk A100
  clear A100
  obtain ⟨y155, hy155⟩ : ∃ y_ : List (S28), y_ = (([(⟨t145, t146⟩ : S28), (⟨t147, t148⟩ : S28), (⟨t149, t150⟩ : S28), (⟨t151, t152⟩ : S28), (⟨t153, t154⟩ : S28)] : List (S28))) := ⟨_, rfl⟩
  replace H : (furrowworkstop_furrow04.l0 k (y142.length : Int) 0 y142 ([] : List (S28)) y155) = some (r1, r2, r3) := by first | (rw [hy155]; with_reducible exact H) | (have H2_ := (Option.bind_some _ _).symm.trans H; rw [hy155]; with_reducible exact H2_) | (have H2_ := (Option.bind_some _ _).symm.trans H; with_reducible exact H2_) | with_reducible exact H | (rw [hy155]; exact H) | exact H
  have Ny155 := Aside0.mk hy155
  clear hy155
  have H' := Aside0.mk H
  clear H
  go_enter Try.func85, Try.ntmps85
  go_wp2_with (first | ((with_reducible refine gate_dst (N := 0) rfl ?_); refine box_event ?hg (N := 0) ?hd (cs := #[.slice none 0 0, .slice none 0 0, .slice none 0 0]) (t := 24) ?hr ?_; (case hd => rfl); (case hg => rfl); (case hr => first | (go_simp; done) | (go_simp; rfl)); intro gb131 hg w11 hbox hb; have n0_ := Aside0.mk (below_step (by repeat (first | (with_reducible first | exact HB.out | apply below_alloc | apply pw_below_drewN | apply below_drew1) | exact HB.out)) hb); have n1_ := Aside0.mk (hbox); have n2_ := Aside0.mk ((by rw [hg]; exact (below_size (by repeat (first | (with_reducible first | exact HB.out | apply below_alloc | apply pw_below_drewN | apply below_drew1) | exact HB.out))) : w.heap.size ≤ gb131)); have n3_ := Aside0.mk ((by rw [hg]; exact (below_size (by repeat (first | (with_reducible first | exact HB.out | apply below_alloc | apply pw_below_drewN | apply below_drew1) | exact HB.out))) : w.heap.size ≤ gb131)); clear HB; have HB := n0_; have BK131 := n1_; have GW131 := n2_; have GE131 := n3_; clear n0_ n1_ n2_ n3_; clear hb hbox hg) | ((with_reducible refine gate_callee (f := 41) rfl ?_); refine goesL_ (some 2) rfl rfl Try.func41 (by kernel_rfl) rfl #[.int .i64 0, .int .i64 1] rfl (by (try simp only [List.map_toArray, List.map_cons, List.map_nil]); first | done | rfl | (simp only [List.length_drop, List.length_take]; rfl)) ?_; (with_reducible refine (furrowworkstop_span04.calls 0 1 t132 t133 _ A1.out).mono ?_); rintro e w12 ⟨rfl, hb⟩; refine ⟨_, rfl, ?_⟩; have n0_ := Aside0.mk (blk_below (g := gb131) (o := .cells #[.slice none 0 0, .slice none 0 0, .slice none 0 0] 24 (0, 0)) (by (with_reducible repeat (first | refine blk_drewN ?_ _ | refine blk_drew ?_ | refine blk_alloc ?_ _)); exact BK131.out) hb); have n1_ := Aside0.mk (below_step (by repeat (first | (with_reducible first | exact HB.out | apply below_alloc | apply pw_below_drewN | apply below_drew1 | refine below_set ?_ GE131.out) | exact HB.out)) hb); clear BK131; clear HB; have BK131 := n0_; have HB := n1_; clear n0_ n1_; (try clear hb); (try clear hb2); (try clear hk); (try clear hi)) | ((with_reducible refine gate_callee (f := 41) rfl ?_); refine goesL_ (some 3) rfl rfl Try.func41 (by kernel_rfl) rfl #[.int .i64 2, .int .i64 3] rfl (by (try simp only [List.map_toArray, List.map_cons, List.map_nil]); first | done | rfl | (simp only [List.length_drop, List.length_take]; rfl)) ?_; (with_reducible refine (furrowworkstop_span04.calls 2 3 t134 t135 _ A2.out).mono ?_); rintro e w13 ⟨rfl, hb⟩; refine ⟨_, rfl, ?_⟩; have n0_ := Aside0.mk (blk_below (g := gb131) (o := .cells #[.slice none 0 0, .slice none 0 0, .slice none 0 0] 24 (0, 0)) (by (with_reducible repeat (first | refine blk_drewN ?_ _ | refine blk_drew ?_ | refine blk_alloc ?_ _)); exact BK131.out) hb); have n1_ := Aside0.mk (below_step (by repeat (first | (with_reducible first | exact HB.out | apply below_alloc | apply pw_below_drewN | apply below_drew1 | refine below_set ?_ GE131.out) | exact HB.out)) hb); clear BK131; clear HB; have BK131 := n0_; have HB := n1_; clear n0_ n1_; (try clear hb); (try clear hb2); (try clear hk); (try clear hi)) | ((with_reducible refine gate_callee (f := 41) rfl ?_); refine goesL_ (some 4) rfl rfl Try.func41 (by kernel_rfl) rfl #[.int .i64 0, .int .i64 0] rfl (by (try simp only [List.map_toArray, List.map_cons, List.map_nil]); first | done | rfl | (simp only [List.length_drop, List.length_take]; rfl)) ?_; (with_reducible refine (furrowworkstop_span04.calls 0 0 t136 t137 _ A3.out).mono ?_); rintro e w14 ⟨rfl, hb⟩; refine ⟨_, rfl, ?_⟩; have n0_ := Aside0.mk (blk_below (g := gb131) (o := .cells #[.slice none 0 0, .slice none 0 0, .slice none 0 0] 24 (0, 0)) (by (with_reducible repeat (first | refine blk_drewN ?_ _ | refine blk_drew ?_ | refine blk_alloc ?_ _)); exact BK131.out) hb); have n1_ := Aside0.mk (below_step (by repeat (first | (with_reducible first | exact HB.out | apply below_alloc | apply pw_below_drewN | apply below_drew1 | refine below_set ?_ GE131.out) | exact HB.out)) hb); clear BK131; clear HB; have BK131 := n0_; have HB := n1_; clear n0_ n1_; (try clear hb); (try clear hb2); (try clear hk); (try clear hi)) | ((with_reducible refine gate_callee (f := 41) rfl ?_); refine goesL_ (some 5) rfl rfl Try.func41 (by kernel_rfl) rfl #[.int .i64 1, .int .i64 1] rfl (by (try simp only [List.map_toArray, List.map_cons, List.map_nil]); first | done | rfl | (simp only [List.length_drop, List.length_take]; rfl)) ?_; (with_reducible refine (furrowworkstop_span04.calls 1 1 t138 t139 _ A4.out).mono ?_); rintro e w15 ⟨rfl, hb⟩; refine ⟨_, rfl, ?_⟩; have n0_ := Aside0.mk (blk_below (g := gb131) (o := .cells #[.slice none 0 0, .slice none 0 0, .slice none 0 0] 24 (0, 0)) (by (with_reducible repeat (first | refine blk_drewN ?_ _ | refine blk_drew ?_ | refine blk_alloc ?_ _)); exact BK131.out) hb); have n1_ := Aside0.mk (below_step (by repeat (first | (with_reducible first | exact HB.out | apply below_alloc | apply pw_below_drewN | apply below_drew1 | refine below_set ?_ GE131.out) | exact HB.out)) hb); clear BK131; clear HB; have BK131 := n0_; have HB := n1_; clear n0_ n1_; (try clear hb); (try clear hb2); (try clear hk); (try clear hi)) | ((with_reducible refine gate_callee (f := 41) rfl ?_); refine goesL_ (some 6) rfl rfl Try.func41 (by kernel_rfl) rfl #[.int .i64 5, .int .i64 6] rfl (by (try simp only [List.map_toArray, List.map_cons, List.map_nil]); first | done | rfl | (simp only [List.length_drop, List.length_take]; rfl)) ?_; (with_reducible refine (furrowworkstop_span04.calls 5 6 t140 t141 _ A5.out).mono ?_); rintro e w16 ⟨rfl, hb⟩; refine ⟨_, rfl, ?_⟩; have n0_ := Aside0.mk (blk_below (g := gb131) (o := .cells #[.slice none 0 0, .slice none 0 0, .slice none 0 0] 24 (0, 0)) (by (with_reducible repeat (first | refine blk_drewN ?_ _ | refine blk_drew ?_ | refine blk_alloc ?_ _)); exact BK131.out) hb); have n1_ := Aside0.mk (below_step (by repeat (first | (with_reducible first | exact HB.out | apply below_alloc | apply pw_below_drewN | apply below_drew1 | refine below_set ?_ GE131.out) | exact HB.out)) hb); clear BK131; clear HB; have BK131 := n0_; have HB := n1_; clear n0_ n1_; (try clear hb); (try clear hb2); (try clear hk); (try clear hi)) | ((with_reducible refine gate_dst (N := 7) rfl ?_); refine Kd.R_lit k28 _ 28 ?hg (N := 7) ?hd (xs := ([(⟨t132, t133⟩ : S28), (⟨t134, t135⟩ : S28), (⟨t136, t137⟩ : S28), (⟨t138, t139⟩ : S28), (⟨t140, t141⟩ : S28)] : List (S28))) (inner := [.int .i64 t132, .int .i64 t133, .int .i64 t134, .int .i64 t135, .int .i64 t136, .int .i64 t137, .int .i64 t138, .int .i64 t139, .int .i64 t140, .int .i64 t141]) (ok := fun _ => True) (okp := fun _ => True) ?hr ?hp (fun _ hk => hk) trivial (Below.refl _ _) (Nat.le_refl _) (by simp) ?_; (case hd => rfl); (case hg => rfl); (case hr => first | (go_simp; done) | (go_simp; rfl)); (case hp => exact (Reps.c2 (show Kd.M k28 _ _ _ (⟨t132, t133⟩ : S28) [.int .i64 t132, .int .i64 t133] from (k28_mkM _ _ _ (⟨t132, t133⟩ : S28) )) (Reps.c2 (show Kd.M k28 _ _ _ (⟨t134, t135⟩ : S28) [.int .i64 t134, .int .i64 t135] from (k28_mkM _ _ _ (⟨t134, t135⟩ : S28) )) (Reps.c2 (show Kd.M k28 _ _ _ (⟨t136, t137⟩ : S28) [.int .i64 t136, .int .i64 t137] from (k28_mkM _ _ _ (⟨t136, t137⟩ : S28) )) (Reps.c2 (show Kd.M k28 _ _ _ (⟨t138, t139⟩ : S28) [.int .i64 t138, .int .i64 t139] from (k28_mkM _ _ _ (⟨t138, t139⟩ : S28) )) (Reps.c2 (show Kd.M k28 _ _ _ (⟨t140, t141⟩ : S28) [.int .i64 t140, .int .i64 t141] from (k28_mkM _ _ _ (⟨t140, t141⟩ : S28) )) (Reps.none _ _))))))); intro v143 w17 ho18 hb hg_ hnew_; clear hg_ hnew_; (first | rw [← Ny142.out] at ho18 | (simp only [Int.reduceToNat] at ho18; rw [← Ny142.out] at ho18)); have n0_ := Aside0.mk (Kd.R_lower ho18 (below_size (by repeat (first | (with_reducible first | exact HB.out | apply below_alloc | apply pw_below_drewN | apply below_drew1 | refine below_set ?_ GE131.out) | exact HB.out)))); have n1_ := Aside0.mk (blk_below (g := gb131) (o := .cells #[.slice none 0 0, .slice none 0 0, .slice none 0 0] 24 (0, 0)) (by (with_reducible repeat (first | refine blk_drewN ?_ _ | refine blk_drew ?_ | refine blk_alloc ?_ _)); exact BK131.out) hb); have n2_ := Aside0.mk (below_step (by repeat (first | (with_reducible first | exact HB.out | apply below_alloc | apply pw_below_drewN | apply below_drew1 | refine below_set ?_ GE131.out) | exact HB.out)) hb); clear BK131; clear HB; have HO144 := n0_; have BK131 := n1_; have HB := n2_; clear n0_ n1_ n2_; clear hb ho18) | ((with_reducible refine gate_callee (f := 41) rfl ?_); refine goesL_ (some 8) rfl rfl Try.func41 (by kernel_rfl) rfl #[.int .i64 15, .int .i64 16] rfl (by (try simp only [List.map_toArray, List.map_cons, List.map_nil]); first | done | rfl | (simp only [List.length_drop, List.length_take]; rfl)) ?_; (with_reducible refine (furrowworkstop_span04.calls 15 16 t145 t146 _ A6.out).mono ?_); rintro e w19 ⟨rfl, hb⟩; refine ⟨_, rfl, ?_⟩; have n0_ := Aside0.mk (Kd.R_below (by (with_reducible repeat (first | apply Kd.R_alloc | apply Kd.R_drewN | apply Kd.R_drew)); exact HO144.out) hb); have n1_ := Aside0.mk (blk_below (g := gb131) (o := .cells #[.slice none 0 0, .slice none 0 0, .slice none 0 0] 24 (0, 0)) (by (with_reducible repeat (first | refine blk_drewN ?_ _ | refine blk_drew ?_ | refine blk_alloc ?_ _)); exact BK131.out) hb); have n2_ := Aside0.mk (below_step (by repeat (first | (with_reducible first | exact HB.out | apply below_alloc | apply pw_below_drewN | apply below_drew1 | refine below_set ?_ GE131.out) | exact HB.out)) hb); clear HO144; clear BK131; clear HB; have HO144 := n0_; have BK131 := n1_; have HB := n2_; clear n0_ n1_ n2_; (try clear hb); (try clear hb2); (try clear hk); (try clear hi)) | ((with_reducible refine gate_callee (f := 41) rfl ?_); refine goesL_ (some 9) rfl rfl Try.func41 (by kernel_rfl) rfl #[.int .i64 14, .int .i64 18] rfl (by (try simp only [List.map_toArray, List.map_cons, List.map_nil]); first | done | rfl | (simp only [List.length_drop, List.length_take]; rfl)) ?_; (with_reducible refine (furrowworkstop_span04.calls 14 18 t147 t148 _ A7.out).mono ?_); rintro e w20 ⟨rfl, hb⟩; refine ⟨_, rfl, ?_⟩; have n0_ := Aside0.mk (Kd.R_below (by (with_reducible repeat (first | apply Kd.R_alloc | apply Kd.R_drewN | apply Kd.R_drew)); exact HO144.out) hb); have n1_ := Aside0.mk (blk_below (g := gb131) (o := .cells #[.slice none 0 0, .slice none 0 0, .slice none 0 0] 24 (0, 0)) (by (with_reducible repeat (first | refine blk_drewN ?_ _ | refine blk_drew ?_ | refine blk_alloc ?_ _)); exact BK131.out) hb); have n2_ := Aside0.mk (below_step (by repeat (first | (with_reducible first | exact HB.out | apply below_alloc | apply pw_below_drewN | apply below_drew1 | refine below_set ?_ GE131.out) | exact HB.out)) hb); clear HO144; clear BK131; clear HB; have HO144 := n0_; have BK131 := n1_; have HB := n2_; clear n0_ n1_ n2_; (try clear hb); (try clear hb2); (try clear hk); (try clear hi)) | ((with_reducible refine gate_callee (f := 41) rfl ?_); refine goesL_ (some 10) rfl rfl Try.func41 (by kernel_rfl) rfl #[.int .i64 15, .int .i64 15] rfl (by (try simp only [List.map_toArray, List.map_cons, List.map_nil]); first | done | rfl | (simp only [List.length_drop, List.length_take]; rfl)) ?_; (with_reducible refine (furrowworkstop_span04.calls 15 15 t149 t150 _ A8.out).mono ?_); rintro e w21 ⟨rfl, hb⟩; refine ⟨_, rfl, ?_⟩; have n0_ := Aside0.mk (Kd.R_below (by (with_reducible repeat (first | apply Kd.R_alloc | apply Kd.R_drewN | apply Kd.R_drew)); exact HO144.out) hb); have n1_ := Aside0.mk (blk_below (g := gb131) (o := .cells #[.slice none 0 0, .slice none 0 0, .slice none 0 0] 24 (0, 0)) (by (with_reducible repeat (first | refine blk_drewN ?_ _ | refine blk_drew ?_ | refine blk_alloc ?_ _)); exact BK131.out) hb); have n2_ := Aside0.mk (below_step (by repeat (first | (with_reducible first | exact HB.out | apply below_alloc | apply pw_below_drewN | apply below_drew1 | refine below_set ?_ GE131.out) | exact HB.out)) hb); clear HO144; clear BK131; clear HB; have HO144 := n0_; have BK131 := n1_; have HB := n2_; clear n0_ n1_ n2_; (try clear hb); (try clear hb2); (try clear hk); (try clear hi)) | ((with_reducible refine gate_callee (f := 41) rfl ?_); refine goesL_ (some 11) rfl rfl Try.func41 (by kernel_rfl) rfl #[.int .i64 12, .int .i64 14] rfl (by (try simp only [List.map_toArray, List.map_cons, List.map_nil]); first | done | rfl | (simp only [List.length_drop, List.length_take]; rfl)) ?_; (with_reducible refine (furrowworkstop_span04.calls 12 14 t151 t152 _ A9.out).mono ?_); rintro e w22 ⟨rfl, hb⟩; refine ⟨_, rfl, ?_⟩; have n0_ := Aside0.mk (Kd.R_below (by (with_reducible repeat (first | apply Kd.R_alloc | apply Kd.R_drewN | apply Kd.R_drew)); exact HO144.out) hb); have n1_ := Aside0.mk (blk_below (g := gb131) (o := .cells #[.slice none 0 0, .slice none 0 0, .slice none 0 0] 24 (0, 0)) (by (with_reducible repeat (first | refine blk_drewN ?_ _ | refine blk_drew ?_ | refine blk_alloc ?_ _)); exact BK131.out) hb); have n2_ := Aside0.mk (below_step (by repeat (first | (with_reducible first | exact HB.out | apply below_alloc | apply pw_below_drewN | apply below_drew1 | refine below_set ?_ GE131.out) | exact HB.out)) hb); clear HO144; clear BK131; clear HB; have HO144 := n0_; have BK131 := n1_; have HB := n2_; clear n0_ n1_ n2_; (try clear hb); (try clear hb2); (try clear hk); (try clear hi)) | ((with_reducible refine gate_callee (f := 41) rfl ?_); refine goesL_ (some 12) rfl rfl Try.func41 (by kernel_rfl) rfl #[.int .i64 16, .int .i64 17] rfl (by (try simp only [List.map_toArray, List.map_cons, List.map_nil]); first | done | rfl | (simp only [List.length_drop, List.length_take]; rfl)) ?_; (with_reducible refine (furrowworkstop_span04.calls 16 17 t153 t154 _ A10.out).mono ?_); rintro e w23 ⟨rfl, hb⟩; refine ⟨_, rfl, ?_⟩; have n0_ := Aside0.mk (Kd.R_below (by (with_reducible repeat (first | apply Kd.R_alloc | apply Kd.R_drewN | apply Kd.R_drew)); exact HO144.out) hb); have n1_ := Aside0.mk (blk_below (g := gb131) (o := .cells #[.slice none 0 0, .slice none 0 0, .slice none 0 0] 24 (0, 0)) (by (with_reducible repeat (first | refine blk_drewN ?_ _ | refine blk_drew ?_ | refine blk_alloc ?_ _)); exact BK131.out) hb); have n2_ := Aside0.mk (below_step (by repeat (first | (with_reducible first | exact HB.out | apply below_alloc | apply pw_below_drewN | apply below_drew1 | refine below_set ?_ GE131.out) | exact HB.out)) hb); clear HO144; clear BK131; clear HB; have HO144 := n0_; have BK131 := n1_; have HB := n2_; clear n0_ n1_ n2_; (try clear hb); (try clear hb2); (try clear hk); (try clear hi)) | ((with_reducible refine gate_dst (N := 13) rfl ?_); refine Kd.R_lit k28 _ 28 ?hg (N := 13) ?hd (xs := ([(⟨t145, t146⟩ : S28), (⟨t147, t148⟩ : S28), (⟨t149, t150⟩ : S28), (⟨t151, t152⟩ : S28), (⟨t153, t154⟩ : S28)] : List (S28))) (inner := [.int .i64 t145, .int .i64 t146, .int .i64 t147, .int .i64 t148, .int .i64 t149, .int .i64 t150, .int .i64 t151, .int .i64 t152, .int .i64 t153, .int .i64 t154]) (ok := fun _ => True) (okp := fun _ => True) ?hr ?hp (fun _ hk => hk) trivial (Below.refl _ _) (Nat.le_refl _) (by simp) ?_; (case hd => rfl); (case hg => rfl); (case hr => first | (go_simp; done) | (go_simp; rfl)); (case hp => exact (Reps.c2 (show Kd.M k28 _ _ _ (⟨t145, t146⟩ : S28) [.int .i64 t145, .int .i64 t146] from (k28_mkM _ _ _ (⟨t145, t146⟩ : S28) )) (Reps.c2 (show Kd.M k28 _ _ _ (⟨t147, t148⟩ : S28) [.int .i64 t147, .int .i64 t148] from (k28_mkM _ _ _ (⟨t147, t148⟩ : S28) )) (Reps.c2 (show Kd.M k28 _ _ _ (⟨t149, t150⟩ : S28) [.int .i64 t149, .int .i64 t150] from (k28_mkM _ _ _ (⟨t149, t150⟩ : S28) )) (Reps.c2 (show Kd.M k28 _ _ _ (⟨t151, t152⟩ : S28) [.int .i64 t151, .int .i64 t152] from (k28_mkM _ _ _ (⟨t151, t152⟩ : S28) )) (Reps.c2 (show Kd.M k28 _ _ _ (⟨t153, t154⟩ : S28) [.int .i64 t153, .int .i64 t154] from (k28_mkM _ _ _ (⟨t153, t154⟩ : S28) )) (Reps.none _ _))))))); intro v156 w24 ho25 hb hg_ hnew_; clear hg_ hnew_; (first | rw [← Ny155.out] at ho25 | (simp only [Int.reduceToNat] at ho25; rw [← Ny155.out] at ho25)); have n0_ := Aside0.mk (Kd.R_elder' (by (with_reducible repeat (first | apply Kd.R_alloc | apply Kd.R_drewN | apply Kd.R_drew)); exact HO144.out) (Kd.R_base ho25) hb); have n1_ := Aside0.mk (Kd.R_lower (Kd.R_new' ho25 (Kd.R_lt (by (with_reducible repeat (first | apply Kd.R_alloc | apply Kd.R_drewN | apply Kd.R_drew)); exact HO144.out))) (below_size (by repeat (first | (with_reducible first | exact HB.out | apply below_alloc | apply pw_below_drewN | apply below_drew1 | refine below_set ?_ GE131.out) | exact HB.out)))); have n2_ := Aside0.mk (blk_below (g := gb131) (o := .cells #[.slice none 0 0, .slice none 0 0, .slice none 0 0] 24 (0, 0)) (by (with_reducible repeat (first | refine blk_drewN ?_ _ | refine blk_drew ?_ | refine blk_alloc ?_ _)); exact BK131.out) hb); have n3_ := Aside0.mk (below_step (by repeat (first | (with_reducible first | exact HB.out | apply below_alloc | apply pw_below_drewN | apply below_drew1 | refine below_set ?_ GE131.out) | exact HB.out)) hb); clear HO144; clear BK131; clear HB; have HO144 := n0_; have HO157 := n1_; have BK131 := n2_; have HB := n3_; clear n0_ n1_ n2_ n3_; clear hb ho25; obtain ⟨Ao26, co26, eo26⟩ := Kd.R_slice HO157.out; subst eo26; obtain ⟨Ao27, co27, eo27⟩ := Kd.R_slice HO144.out; subst eo27) | ((with_reducible refine gate_dst (N := 1) rfl ?_); refine box_event ?hg (N := 1) ?hd (cs := #[.slice none 0 0, .slice none 0 0, .slice none 0 0]) (t := 24) ?hr ?_; (case hd => rfl); (case hg => rfl); (case hr => first | (go_simp; done) | (go_simp; rfl)); intro gb158 hg w28 hbox hb; have n0_ := Aside0.mk (Kd.R_below (by (with_reducible repeat (first | apply Kd.R_alloc | apply Kd.R_drewN | apply Kd.R_drew)); exact HO144.out) hb); have n1_ := Aside0.mk (Kd.R_below (by (with_reducible repeat (first | apply Kd.R_alloc | apply Kd.R_drewN | apply Kd.R_drew)); exact HO157.out) hb); have n2_ := Aside0.mk (blk_below (g := gb131) (o := .cells #[.slice none 0 0, .slice none 0 0, .slice none 0 0] 24 (0, 0)) (by (with_reducible repeat (first | refine blk_drewN ?_ _ | refine blk_drew ?_ | refine blk_alloc ?_ _)); exact BK131.out) hb); have n3_ := Aside0.mk (below_step (by repeat (first | (with_reducible first | exact HB.out | apply below_alloc | apply pw_below_drewN | apply below_drew1 | refine below_set ?_ GE131.out) | exact HB.out)) hb); have n4_ := Aside0.mk (hbox); have n5_ := Aside0.mk ((by rw [hg]; exact (below_size (by repeat (first | (with_reducible first | exact HB.out | apply below_alloc | apply pw_below_drewN | apply below_drew1 | refine below_set ?_ GE131.out) | exact HB.out))) : w.heap.size ≤ gb158)); have n6_ := Aside0.mk ((by rw [hg]; exact (below_size (by repeat (first | (with_reducible first | exact HB.out | apply below_alloc | apply pw_below_drewN | apply below_drew1 | refine below_set ?_ GE131.out) | exact HB.out))) : w.heap.size ≤ gb158)); have n7_ := Aside0.mk ((by rw [hg]; exact Nat.ne_of_lt (blk_lt (g := gb131) (o := .cells #[.slice none 0 0, .slice none 0 0, .slice none 0 0] 24 (0, 0)) (by (with_reducible repeat (first | refine blk_drewN ?_ _ | refine blk_drew ?_ | refine blk_alloc ?_ _)); exact BK131.out)) : gb131 ≠ gb158)); have n8_ := Aside0.mk ((by rw [hg]; exact Nat.ne_of_gt (blk_lt (g := gb131) (o := .cells #[.slice none 0 0, .slice none 0 0, .slice none 0 0] 24 (0, 0)) (by (with_reducible repeat (first | refine blk_drewN ?_ _ | refine blk_drew ?_ | refine blk_alloc ?_ _)); exact BK131.out)) : gb158 ≠ gb131)); clear HO144; clear HO157; clear BK131; clear HB; have HO144 := n0_; have HO157 := n1_; have BK131 := n2_; have HB := n3_; have BK158 := n4_; have GW158 := n5_; have GE158 := n6_; have NB131_158 := n7_; have NB158_131 := n8_; clear n0_ n1_ n2_ n3_ n4_ n5_ n6_ n7_ n8_; clear hb hbox hg; have hnb29 := NB158_131.out; have hnc29 := NB131_158.out; have hcz30_0 : w28.cell? ⟨gb158, 0, none⟩ = some (.slice none 0 0) := (blk_cell BK158.out 0).trans rfl; have hcz30_1 : w28.cell? ⟨gb158, 1, none⟩ = some (.slice none 0 0) := (blk_cell BK158.out 1).trans rfl; have hcz30_2 : w28.cell? ⟨gb158, 2, none⟩ = some (.slice none 0 0) := (blk_cell BK158.out 2).trans rfl; have hfz30_0 := blk_frozen BK158.out 0; have hfz30_1 := blk_frozen BK158.out 1; have hfz30_2 := blk_frozen BK158.out 2))
  go_loopg [18] k (fun kq v18 w' => ∃ (x18_1 : Int) (x159001_1 : List (S28)) (u159001 : Value), v18 = .int .i64 x18_1 ∧ Aside0 (furrowworkstop_furrow04.l0 kq (y142.length : Int) x18_1 y142 x159001_1 y155 = some (r1, r2, r3)) ∧ Aside0 (kq ≤ k) ∧ Aside0 (Kd.R k28 28 w' w.heap.size (fun k_ => some k_ ≠ (u159001 : Value).ownBlock ∧ some k_ ≠ ((.slice Ao26 y155.length co26) : Value).ownBlock) (.slice Ao27 y142.length co27) y142) ∧ Aside0 (Kd.R k28 28 w' w.heap.size (fun k_ => some k_ ≠ ((.slice Ao27 y142.length co27) : Value).ownBlock ∧ some k_ ≠ ((.slice Ao26 y155.length co26) : Value).ownBlock) u159001 x159001_1) ∧ Aside0 (Kd.R k28 28 w' w.heap.size (fun k_ => some k_ ≠ ((.slice Ao27 y142.length co27) : Value).ownBlock ∧ some k_ ≠ (u159001 : Value).ownBlock) (.slice Ao26 y155.length co26) y155) ∧ Aside0 (w'.heap[gb131]? = some (.cells #[(.slice none 0 0), (.slice none 0 0), (.slice none 0 0)] 24 (0, 0))) ∧ Aside0 (w'.heap[gb158]? = some (.cells #[(.slice Ao27 y142.length co27), u159001, (.slice Ao26 y155.length co26)] 24 (0, 0))) ∧ Aside0 (Below w.heap.size w w'))
  case atStart => exact ⟨(0), (([] : List (S28))), (.slice none 0 0), (by first | rfl | (simp; done) | (simp [*]; done)), H', ⟨Nat.le_refl _⟩, ⟨by (with_reducible repeat (first | apply Kd.R_alloc | apply Kd.R_drewN | apply Kd.R_drew)); exact Kd.R_mono (Kd.R_far (p := ⟨gb158, 2, none⟩) (Kd.R_far (p := ⟨gb158, 1, none⟩) (Kd.R_far (p := ⟨gb158, 0, none⟩) (Kd.R_types HO144.out BK158.out (by decide)) (fun _ hk => hk.2) (.slice Ao27 y142.length co27)) (fun _ hk => hk.2) (.slice none 0 0)) (fun _ hk => hk.2) (.slice Ao26 y155.length co26)) (fun _ hk => ⟨(by simp [Value.ownBlock]), hk.1.2⟩)⟩, ⟨by first | exact Kd.R_nil _ _ _ _ _ | exact Kd.N_nil _ _ _ _ _ | exact Kd.V_nil _ _ _ _ _ | exact Kd.Q_nil _ _ _ _ _ | exact Kd.S_nil _ _ _ _ _⟩, ⟨by (with_reducible repeat (first | apply Kd.R_alloc | apply Kd.R_drewN | apply Kd.R_drew)); exact Kd.R_mono (Kd.R_far (p := ⟨gb158, 2, none⟩) (Kd.R_far (p := ⟨gb158, 1, none⟩) (Kd.R_far (p := ⟨gb158, 0, none⟩) (Kd.R_types HO157.out BK158.out (by decide)) (fun _ hk => hk.2) (.slice Ao27 y142.length co27)) (fun _ hk => hk.2) (.slice none 0 0)) (fun _ hk => hk.2) (.slice Ao26 y155.length co26)) (fun _ hk => ⟨hk.1.2, (by simp [Value.ownBlock])⟩)⟩, ⟨by (with_reducible repeat (first | refine blk_drewN ?_ _ | refine blk_drew ?_ | refine blk_alloc ?_ _)); refine blk_far ?_ NB131_158.out _; (with_reducible repeat (first | refine blk_drewN ?_ _ | refine blk_drew ?_ | refine blk_alloc ?_ _)); refine blk_far ?_ NB131_158.out _; (with_reducible repeat (first | refine blk_drewN ?_ _ | refine blk_drew ?_ | refine blk_alloc ?_ _)); refine blk_far ?_ NB131_158.out _; (with_reducible repeat (first | refine blk_drewN ?_ _ | refine blk_drew ?_ | refine blk_alloc ?_ _)); exact BK131.out⟩, ⟨by (with_reducible repeat (first | refine blk_drewN ?_ _ | refine blk_drew ?_ | refine blk_alloc ?_ _)); refine blk_put (cs := #[.slice Ao27 y142.length co27, .slice none 0 0, .slice none 0 0]) ?_ 2 _ rfl; (with_reducible repeat (first | refine blk_drewN ?_ _ | refine blk_drew ?_ | refine blk_alloc ?_ _)); refine blk_put (cs := #[.slice Ao27 y142.length co27, .slice none 0 0, .slice none 0 0]) ?_ 1 _ rfl; (with_reducible repeat (first | refine blk_drewN ?_ _ | refine blk_drew ?_ | refine blk_alloc ?_ _)); refine blk_put (cs := #[.slice none 0 0, .slice none 0 0, .slice none 0 0]) ?_ 0 _ rfl; (with_reducible repeat (first | refine blk_drewN ?_ _ | refine blk_drew ?_ | refine blk_alloc ?_ _)); exact BK158.out⟩, ⟨by repeat (first | (with_reducible first | exact HB.out | apply below_alloc | apply pw_below_drewN | apply below_drew1 | refine below_set ?_ GE131.out | refine below_set ?_ GE158.out) | exact HB.out)⟩⟩
  case round =>
    clear H'
    try clear c2
    try clear p2
    try clear c3
    try clear c29
    try clear c30
    try clear hcz30_0
    try clear hcz30_1
    try clear hcz30_2
    try clear hfz30_0
    try clear hfz30_1
    try clear hfz30_2
    obtain ⟨x18_1, x159001_1, u159001, rfl, HA, HK1, HO_159000, HO_159001, HO_159002, BK131, BK158, HB⟩ := hrel
    cases gk with
    | zero => exact absurd HA.out (by simp [furrowworkstop_furrow04.l0])
    | succ k1 =>
      have H := HA.out
      clear HA
      simp only [furrowworkstop_furrow04.l0] at H
      by_cases c31 : x18_1 < (y142.length : Int)
      · rw [if_pos c31] at H
        have c31b0 : decide (x18_1 < (y142.length : Int)) = true := decide_eq_true c31
        clear c31
        replace H := Option.bind_eq_some_iff.mp H
        obtain ⟨⟨t159, t160⟩, A320, H⟩ := H
        replace H : (if x159001_1.length < 8796093022208 then (furrowworkstop_furrow04.l0 k1 (y142.length : Int) (wrap64 (x18_1 + 1)) y142 (x159001_1 ++ [(⟨t159, t160⟩ : S28)]) y155) else (none)) = some (r1, r2, r3) := H
        have A32 := Aside0.mk A320
        clear A320
        by_cases c33 : x159001_1.length < 8796093022208
        · rw [if_pos c33] at H
          have LMc33 := Aside0.mk c33
          clear c33
          obtain ⟨y161, hy161⟩ : ∃ y_ : List (S28), y_ = (x159001_1 ++ [(⟨t159, t160⟩ : S28)]) := ⟨_, rfl⟩
          replace H : (furrowworkstop_furrow04.l0 k1 (y142.length : Int) (wrap64 (x18_1 + 1)) y142 y161 y155) = some (r1, r2, r3) := by first | (rw [hy161]; with_reducible exact H) | (have H2_ := (Option.bind_some _ _).symm.trans H; rw [hy161]; with_reducible exact H2_) | (have H2_ := (Option.bind_some _ _).symm.trans H; with_reducible exact H2_) | with_reducible exact H | (rw [hy161]; exact H) | exact H
          have Ny161 := Aside0.mk hy161
          clear hy161
          have H' := Aside0.mk H
          clear H
          try go_wp2
          have n0_ := Aside0.mk (Kd.R_drew HO_159000.out)
          have n1_ := Aside0.mk (Kd.R_drew HO_159001.out)
          have n2_ := Aside0.mk (Kd.R_drew HO_159002.out)
          have n3_ := Aside0.mk (blk_drew BK131.out)
          have n4_ := Aside0.mk (blk_drew BK158.out)
          have n5_ := Aside0.mk (below_drew1 HB.out)
          clear HO_159000
          clear HO_159001
          clear HO_159002
          clear BK131
          clear BK158
          clear HB
          have HO_159000 := n0_
          have HO_159001 := n1_
          have HO_159002 := n2_
          have BK131 := n3_
          have BK158 := n4_
          have HB := n5_
          clear n0_ n1_ n2_ n3_ n4_ n5_
          refine start_ (n := 7) (S := fun w' => w'.cell? ⟨gb158, 0, none⟩ = some (.slice Ao27 y142.length co27) ∧ w'.cell? ⟨gb158, 1, none⟩ = some (u159001) ∧ w'.cell? ⟨gb158, 2, none⟩ = some (.slice Ao26 y155.length co26)) (ds := [6]) #[false, false, false, false, false, false, false] (by kernel_rfl) rfl rfl ⟨(blk_cell BK158.out 0).trans rfl, (blk_cell BK158.out 1).trans rfl, (blk_cell BK158.out 2).trans rfl⟩ (fun hHeld => ?_)
          generalize wr.drew = w34 at HO_159000 HO_159001 HO_159002 BK131 BK158 HB hHeld ⊢
          refine pure_ (i := 0) (N := some 20) (v := ?_) (a' := ?_) #[true, false, false, false, false, false, false] rfl rfl (by kernel_rfl) (fun _ _ _ h => h) (Or.inl ⟨by rfl, ?_⟩) ?_ ?_
          rotate_left
          · intro w'
            go_simp
            with_reducible rfl
          rotate_left
          · simp only [Act.put, List.setIfInBounds_toArray, List.set_cons_zero, List.set_cons_succ, i64_w, i32_w]
            rfl
          refine take_ (i := 1) (N := some 21) (v := ?_) (a' := ?_) #[true, true, false, false, false, false, false] rfl rfl (by kernel_rfl) (fun _ _ _ h => h) (Or.inl ⟨by rfl, ?_⟩) hHeld ?_ ?_
          rotate_left
          · rintro w' ⟨s0, s1, s2⟩
            go_simp
            with_reducible rfl
          rotate_left
          · simp only [Act.put, List.setIfInBounds_toArray, List.set_cons_zero, List.set_cons_succ, i64_w, i32_w]
            rfl
          refine one_ (i := 2) (N := some 22) #[true, true, true, false, false, false, false] rfl rfl (by kernel_rfl) (by decide) (fun K hK => ?_)
          refine goes_ Try.func41 (by kernel_rfl) rfl #[.int .i64 30, .int .i64 30] (by rfl) rfl rfl (by (try simp only [List.map_toArray, List.map_cons, List.map_nil]); first | done | rfl | (simp only [List.length_drop, List.length_take]; rfl)) ?_
          with_reducible refine (furrowworkstop_span04.calls 30 30 t159 t160 _ A32.out).mono ?_
          rintro e w35 ⟨rfl, hb⟩
          refine ⟨_, rfl, ?_⟩
          have n0_ := Aside0.mk (Kd.R_below (by (with_reducible repeat (first | apply Kd.R_alloc | apply Kd.R_drewN | apply Kd.R_drew)); exact HO_159000.out) hb)
          have n1_ := Aside0.mk (Kd.R_below (by (with_reducible repeat (first | apply Kd.R_alloc | apply Kd.R_drewN | apply Kd.R_drew)); exact HO_159001.out) hb)
          have n2_ := Aside0.mk (Kd.R_below (by (with_reducible repeat (first | apply Kd.R_alloc | apply Kd.R_drewN | apply Kd.R_drew)); exact HO_159002.out) hb)
          have n3_ := Aside0.mk (blk_below (g := gb131) (o := .cells #[.slice none 0 0, .slice none 0 0, .slice none 0 0] 24 (0, 0)) (by (with_reducible repeat (first | refine blk_drewN ?_ _ | refine blk_drew ?_ | refine blk_alloc ?_ _)); exact BK131.out) hb)
          have n4_ := Aside0.mk (blk_below (g := gb158) (o := .cells #[.slice Ao27 y142.length co27, u159001, .slice Ao26 y155.length co26] 24 (0, 0)) (by (with_reducible repeat (first | refine blk_drewN ?_ _ | refine blk_drew ?_ | refine blk_alloc ?_ _)); exact BK158.out) hb)
          have n5_ := Aside0.mk (below_step (by repeat (first | (with_reducible first | exact HB.out | apply below_alloc | apply pw_below_drewN | apply below_drew1 | refine below_set ?_ GE131.out | refine below_set ?_ GE158.out) | exact HB.out)) hb)
          clear HO_159000
          clear HO_159001
          clear HO_159002
          clear BK131
          clear BK158
          clear HB
          have HO_159000 := n0_
          have HO_159001 := n1_
          have HO_159002 := n2_
          have BK131 := n3_
          have BK158 := n4_
          have HB := n5_
          clear n0_ n1_ n2_ n3_ n4_ n5_
          (try clear hb)
          (try clear hb2)
          (try clear hk)
          (try clear hi)
          refine hK.out _ _ ⟨(blk_cell BK158.out 0).trans rfl, (blk_cell BK158.out 1).trans rfl, (blk_cell BK158.out 2).trans rfl⟩ (fun hHeld => ?_)
          clear hK K
          refine norm_ (a' := ?_) ?_ ?_
          rotate_left
          · show Act.put _ (some 22) _ = _
            simp only [Act.put, List.setIfInBounds_toArray, List.set_cons_zero, List.set_cons_succ, i64_w, i32_w]
            rfl
          refine one_ (i := 3) (N := some 23) #[true, true, true, true, false, false, false] rfl rfl (by kernel_rfl) (by decide) (fun K hK => ?_)
          refine value_ (w1 := ?_) (v := ?_) (by rfl) rfl ?_ ?_
          rotate_left 2
          · go_simp
            constructor
            · rfl
            · rfl
          refine hK.out _ _ ⟨(blk_cell (blk_alloc BK158.out _) 0).trans rfl, (blk_cell (blk_alloc BK158.out _) 1).trans rfl, (blk_cell (blk_alloc BK158.out _) 2).trans rfl⟩ (fun hHeld => ?_)
          clear hK K
          refine norm_ (a' := ?_) ?_ ?_
          rotate_left
          · show Act.put _ (some 23) _ = _
            simp only [Act.put, List.setIfInBounds_toArray, List.set_cons_zero, List.set_cons_succ, i64_w, i32_w]
            rfl
          refine one_ (i := 4) (N := some 24) #[true, true, true, true, true, false, false] rfl rfl (by kernel_rfl) (by decide) (fun K hK => ?_)
          refine Kd.R_append_step k28 (w0 := w) w.heap.size (by rfl) (.tmp 21) (.tmp 23) 22 28 (.agg #[(.int .i64 0), (.int .i64 0)]) 16 rfl Try.underlying22 info28 rfl (by decide) (by omega) u159001 x159001_1 (⟨t159, t160⟩ : S28) [.int .i64 t159, .int .i64 t160] (fun k_ => some k_ ≠ (.slice Ao27 y142.length co27 : Value).ownBlock ∧ some k_ ≠ (.slice Ao26 y155.length co26 : Value).ownBlock) (fun _ => False) rfl rfl ?aP (fun _ hk => hk.elim) ?aF ?aO ?aB ?aS ?aL ?_
          (case aP => exact k28_mkM _ _ _ (⟨t159, t160⟩ : S28))
          (case aB => exact (by repeat (first | (with_reducible first | exact HB.out | apply below_alloc | apply pw_below_drewN | apply below_drew1 | refine below_set ?_ GE131.out | refine below_set ?_ GE158.out) | exact HB.out)))
          (case aF => exact (fun k_ hk => ⟨Kd.fresh' (Kd.R_lt (by (with_reducible repeat (first | apply Kd.R_alloc | apply Kd.R_drewN | apply Kd.R_drew)); exact HO_159000.out)) k_ hk, Kd.fresh' (Kd.R_lt (by (with_reducible repeat (first | apply Kd.R_alloc | apply Kd.R_drewN | apply Kd.R_drew)); exact HO_159002.out)) k_ hk⟩))
          (case aO => exact (by (with_reducible repeat (first | apply Kd.R_alloc | apply Kd.R_drewN | apply Kd.R_drew)); exact HO_159001.out))
          (case aS => exact (below_size (by repeat (first | (with_reducible first | exact HB.out | apply below_alloc | apply pw_below_drewN | apply below_drew1 | refine below_set ?_ GE131.out | refine below_set ?_ GE158.out) | exact HB.out))))
          (case aL => have := LMc33.out; omega)
          intro v162 w36 ho hb hg hat
          rw [← Ny161.out] at ho
          have n0_ := Aside0.mk (Kd.R_after (ok := (fun k_ => some k_ ≠ (.slice Ao26 y155.length co26 : Value).ownBlock)) (by (with_reducible repeat (first | apply Kd.R_alloc | apply Kd.R_drewN | apply Kd.R_drew)); exact Kd.R_mono HO_159000.out (fun _ hk => ⟨hk.2, hk.1⟩)) hg hat)
          have n1_ := Aside0.mk (Kd.R_after (ok := (fun k_ => some k_ ≠ (.slice Ao27 y142.length co27 : Value).ownBlock)) (by (with_reducible repeat (first | apply Kd.R_alloc | apply Kd.R_drewN | apply Kd.R_drew)); exact HO_159002.out) hg hat)
          have n2_ := Aside0.mk (blk_grown (g := gb131) (o := .cells #[.slice none 0 0, .slice none 0 0, .slice none 0 0] 24 (0, 0)) (by (with_reducible repeat (first | refine blk_drewN ?_ _ | refine blk_drew ?_ | refine blk_alloc ?_ _)); exact BK131.out) hg (Kd.R_ne HO_159001.out BK131.out (by decide)))
          have n3_ := Aside0.mk (blk_grown (g := gb158) (o := .cells #[.slice Ao27 y142.length co27, u159001, .slice Ao26 y155.length co26] 24 (0, 0)) (by (with_reducible repeat (first | refine blk_drewN ?_ _ | refine blk_drew ?_ | refine blk_alloc ?_ _)); exact BK158.out) hg (Kd.R_ne HO_159001.out BK158.out (by decide)))
          have n4_ := Aside0.mk (hb)
          have n5_ := Aside0.mk (ho)
          clear HO_159000
          clear HO_159002
          clear BK131
          clear BK158
          clear HB
          clear HO_159001
          have HO_159000 := n0_
          have HO_159002 := n1_
          have BK131 := n2_
          have BK158 := n3_
          have HB := n4_
          have HO163 := n5_
          clear n0_ n1_ n2_ n3_ n4_ n5_
          clear ho hb hg hat
          obtain ⟨Ao37, co37, eo37⟩ := Kd.R_slice HO163.out
          (first | subst eo37 | (injection eo37 with f1_ f2_ f3_; have f4_ := f1_.symm; have f5_ := f3_.symm; clear f1_ f2_ f3_; subst f4_; subst f5_))
          refine hK.out _ _ ⟨(blk_cell BK158.out 0).trans rfl, (blk_cell BK158.out 1).trans rfl, (blk_cell BK158.out 2).trans rfl⟩ (fun hHeld => ?_)
          clear hK K
          refine norm_ (a' := ?_) ?_ ?_
          rotate_left
          · show Act.put _ (some 24) _ = _
            simp only [Act.put, List.setIfInBounds_toArray, List.set_cons_zero, List.set_cons_succ, i64_w, i32_w]
            rfl
          refine pure_ (i := 5) (N := some 25) (v := ?_) (a' := ?_) #[true, true, true, true, true, true, false] rfl rfl (by kernel_rfl) (fun _ _ _ h => h) (Or.inl ⟨by rfl, ?_⟩) ?_ ?_
          rotate_left
          · intro w'
            go_simp
            with_reducible rfl
          rotate_left
          · simp only [Act.put, List.setIfInBounds_toArray, List.set_cons_zero, List.set_cons_succ, i64_w, i32_w]
            rfl
          refine last_ (i := 6) (N := none) #[true, true, true, true, true, true, true] rfl rfl (by kernel_rfl) (by decide) (fun K hK => ?_)
          have hs38 : w36.cell? ⟨gb158, 1, none⟩ = some (u159001) := (blk_cell BK158.out 1).trans rfl
          have hfs38 := blk_frozen BK158.out 1
          have hns38_0 := NB131_158.out
          have hms38_0 := NB158_131.out
          refine skip_ (w1 := ?_) (by rfl) rfl ?_ ?_
          rotate_left
          · go_simp
            rfl
          refine hK.out _ _ ?_
          clear hK K
          refine done_ (by kernel_rfl) ?_
          try go_wp2
          go_roundg k1
          case measure => have := HK1.out; omega
          case rel => exact ⟨(wrap64 (x18_1 + 1)), (y161), (.slice Ao37 y161.length co37), (by first | rfl | (simp; done) | (simp [*]; done)), H', ⟨by have := HK1.out; omega⟩, ⟨by (with_reducible repeat (first | apply Kd.R_alloc | apply Kd.R_drewN | apply Kd.R_drew)); exact Kd.R_mono (Kd.R_far (p := ⟨gb158, 1, none⟩) (Kd.R_types HO_159000.out BK158.out (by decide)) (fun _ hk => hk.2) (.slice Ao37 y161.length co37)) (fun _ hk => ⟨hk.1.2, hk.1.1⟩)⟩, ⟨by (with_reducible repeat (first | apply Kd.R_alloc | apply Kd.R_drewN | apply Kd.R_drew)); exact Kd.R_mono (Kd.R_far (p := ⟨gb158, 1, none⟩) (Kd.R_types HO163.out BK158.out (by decide)) (fun _ hk => hk.2) (.slice Ao37 y161.length co37)) (fun _ hk => ⟨hk.1.1, hk.1.2⟩)⟩, ⟨by (with_reducible repeat (first | apply Kd.R_alloc | apply Kd.R_drewN | apply Kd.R_drew)); exact Kd.R_mono (Kd.R_far (p := ⟨gb158, 1, none⟩) (Kd.R_types HO_159002.out BK158.out (by decide)) (fun _ hk => hk.2) (.slice Ao37 y161.length co37)) (fun _ hk => ⟨hk.1.1, hk.1.2⟩)⟩, ⟨by (with_reducible repeat (first | refine blk_drewN ?_ _ | refine blk_drew ?_ | refine blk_alloc ?_ _)); refine blk_far ?_ NB131_158.out _; (with_reducible repeat (first | refine blk_drewN ?_ _ | refine blk_drew ?_ | refine blk_alloc ?_ _)); exact BK131.out⟩, ⟨by (with_reducible repeat (first | refine blk_drewN ?_ _ | refine blk_drew ?_ | refine blk_alloc ?_ _)); refine blk_put (cs := #[.slice Ao27 y142.length co27, u159001, .slice Ao26 y155.length co26]) ?_ 1 _ rfl; (with_reducible repeat (first | refine blk_drewN ?_ _ | refine blk_drew ?_ | refine blk_alloc ?_ _)); exact BK158.out⟩, ⟨by repeat (first | (with_reducible first | exact HB.out | apply below_alloc | apply pw_below_drewN | apply below_drew1 | refine below_set ?_ GE131.out | refine below_set ?_ GE158.out) | exact HB.out)⟩⟩
        · rw [if_neg c33] at H
          exact absurd H (by simp)
      · rw [if_neg c31] at H
        have c31b0 : decide (x18_1 < (y142.length : Int)) = false := decide_eq_false c31
        clear c31
        simp only [Option.some.injEq, Prod.mk.injEq] at H
        obtain ⟨rfl, rfl, rfl⟩ := H
        have hnb39 := NB158_131.out
        have hnc39 := NB131_158.out
        have hcz40_0 : wr.cell? ⟨gb158, 0, none⟩ = some (.slice Ao27 y142.length co27) := (blk_cell BK158.out 0).trans rfl
        have hcz40_1 : wr.cell? ⟨gb158, 1, none⟩ = some (u159001) := (blk_cell BK158.out 1).trans rfl
        have hcz40_2 : wr.cell? ⟨gb158, 2, none⟩ = some (.slice Ao26 y155.length co26) := (blk_cell BK158.out 2).trans rfl
        have hfz40_0 := blk_frozen BK158.out 0
        have hfz40_1 := blk_frozen BK158.out 1
        have hfz40_2 := blk_frozen BK158.out 2
        have hcz41_0 : wr.cell? ⟨gb131, 0, none⟩ = some (.slice none 0 0) := (blk_cell BK131.out 0).trans rfl
        have hcz41_1 : wr.cell? ⟨gb131, 1, none⟩ = some (.slice none 0 0) := (blk_cell BK131.out 1).trans rfl
        have hcz41_2 : wr.cell? ⟨gb131, 2, none⟩ = some (.slice none 0 0) := (blk_cell BK131.out 2).trans rfl
        have hfz41_0 := blk_frozen BK131.out 0
        have hfz41_1 := blk_frozen BK131.out 1
        have hfz41_2 := blk_frozen BK131.out 2
        obtain ⟨Ao42, co42, eo42⟩ := Kd.R_slice HO_159001.out
        subst eo42
        go_wp2
        refine bodyPost_ret (results_cell_row rfl _ _ gb131 24 #[.slice Ao27 y142.length co27, .slice Ao42 x159001_1.length co42, .slice Ao26 y155.length co26] (0, 0) _ rfl (by (with_reducible repeat (first | refine blk_drewN ?_ _ | refine blk_drew ?_ | refine blk_alloc ?_ _)); refine blk_put (cs := #[.slice Ao27 y142.length co27, .slice Ao42 x159001_1.length co42, .slice none 0 0]) ?_ 2 _ rfl; (with_reducible repeat (first | refine blk_drewN ?_ _ | refine blk_drew ?_ | refine blk_alloc ?_ _)); refine blk_put (cs := #[.slice Ao27 y142.length co27, .slice none 0 0, .slice none 0 0]) ?_ 1 _ rfl; (with_reducible repeat (first | refine blk_drewN ?_ _ | refine blk_drew ?_ | refine blk_alloc ?_ _)); refine blk_put (cs := #[.slice none 0 0, .slice none 0 0, .slice none 0 0]) ?_ 0 _ rfl; (with_reducible repeat (first | refine blk_drewN ?_ _ | refine blk_drew ?_ | refine blk_alloc ?_ _)); exact BK131.out) Try.underlying24 rfl (by kernel_rfl)) rfl ?_
        exact ⟨_, _, _, by first | rfl | (simp [errW_none, errW_some] <;> rfl) | (simp [*, errW_none, errW_some] <;> rfl), by (with_reducible repeat (first | apply Kd.R_alloc | apply Kd.R_drewN | apply Kd.R_drew)); exact Kd.R_mono (Kd.R_far (p := ⟨gb131, 2, none⟩) (Kd.R_far (p := ⟨gb131, 1, none⟩) (Kd.R_far (p := ⟨gb131, 0, none⟩) (Kd.R_types HO_159000.out BK131.out (by decide)) (fun _ hk => hk.2) (.slice Ao27 y142.length co27)) (fun _ hk => hk.2) (.slice Ao42 x159001_1.length co42)) (fun _ hk => hk.2) (.slice Ao26 y155.length co26)) (fun _ hk => ⟨hk.1.1, hk.1.2⟩), by (with_reducible repeat (first | apply Kd.R_alloc | apply Kd.R_drewN | apply Kd.R_drew)); exact Kd.R_mono (Kd.R_far (p := ⟨gb131, 2, none⟩) (Kd.R_far (p := ⟨gb131, 1, none⟩) (Kd.R_far (p := ⟨gb131, 0, none⟩) (Kd.R_types HO_159001.out BK131.out (by decide)) (fun _ hk => hk.2) (.slice Ao27 y142.length co27)) (fun _ hk => hk.2) (.slice Ao42 x159001_1.length co42)) (fun _ hk => hk.2) (.slice Ao26 y155.length co26)) (fun _ hk => ⟨hk.1.1, hk.1.2⟩), by (with_reducible repeat (first | apply Kd.R_alloc | apply Kd.R_drewN | apply Kd.R_drew)); exact Kd.R_mono (Kd.R_far (p := ⟨gb131, 2, none⟩) (Kd.R_far (p := ⟨gb131, 1, none⟩) (Kd.R_far (p := ⟨gb131, 0, none⟩) (Kd.R_types HO_159002.out BK131.out (by decide)) (fun _ hk => hk.2) (.slice Ao27 y142.length co27)) (fun _ hk => hk.2) (.slice Ao42 x159001_1.length co42)) (fun _ hk => hk.2) (.slice Ao26 y155.length co26)) (fun _ hk => ⟨hk.1.1, hk.1.2⟩), by repeat (first | (with_reducible first | exact HB.out | apply below_alloc | apply pw_below_drewN | apply below_drew1 | refine below_set ?_ GE131.out | refine below_set ?_ GE158.out) | exact HB.out)⟩

end Go.Proofs.Ytafmgmaelnpehaa.PFurrowAsks
end

section
namespace Go.Proofs.Ytafmgmaelnpehaa.Tp
open Go.RowKit Go.TL Go.Shelf
attribute [local go_sem] Oper.semAt_some
attribute [local go_sem] run_store_func
open Go.Fu PFurrowAsks Go.Proofs.YtafmgmaelnpehaaW.PrintWords
theorem furrow04_is : furrowworkstop_furrow04.f 10 = some (smp0, smp1, smp2) := by kernel_rfl
theorem furrow85 (w : World) : Calls Try.prog 85 #[] w fun e w' => (∃ F : Fur, F.At w' ∧ e = .returned F.val ∧ F.l0 = smp0 ∧ F.l1 = smp1 ∧ F.l2 = smp2) ∧ Below w.heap.size w w' :=
  (furrowworkstop_furrow04.calls 10 smp0 smp1 smp2 w furrow04_is).mono fun e w' ⟨v0, v1, v2, he, h0, h1, h2, hb⟩ => by
    obtain ⟨F, hF, hv, e0, e1, e2⟩ := fur_of_rows h0 h1 h2
    exact ⟨⟨F, hF, he.trans (congrArg _ hv), e0, e1, e2⟩, hb⟩
def v3_0t : It := ⟨(Op.load 28 (Operand.tmp 1)), some 15, 28, true, none⟩
def v3_1 : It := ⟨(Op.call { callee := (Callee.value (Operand.func 41)), args := #[(Operand.const (Value.int IntKind.i64 3)), (Operand.const (Value.int IntKind.i64 6))], argTypes := #[3, 3] }), some 16, 28, false, none⟩
def v3_2 : It := ⟨(Op.binOp BinOp.eql 28 (Operand.tmp 15) (Operand.tmp 16) 28), some 17, 4, false, none⟩
def v3_3 : It := ⟨(Op.move (Operand.tmp 17)), some 18, 4, false, none⟩
def v3_4 : It := ⟨(Op.move (Operand.tmp 2)), some 19, 29, false, some (18, true)⟩
def v3_5 : It := ⟨(Op.binOp BinOp.eql 29 (Operand.tmp 19) (Operand.const (Value.int IntKind.i64 0)) 29), some 20, 4, false, some (18, true)⟩
def v3_6 : It := ⟨(Op.pick (Operand.tmp 18) (Operand.tmp 20) (Operand.const (Value.bool false))), some 21, 4, false, none⟩
def v3_7 : It := ⟨(Op.move (Operand.tmp 21)), some 22, 4, false, none⟩
def v3_8t : It := ⟨(Op.load 28 (Operand.tmp 3)), some 23, 28, true, some (22, true)⟩
def v3_9 : It := ⟨(Op.call { callee := (Callee.value (Operand.func 41)), args := #[(Operand.const (Value.int IntKind.i64 21)), (Operand.const (Value.int IntKind.i64 21))], argTypes := #[3, 3] }), some 24, 28, false, some (22, true)⟩
def v3_10 : It := ⟨(Op.binOp BinOp.eql 28 (Operand.tmp 23) (Operand.tmp 24) 28), some 25, 4, false, some (22, true)⟩
def v3_11 : It := ⟨(Op.pick (Operand.tmp 22) (Operand.tmp 25) (Operand.const (Value.bool false))), some 26, 4, false, none⟩
def v3_12 : It := ⟨(Op.move (Operand.tmp 26)), some 27, 4, false, none⟩
def v3_13 : It := ⟨(Op.move (Operand.tmp 4)), some 28, 29, false, some (27, true)⟩
def v3_14 : It := ⟨(Op.binOp BinOp.eql 29 (Operand.tmp 28) (Operand.const (Value.int IntKind.i64 0)) 29), some 29, 4, false, some (27, true)⟩
def v3_15 : It := ⟨(Op.pick (Operand.tmp 27) (Operand.tmp 29) (Operand.const (Value.bool false))), some 30, 4, false, none⟩
def v3_16 : It := ⟨(Op.assign (Operand.tmp 30)), some 0, 4, false, none⟩
set_option maxRecDepth 100000 in
set_option maxHeartbeats 4000000 in
theorem alive_r3 {w W : World} {q1 q3 : Nat} (hT : Tr w W W [(q3, .cells #[vi 21, vi 21] 28 (0, 0)), (q1, .cells #[vi 3, vi 6] 28 (0, 0))]) {t : Array Value} (hSl : Slots [some (.bool false), some (.pointer (some ⟨q1, 0, none⟩)), some (vi 0), some (.pointer (some ⟨q3, 0, none⟩)), some (vi 0), none, none, none, none, none, none, none, none, none, none, none, none, none, none, none, none, none, none, none, none, none, none, none, none, none, none] t) :
    Exec Try.prog none (sub (Try.f44.body.getD .skip) [1, 1, 1, 0]) t W (andThen (fun t' W' => Tr w W' W' [(q3, .cells #[vi 21, vi 21] 28 (0, 0)), (q1, .cells #[vi 3, vi 6] 28 (0, 0))] ∧ Slots [some (.bool true), some (.pointer (some ⟨q1, 0, none⟩)), some (vi 0), some (.pointer (some ⟨q3, 0, none⟩)), some (vi 0), none, none, none, none, none, none, none, none, none, none, none, none, none, none, none, none, none, none, none, none, none, none, none, none, none, none] t') fun _ _ _ => False) := by
  have hu28 := Try.underlying28
  have hT0 := hT.again.drew
  refine region_tree (c := (sub (Try.f44.body.getD .skip) [1, 1, 1, 0])) (id := 3) (.one 0 true (.one 1 false (.one 2 false (.one 3 false (.one 4 false (.one 5 false (.one 6 false (.one 7 false (.one 8 true (.one 9 false (.one 10 false (.one 11 false (.one 12 false (.one 13 false (.one 14 false (.one 15 false (.one 16 false (.nil)))))))))))))))))) (Opq (regOps (sub (Try.f44.body.getD .skip) [1, 1, 1, 0]))) rfl (by kernel_rfl) (by kernel_rfl) (by kernel_rfl) (by kernel_rfl) (by kernel_rfl) (by kernel_rfl) [0, 0, 3, 6, 8, 24, 40, 72, 128, 128, 896, 1152, 2560, 4096, 12288, 20480, 65535] (by kernel_rfl) (by kernel_rfl) (fun W' => W'.cell? ⟨q1, 0, none⟩ = some (vi 3) ∧ W'.cell? ⟨q1, 1, none⟩ = some (vi 6) ∧ W'.cell? ⟨q3, 0, none⟩ = some (vi 21) ∧ W'.cell? ⟨q3, 1, none⟩ = some (vi 21)) (fun _ _ _ => False) (fun _ _ _ h => h.elim) (fun _ _ _ _ _ _ _ _ h => h.elim) fun ds Q' hQn hQp => ?_
  have F0 : Fr [some (.bool false), some (.pointer (some ⟨q1, 0, none⟩)), some (vi 0), some (.pointer (some ⟨q3, 0, none⟩)), some (vi 0), none, none, none, none, none, none, none, none, none, none, none, none, none, none, none, none, none, none, none, none, none, none, none, none, none, none] ds { tmps := t, defers := ds } := Fr.start hSl
  clear hSl
  generalize ({ tmps := t, defers := ds } : Act) = a0 at *
  generalize W.drew = X0 at *
  refine tr_take v3_0t (.agg #[vi 3, vi 6]) (by kernel_rfl) rfl rfl (fun wq hq => ?_) ⟨hT0.cell 1 rfl rfl, hT0.cell 1 rfl rfl, hT0.cell 0 rfl rfl, hT0.cell 0 rfl rfl⟩ ?_; (focus (have e1 : a0.eval (.tmp 1) = (.pointer (some ⟨q1, 0, none⟩)) := F0.ev 1 (by kernel_rfl); generalize a0.eval = ev at e1 ⊢; simp [go_sem, mkO, v3_0t, e1, hu28, hq.1, hq.2.1]; done))
  refine F0.next 15 (.agg #[vi 3, vi 6]) fun a1 F1 => ?_
  clear F0
  refine tr_call v3_1 (f := 41) (args := #[vi 3, vi 6]) (by kernel_rfl) rfl rfl ?_ ?_
  · (have ec : ∀ c, a1.eval (.const c) = c := fun _ => rfl; have ef : ∀ f, a1.eval (.func f) = .func (.func f) #[] #[] := fun _ => rfl; generalize a1.eval = ev at ec ef ⊢; simp [go_sem, mkO, v3_1, ec, ef]; done)
  refine (span41 3 6 X0).mono ?_
  rintro e X1 ⟨rfl, hy⟩
  have hT1 := hT0.step hy
  refine .inl ⟨_, rfl, ⟨hT1.cell 1 rfl rfl, hT1.cell 1 rfl rfl, hT1.cell 0 rfl rfl, hT1.cell 0 rfl rfl⟩, ?_⟩
  clear hy hT0
  clear X0
  refine F1.next 16 (.agg #[vi 3, vi 6]) fun a2 F2 => ?_
  clear F1 a1
  refine tr_make v3_2 (.bool true) _ (by kernel_rfl) rfl rfl ?_ ⟨hT1.cell 1 rfl rfl, hT1.cell 1 rfl rfl, hT1.cell 0 rfl rfl, hT1.cell 0 rfl rfl⟩ ?_; (focus (have hq := (show (fun W' : World => W'.cell? ⟨q1, 0, none⟩ = some (vi 3) ∧ W'.cell? ⟨q1, 1, none⟩ = some (vi 6) ∧ W'.cell? ⟨q3, 0, none⟩ = some (vi 21) ∧ W'.cell? ⟨q3, 1, none⟩ = some (vi 21)) X1 from ⟨hT1.cell 1 rfl rfl, hT1.cell 1 rfl rfl, hT1.cell 0 rfl rfl, hT1.cell 0 rfl rfl⟩); have e15 : a2.eval (.tmp 15) = (.agg #[vi 3, vi 6]) := F2.ev 15 (by kernel_rfl); have e16 : a2.eval (.tmp 16) = (.agg #[vi 3, vi 6]) := F2.ev 16 (by kernel_rfl); generalize a2.eval = ev at e15 e16 ⊢; simp [go_sem, mkO, v3_2, e15, e16, hu28]; done))
  refine F2.next 17 (.bool true) fun a3 F3 => ?_
  clear F2 a2
  refine tr_make v3_3 (.bool true) _ (by kernel_rfl) rfl rfl ?_ ⟨hT1.cell 1 rfl rfl, hT1.cell 1 rfl rfl, hT1.cell 0 rfl rfl, hT1.cell 0 rfl rfl⟩ ?_; (focus (have hq := (show (fun W' : World => W'.cell? ⟨q1, 0, none⟩ = some (vi 3) ∧ W'.cell? ⟨q1, 1, none⟩ = some (vi 6) ∧ W'.cell? ⟨q3, 0, none⟩ = some (vi 21) ∧ W'.cell? ⟨q3, 1, none⟩ = some (vi 21)) X1 from ⟨hT1.cell 1 rfl rfl, hT1.cell 1 rfl rfl, hT1.cell 0 rfl rfl, hT1.cell 0 rfl rfl⟩); have e17 : a3.eval (.tmp 17) = (.bool true) := F3.ev 17 (by kernel_rfl); generalize a3.eval = ev at e17 ⊢; simp [go_sem, mkO, v3_3, e17]; done))
  refine F3.next 18 (.bool true) fun a4 F4 => ?_
  clear F3 a3
  refine tr_make v3_4 (vi 0) _ (by kernel_rfl) rfl (F4.gd (by kernel_rfl)) ?_ ⟨hT1.cell 1 rfl rfl, hT1.cell 1 rfl rfl, hT1.cell 0 rfl rfl, hT1.cell 0 rfl rfl⟩ ?_; (focus (have hq := (show (fun W' : World => W'.cell? ⟨q1, 0, none⟩ = some (vi 3) ∧ W'.cell? ⟨q1, 1, none⟩ = some (vi 6) ∧ W'.cell? ⟨q3, 0, none⟩ = some (vi 21) ∧ W'.cell? ⟨q3, 1, none⟩ = some (vi 21)) X1 from ⟨hT1.cell 1 rfl rfl, hT1.cell 1 rfl rfl, hT1.cell 0 rfl rfl, hT1.cell 0 rfl rfl⟩); have e2 : a4.eval (.tmp 2) = (vi 0) := F4.ev 2 (by kernel_rfl); generalize a4.eval = ev at e2 ⊢; simp [go_sem, mkO, v3_4, e2]; done))
  refine F4.next 19 (vi 0) fun a5 F5 => ?_
  clear F4 a4
  refine tr_make v3_5 (.bool true) _ (by kernel_rfl) rfl (F5.gd (by kernel_rfl)) ?_ ⟨hT1.cell 1 rfl rfl, hT1.cell 1 rfl rfl, hT1.cell 0 rfl rfl, hT1.cell 0 rfl rfl⟩ ?_; (focus (have hq := (show (fun W' : World => W'.cell? ⟨q1, 0, none⟩ = some (vi 3) ∧ W'.cell? ⟨q1, 1, none⟩ = some (vi 6) ∧ W'.cell? ⟨q3, 0, none⟩ = some (vi 21) ∧ W'.cell? ⟨q3, 1, none⟩ = some (vi 21)) X1 from ⟨hT1.cell 1 rfl rfl, hT1.cell 1 rfl rfl, hT1.cell 0 rfl rfl, hT1.cell 0 rfl rfl⟩); have e19 : a5.eval (.tmp 19) = (vi 0) := F5.ev 19 (by kernel_rfl); have ec : ∀ c, a5.eval (.const c) = c := fun _ => rfl; generalize a5.eval = ev at e19 ec ⊢; simp [go_sem, mkO, v3_5, ec, e19]; done))
  refine F5.next 20 (.bool true) fun a6 F6 => ?_
  clear F5 a5
  refine tr_make v3_6 (.bool true) _ (by kernel_rfl) rfl rfl ?_ ⟨hT1.cell 1 rfl rfl, hT1.cell 1 rfl rfl, hT1.cell 0 rfl rfl, hT1.cell 0 rfl rfl⟩ ?_; (focus (have hq := (show (fun W' : World => W'.cell? ⟨q1, 0, none⟩ = some (vi 3) ∧ W'.cell? ⟨q1, 1, none⟩ = some (vi 6) ∧ W'.cell? ⟨q3, 0, none⟩ = some (vi 21) ∧ W'.cell? ⟨q3, 1, none⟩ = some (vi 21)) X1 from ⟨hT1.cell 1 rfl rfl, hT1.cell 1 rfl rfl, hT1.cell 0 rfl rfl, hT1.cell 0 rfl rfl⟩); have e18 : a6.eval (.tmp 18) = (.bool true) := F6.ev 18 (by kernel_rfl); have e20 : a6.eval (.tmp 20) = (.bool true) := F6.ev 20 (by kernel_rfl); have ec : ∀ c, a6.eval (.const c) = c := fun _ => rfl; generalize a6.eval = ev at e18 e20 ec ⊢; simp [go_sem, mkO, v3_6, ec, e18, e20]; done))
  refine F6.next 21 (.bool true) fun a7 F7 => ?_
  clear F6 a6
  refine tr_make v3_7 (.bool true) _ (by kernel_rfl) rfl rfl ?_ ⟨hT1.cell 1 rfl rfl, hT1.cell 1 rfl rfl, hT1.cell 0 rfl rfl, hT1.cell 0 rfl rfl⟩ ?_; (focus (have hq := (show (fun W' : World => W'.cell? ⟨q1, 0, none⟩ = some (vi 3) ∧ W'.cell? ⟨q1, 1, none⟩ = some (vi 6) ∧ W'.cell? ⟨q3, 0, none⟩ = some (vi 21) ∧ W'.cell? ⟨q3, 1, none⟩ = some (vi 21)) X1 from ⟨hT1.cell 1 rfl rfl, hT1.cell 1 rfl rfl, hT1.cell 0 rfl rfl, hT1.cell 0 rfl rfl⟩); have e21 : a7.eval (.tmp 21) = (.bool true) := F7.ev 21 (by kernel_rfl); generalize a7.eval = ev at e21 ⊢; simp [go_sem, mkO, v3_7, e21]; done))
  refine F7.next 22 (.bool true) fun a8 F8 => ?_
  clear F7 a7
  refine tr_take v3_8t (.agg #[vi 21, vi 21]) (by kernel_rfl) rfl (F8.gd (by kernel_rfl)) (fun wq hq => ?_) ⟨hT1.cell 1 rfl rfl, hT1.cell 1 rfl rfl, hT1.cell 0 rfl rfl, hT1.cell 0 rfl rfl⟩ ?_; (focus (have e3 : a8.eval (.tmp 3) = (.pointer (some ⟨q3, 0, none⟩)) := F8.ev 3 (by kernel_rfl); generalize a8.eval = ev at e3 ⊢; simp [go_sem, mkO, v3_8t, e3, hu28, hq.2.2.1, hq.2.2.2]; done))
  refine F8.next 23 (.agg #[vi 21, vi 21]) fun a9 F9 => ?_
  clear F8 a8
  refine tr_call v3_9 (f := 41) (args := #[vi 21, vi 21]) (by kernel_rfl) rfl (F9.gd (by kernel_rfl)) ?_ ?_
  · (have ec : ∀ c, a9.eval (.const c) = c := fun _ => rfl; have ef : ∀ f, a9.eval (.func f) = .func (.func f) #[] #[] := fun _ => rfl; generalize a9.eval = ev at ec ef ⊢; simp [go_sem, mkO, v3_9, ec, ef]; done)
  refine (span41 21 21 X1).mono ?_
  rintro e X2 ⟨rfl, hy⟩
  have hT2 := hT1.step hy
  refine .inl ⟨_, rfl, ⟨hT2.cell 1 rfl rfl, hT2.cell 1 rfl rfl, hT2.cell 0 rfl rfl, hT2.cell 0 rfl rfl⟩, ?_⟩
  clear hy hT1
  clear X1
  refine F9.next 24 (.agg #[vi 21, vi 21]) fun a10 F10 => ?_
  clear F9 a9
  refine tr_make v3_10 (.bool true) _ (by kernel_rfl) rfl (F10.gd (by kernel_rfl)) ?_ ⟨hT2.cell 1 rfl rfl, hT2.cell 1 rfl rfl, hT2.cell 0 rfl rfl, hT2.cell 0 rfl rfl⟩ ?_; (focus (have hq := (show (fun W' : World => W'.cell? ⟨q1, 0, none⟩ = some (vi 3) ∧ W'.cell? ⟨q1, 1, none⟩ = some (vi 6) ∧ W'.cell? ⟨q3, 0, none⟩ = some (vi 21) ∧ W'.cell? ⟨q3, 1, none⟩ = some (vi 21)) X2 from ⟨hT2.cell 1 rfl rfl, hT2.cell 1 rfl rfl, hT2.cell 0 rfl rfl, hT2.cell 0 rfl rfl⟩); have e23 : a10.eval (.tmp 23) = (.agg #[vi 21, vi 21]) := F10.ev 23 (by kernel_rfl); have e24 : a10.eval (.tmp 24) = (.agg #[vi 21, vi 21]) := F10.ev 24 (by kernel_rfl); generalize a10.eval = ev at e23 e24 ⊢; simp [go_sem, mkO, v3_10, e23, e24, hu28]; done))
  refine F10.next 25 (.bool true) fun a11 F11 => ?_
  clear F10 a10
  refine tr_make v3_11 (.bool true) _ (by kernel_rfl) rfl rfl ?_ ⟨hT2.cell 1 rfl rfl, hT2.cell 1 rfl rfl, hT2.cell 0 rfl rfl, hT2.cell 0 rfl rfl⟩ ?_; (focus (have hq := (show (fun W' : World => W'.cell? ⟨q1, 0, none⟩ = some (vi 3) ∧ W'.cell? ⟨q1, 1, none⟩ = some (vi 6) ∧ W'.cell? ⟨q3, 0, none⟩ = some (vi 21) ∧ W'.cell? ⟨q3, 1, none⟩ = some (vi 21)) X2 from ⟨hT2.cell 1 rfl rfl, hT2.cell 1 rfl rfl, hT2.cell 0 rfl rfl, hT2.cell 0 rfl rfl⟩); have e22 : a11.eval (.tmp 22) = (.bool true) := F11.ev 22 (by kernel_rfl); have e25 : a11.eval (.tmp 25) = (.bool true) := F11.ev 25 (by kernel_rfl); have ec : ∀ c, a11.eval (.const c) = c := fun _ => rfl; generalize a11.eval = ev at e22 e25 ec ⊢; simp [go_sem, mkO, v3_11, ec, e22, e25]; done))
  refine F11.next 26 (.bool true) fun a12 F12 => ?_
  clear F11 a11
  refine tr_make v3_12 (.bool true) _ (by kernel_rfl) rfl rfl ?_ ⟨hT2.cell 1 rfl rfl, hT2.cell 1 rfl rfl, hT2.cell 0 rfl rfl, hT2.cell 0 rfl rfl⟩ ?_; (focus (have hq := (show (fun W' : World => W'.cell? ⟨q1, 0, none⟩ = some (vi 3) ∧ W'.cell? ⟨q1, 1, none⟩ = some (vi 6) ∧ W'.cell? ⟨q3, 0, none⟩ = some (vi 21) ∧ W'.cell? ⟨q3, 1, none⟩ = some (vi 21)) X2 from ⟨hT2.cell 1 rfl rfl, hT2.cell 1 rfl rfl, hT2.cell 0 rfl rfl, hT2.cell 0 rfl rfl⟩); have e26 : a12.eval (.tmp 26) = (.bool true) := F12.ev 26 (by kernel_rfl); generalize a12.eval = ev at e26 ⊢; simp [go_sem, mkO, v3_12, e26]; done))
  refine F12.next 27 (.bool true) fun a13 F13 => ?_
  clear F12 a12
  refine tr_make v3_13 (vi 0) _ (by kernel_rfl) rfl (F13.gd (by kernel_rfl)) ?_ ⟨hT2.cell 1 rfl rfl, hT2.cell 1 rfl rfl, hT2.cell 0 rfl rfl, hT2.cell 0 rfl rfl⟩ ?_; (focus (have hq := (show (fun W' : World => W'.cell? ⟨q1, 0, none⟩ = some (vi 3) ∧ W'.cell? ⟨q1, 1, none⟩ = some (vi 6) ∧ W'.cell? ⟨q3, 0, none⟩ = some (vi 21) ∧ W'.cell? ⟨q3, 1, none⟩ = some (vi 21)) X2 from ⟨hT2.cell 1 rfl rfl, hT2.cell 1 rfl rfl, hT2.cell 0 rfl rfl, hT2.cell 0 rfl rfl⟩); have e4 : a13.eval (.tmp 4) = (vi 0) := F13.ev 4 (by kernel_rfl); generalize a13.eval = ev at e4 ⊢; simp [go_sem, mkO, v3_13, e4]; done))
  refine F13.next 28 (vi 0) fun a14 F14 => ?_
  clear F13 a13
  refine tr_make v3_14 (.bool true) _ (by kernel_rfl) rfl (F14.gd (by kernel_rfl)) ?_ ⟨hT2.cell 1 rfl rfl, hT2.cell 1 rfl rfl, hT2.cell 0 rfl rfl, hT2.cell 0 rfl rfl⟩ ?_; (focus (have hq := (show (fun W' : World => W'.cell? ⟨q1, 0, none⟩ = some (vi 3) ∧ W'.cell? ⟨q1, 1, none⟩ = some (vi 6) ∧ W'.cell? ⟨q3, 0, none⟩ = some (vi 21) ∧ W'.cell? ⟨q3, 1, none⟩ = some (vi 21)) X2 from ⟨hT2.cell 1 rfl rfl, hT2.cell 1 rfl rfl, hT2.cell 0 rfl rfl, hT2.cell 0 rfl rfl⟩); have e28 : a14.eval (.tmp 28) = (vi 0) := F14.ev 28 (by kernel_rfl); have ec : ∀ c, a14.eval (.const c) = c := fun _ => rfl; generalize a14.eval = ev at e28 ec ⊢; simp [go_sem, mkO, v3_14, ec, e28]; done))
  refine F14.next 29 (.bool true) fun a15 F15 => ?_
  clear F14 a14
  refine tr_make v3_15 (.bool true) _ (by kernel_rfl) rfl rfl ?_ ⟨hT2.cell 1 rfl rfl, hT2.cell 1 rfl rfl, hT2.cell 0 rfl rfl, hT2.cell 0 rfl rfl⟩ ?_; (focus (have hq := (show (fun W' : World => W'.cell? ⟨q1, 0, none⟩ = some (vi 3) ∧ W'.cell? ⟨q1, 1, none⟩ = some (vi 6) ∧ W'.cell? ⟨q3, 0, none⟩ = some (vi 21) ∧ W'.cell? ⟨q3, 1, none⟩ = some (vi 21)) X2 from ⟨hT2.cell 1 rfl rfl, hT2.cell 1 rfl rfl, hT2.cell 0 rfl rfl, hT2.cell 0 rfl rfl⟩); have e27 : a15.eval (.tmp 27) = (.bool true) := F15.ev 27 (by kernel_rfl); have e29 : a15.eval (.tmp 29) = (.bool true) := F15.ev 29 (by kernel_rfl); have ec : ∀ c, a15.eval (.const c) = c := fun _ => rfl; generalize a15.eval = ev at e27 e29 ec ⊢; simp [go_sem, mkO, v3_15, ec, e27, e29]; done))
  refine F15.next 30 (.bool true) fun a16 F16 => ?_
  clear F15 a15
  refine tr_make v3_16 (.bool true) _ (by kernel_rfl) rfl rfl ?_ ⟨hT2.cell 1 rfl rfl, hT2.cell 1 rfl rfl, hT2.cell 0 rfl rfl, hT2.cell 0 rfl rfl⟩ ?_; (focus (have hq := (show (fun W' : World => W'.cell? ⟨q1, 0, none⟩ = some (vi 3) ∧ W'.cell? ⟨q1, 1, none⟩ = some (vi 6) ∧ W'.cell? ⟨q3, 0, none⟩ = some (vi 21) ∧ W'.cell? ⟨q3, 1, none⟩ = some (vi 21)) X2 from ⟨hT2.cell 1 rfl rfl, hT2.cell 1 rfl rfl, hT2.cell 0 rfl rfl, hT2.cell 0 rfl rfl⟩); have e30 : a16.eval (.tmp 30) = (.bool true) := F16.ev 30 (by kernel_rfl); generalize a16.eval = ev at e30 ⊢; simp [go_sem, mkO, v3_16, e30]; done))
  refine F16.next 0 (.bool true) fun a17 F17 => ?_
  clear F16 a16
  exact F17.out hQn hT2.keep ⟨hT2.again, (F17.fin [15, 16, 17, 18, 19, 20, 21, 22, 23, 24, 25, 26, 27, 28, 29, 30] (by kernel_rfl))⟩
set_option maxRecDepth 100000 in
set_option maxHeartbeats 1000000 in
theorem alive44 (w : World) : Calls Try.prog 44 #[] w fun e w' => e = .returned (.bool true) ∧ Below w.heap.size w w' := by
  refine calls_of_exec Try.func44 rfl ?_
  simp only [Try.ntmps44, List.size_toArray, List.length_cons, List.length_nil, Nat.reduceAdd, Nat.reduceSub, Array.replicate_succ, Array.replicate_zero, List.push_toArray, List.append_toArray, List.nil_append, List.cons_append]
  refine exec_seq (exec_region_o fun ds => ?_)
  gi_wp2
  refine eq_mk (Keep.refl _) ?_
  show Exec _ _ (Code.seq _ _) _ _ _
  refine exec_seq (exec_region_o fun ds => ?_)
  gi_wp2_with fail
  refine ⟨trivial, rfl, (callsIn_wide.2 (furrow85 w)).mono ?_⟩
  rintro e X ⟨⟨F, hF, rfl, e0, e1, e2⟩, hx⟩
  gi_wp2_with fail
  have hv := smp_va e0 e1 e2
  have hp := smp_pl e0
  have hc := Bend_c F X hF
  rw [hv, hp, bend_F] at hc
  refine ⟨trivial, rfl, (callsIn_wide.2 hc).mono ?_⟩
  rintro e Y ⟨rfl, hy⟩
  have hB1 := hx.trans (hy.mono hx.size)
  have hK := (Keep.of_below hx).trans (Keep.of_below hy)
  clear hx hy hv hp hc hF e0 e1 e2
  simp only
  generalize F.val = fv at *
  clear F X
  gi_wp2
  refine eq_mk (hK.alloc _) ?_
  show Exec _ _ (Code.seq _ _) _ (Y.alloc (.cells #[vi 3, vi 6] 28)) _
  have hT0 : Tr w Y Y [] := (Tr.start hB1)
  have hT1 := (hT0.alloc (.cells #[vi 3, vi 6] 28)).again
  clear hT0 hK hB1
  generalize Y.alloc (.cells #[vi 3, vi 6] 28) = W1 at *
  generalize Y.heap.size = q1 at *
  clear Y
  refine exec_seq (exec_region_o fun ds => ?_)
  gi_wp2_with fail
  refine ⟨trivial, rfl, (callsIn_wide.2 (pegs86 W1)).mono ?_⟩
  rintro e X ⟨A, A2, c, c2, rfl, hF, hA2, hx⟩
  obtain ⟨haF, hposF⟩ := areaF A A2 c c2
  have hc := Area42 (pgF A A2 c c2) (pgF_ok A A2 c c2) (by show 2 < 3; omega) X hF hA2 hposF
  rw [haF] at hc
  clear haF hposF hF hA2
  generalize (pgF A A2 c c2).val = pv at *
  gi_wp2_with fail
  refine ⟨trivial, rfl, (callsIn_wide.2 hc).mono ?_⟩
  rintro e Y ⟨rfl, hy⟩
  have hT2 := (hT1.step hx).step hy
  have hK := (Keep.of_below hx).trans (Keep.of_below hy)
  clear hc hx hy hT1
  gi_wp2
  refine eq_mk (hK.alloc _) ?_
  show Exec _ _ (Code.seq _ _) _ (Y.alloc (.cells #[vi 21, vi 21] 28)) _
  have hT3 := (hT2.alloc (.cells #[vi 21, vi 21] 28)).again
  clear hT2 hK
  generalize Y.alloc (.cells #[vi 21, vi 21] 28) = W2 at *
  generalize Y.heap.size = q3 at *
  clear Y X
  refine exec_seq ((alive_r3 (w := w) (W := W2) (q1 := q1) (q3 := q3) hT3 (by simp [Slots, Fits])).mono ?_)
  intro e t U hh
  obtain ⟨rfl, hT, hSl⟩ := only_normal hh
  have hBU := hT.below
  obtain ⟨x, hx⟩ := Slots.open_ hSl; simp only [fill, Nat.reduceAdd] at hx; subst hx; clear hSl
  show Exec _ _ Code.ret _ _ _
  exact exec_ret ⟨.inr rfl, fun W' hG => ⟨.bool true, by simp [results, Try.f44, go_sem], rfl, hBU.trans (hG.below (Nat.le_refl _) hBU.size)⟩⟩
end Go.Proofs.Ytafmgmaelnpehaa.Tp
end

section
namespace Go.Proofs.Ytafmgmaelnpehaa.Tp
open Go.RowKit Go.TL Go.Shelf
attribute [local go_sem] Oper.semAt_some
attribute [local go_sem] run_store_func
def Ap (v u : Value) : Prop := ∀ q, v.ownBlock = some q → u.ownBlock ≠ some q
theorem Ap.symm {v u : Value} (h : Ap v u) : Ap u v := fun q h1 h2 => h q h2 h1
theorem Ap.nil (u : Value) : Ap (.slice none 0 0) u := fun q h => by simp [Value.ownBlock] at h
theorem Tr.app_el {W V X : World} {l : List (Nat × Obj)} {g : Nat} {els : List Value} {e ty : TypeId} {size bytes : Nat} {i0 : TypeInfo} {z : Value} (hty : Try.prog.underlying ty = some (.slice e)) (hi0 : Try.prog.info? e = some i0) (hz : i0.zero = some z) (hsz : i0.size = size) (hby : i0.bytes = bytes) (hzs : z.cells.size = size) (hs0 : 0 < size) (hbb : bytes ≤ 1000) (hel : els.length = size) (h1c : ∀ u ∈ els, u.oneCell' = true)
    (h : Tr W V X ((g, .cells els.toArray e (0, 0)) :: l)) {base n : Nat} {v : Value} {xs : List Value} (ho : X.ownsRow base e size v n xs) (hne : ∀ p ∈ l, v.ownBlock ≠ some p.1) (h1000 : n ≤ 1000) (hb : base ≤ X.heap.size) (hw : W.heap.size ≤ base) :
    ∃ g2 c2 Y, (Builtin.append_ #[ty, ty] ty #[v, .slice (some ⟨g, 0, none⟩) 1 1]).run Try.prog X = .ok (.slice (some ⟨g2, 0, none⟩) (n + 1) c2) Y ∧ Tr W V Y l ∧ Y.ownsRow base e size (.slice (some ⟨g2, 0, none⟩) (n + 1) c2) (n + 1) (xs ++ els) ∧ (∀ u : Value, (∀ q, u.ownBlock = some q → q < X.heap.size) → Ap v u → Ap (.slice (some ⟨g2, 0, none⟩) (n + 1) c2) u) ∧ (∀ (b2 e2 s2 n2 : Nat) (u : Value) (ys : List Value), X.ownsRow b2 e2 s2 u n2 ys → Ap v u → Y.ownsRow b2 e2 s2 u n2 ys) ∧ ∀ p ∈ l, p.1 ≠ g2 := by
  have hcg := h.get 0 rfl
  obtain ⟨v', Y, hrun, hown, hgr, _, hat⟩ := run_append_own_at (P := Try.prog) (w := X) base ty ty e i0 z size bytes hty hi0 hz hsz hby hzs hs0 v n xs ho ⟨g, 0, none⟩ 1 1 els (by rw [hel, Nat.one_mul]) (fun j y hj => by
    rw [addr_at]
    exact cells_get hcg hj) h1c (by unfold maxLen; omega) (by
    have : (n + 1) * bytes ≤ 1001 * 1000 := Nat.mul_le_mul (by omega) hbb
    omega) hb
  have hbq : ∀ q, v.ownBlock = some q → base ≤ q := fun q e => (ho.lt q e).1
  obtain ⟨g2, c2, rfl⟩ : ∃ g2 c2, v' = .slice (some ⟨g2, 0, none⟩) (n + 1) c2 := by
    rcases hown.2 with ⟨_, h0⟩ | ⟨g2, c2, _, e, _⟩
    · omega
    · exact ⟨g2, c2, e⟩
  refine ⟨g2, c2, Y, hrun, ⟨h.below.grown hgr h.below.size fun q e => Nat.le_trans hw (hbq q e), h.keep.grown hgr fun j o hj ho' => ?_, fun p hp => h.ge p (List.mem_cons_of_mem _ hp), fun p hp => ?_, (List.nodup_cons.1 h.nd).2⟩, hown, fun u hu hA q hq1 hq2 => ?_, fun b2 e2 s2 n2 u ys hy hA => ?_, fun p hp e => ?_⟩
  · rcases ho.2 with ⟨rfl, _⟩ | ⟨g, cap, cur, rfl, _, hg', _⟩
    · simp [Value.ownBlock] at hj
    · simp only [Value.ownBlock, Option.some.injEq] at hj
      subst hj
      rw [hg'] at ho'
      cases ho'
      rfl
  · exact (hgr.block _ (h.lt p (List.mem_cons_of_mem _ hp)) (Ne.symm (hne p hp))).trans (h.at_ p (List.mem_cons_of_mem _ hp))
  · rcases hat with h2 | h2
    · exact hA q (h2 ▸ hq1) hq2
    · have := hu q hq2
      rw [h2] at hq1
      simp only [Option.some.injEq] at hq1
      omega
  · refine ⟨hy.1, hy.2.imp id ?_⟩
    rintro ⟨g, cap, cur, h1, h2, h3, h4⟩
    exact ⟨g, cap, cur, h1, h2, (hgr.block g (heap_lt h3) (fun e => hA g e.symm (by rw [h1]; rfl))).trans h3, h4⟩
  · subst e
    rcases hat with h2 | h2
    · exact hne p hp h2.symm
    · have := h.lt p (List.mem_cons_of_mem _ hp)
      simp only [Value.ownBlock, Option.some.injEq] at h2
      omega
theorem info70 : ∃ i0 z, Try.prog.info? 70 = some i0 ∧ i0.zero = some z ∧ z.cells.size = 4 ∧ i0.size = 4 ∧ i0.bytes = 32 := by
  have h : (Try.prog.info? 70).map (fun i => (i.zero, i.size, i.bytes)) = some (some (.agg #[.int .i64 0, .int .i64 0, .int .i64 0, .int .i64 0]), 4, 32) := by kernel_rfl
  cases e : Try.prog.info? 70 with
  | none => rw [e] at h; cases h
  | some i0 =>
    rw [e] at h
    have := Option.some.inj h
    simp only [Prod.mk.injEq] at this
    exact ⟨i0, _, rfl, this.1, rfl, this.2.1, this.2.2⟩
theorem info28 : ∃ i0 z, Try.prog.info? 28 = some i0 ∧ i0.zero = some z ∧ z.cells.size = 2 ∧ i0.size = 2 ∧ i0.bytes = 16 := by
  have h : (Try.prog.info? 28).map (fun i => (i.zero, i.size, i.bytes)) = some (some (.agg #[.int .i64 0, .int .i64 0]), 2, 16) := by kernel_rfl
  cases e : Try.prog.info? 28 with
  | none => rw [e] at h; cases h
  | some i0 =>
    rw [e] at h
    have := Option.some.inj h
    simp only [Prod.mk.injEq] at this
    exact ⟨i0, _, rfl, this.1, rfl, this.2.1, this.2.2⟩
theorem own_setb {X : World} {base e size n : Nat} {v u : Value} {xs : List Value} (h : X.ownsRow base e size v n xs) {b j : Nat} (hb : b < base) : (X.setCell ⟨b, j, none⟩ u).ownsRow base e size v n xs := by
  refine ⟨h.1, h.2.imp id ?_⟩
  rintro ⟨g, cap, cur, h1, h2, h3, h4⟩
  exact ⟨g, cap, cur, h1, h2, (Below.heap_setCell X ⟨b, j, none⟩ u g (by show g ≠ b; omega)).trans h3, h4⟩
theorem cells2 (a b : Int) : ∀ u ∈ [vi a, vi b], u.oneCell' = true := fun u hu => by
  simp only [List.mem_cons, List.not_mem_nil, or_false] at hu
  rcases hu with rfl | rfl <;> rfl
theorem cells4 (a b c d : Int) : ∀ u ∈ [vi a, vi b, vi c, vi d], u.oneCell' = true := fun u hu => by
  simp only [List.mem_cons, List.not_mem_nil, or_false] at hu
  rcases hu with rfl | rfl | rfl | rfl <;> rfl
end Go.Proofs.Ytafmgmaelnpehaa.Tp
end

section
namespace Go.Proofs.Ytafmgmaelnpehaa.Tp
open Go.RowKit Go.TL Go.Shelf
attribute [local go_sem] Oper.semAt_some
attribute [local go_sem] run_store_func
theorem fst_ne {l : List (Nat × Obj)} {g : Nat} (h : ∀ p ∈ l, p.1 ≠ g) : ∀ x ∈ l.map (·.1), x ≠ g := fun x hx => by
  obtain ⟨q, hq, rfl⟩ := List.mem_map.1 hx
  exact h q hq
theorem build70 (a b c d : Int) (w : World) : (Instr.build 70 #[(0, .agg #[vi a, vi b]), (1, .agg #[vi c, vi d])]).run Try.prog w = .ok (.agg #[vi a, vi b, vi c, vi d]) w := run_build w 70 _ _ (by kernel_rfl)
theorem info70' : ∃ i0, Try.prog.info? 70 = some i0 ∧ i0.zero = some (.agg #[.int .i64 0, .int .i64 0, .int .i64 0, .int .i64 0]) ∧ i0.size = 4 := by
  have h : (Try.prog.info? 70).map (fun i => (i.zero, i.size)) = some (some (.agg #[.int .i64 0, .int .i64 0, .int .i64 0, .int .i64 0]), 4) := by kernel_rfl
  cases e : Try.prog.info? 70 with
  | none => rw [e] at h; cases h
  | some i0 =>
    rw [e] at h
    have := Option.some.inj h
    simp only [Prod.mk.injEq] at this
    exact ⟨i0, rfl, this.1, this.2⟩
theorem row70 (a b c d : Int) (w : World) : (Instr.buildSlice 65 1 #[(0, .agg #[vi a, vi b, vi c, vi d])]).run Try.prog w = .ok (.slice (some ⟨w.heap.size, 0, none⟩) 1 1) (w.alloc (.cells #[vi a, vi b, vi c, vi d] 70)) := by
  obtain ⟨i0, h1, h2, h3⟩ := info70'
  refine run_buildSlice w 65 70 1 _ _ i0 _ Try.underlying65 h1 h2 (by rw [h3]; omega) (by rw [h3]; omega) ?_
  rw [h3]
  kernel_rfl
theorem info28' : ∃ i0, Try.prog.info? 28 = some i0 ∧ i0.zero = some (.agg #[.int .i64 0, .int .i64 0]) ∧ i0.size = 2 := by
  have h : (Try.prog.info? 28).map (fun i => (i.zero, i.size)) = some (some (.agg #[.int .i64 0, .int .i64 0]), 2) := by kernel_rfl
  cases e : Try.prog.info? 28 with
  | none => rw [e] at h; cases h
  | some i0 =>
    rw [e] at h
    have := Option.some.inj h
    simp only [Prod.mk.injEq] at this
    exact ⟨i0, rfl, this.1, this.2⟩
theorem row28 (a b : Int) (w : World) : (Instr.buildSlice 22 1 #[(0, .agg #[vi a, vi b])]).run Try.prog w = .ok (.slice (some ⟨w.heap.size, 0, none⟩) 1 1) (w.alloc (.cells #[vi a, vi b] 28)) := by
  obtain ⟨i0, h1, h2, h3⟩ := info28'
  refine run_buildSlice w 22 28 1 _ _ i0 _ Try.underlying22 h1 h2 (by rw [h3]; omega) (by rw [h3]; omega) ?_
  rw [h3]
  kernel_rfl
def w9_0t : It := ⟨(Op.fieldAddr 68 (Operand.tmp 8) 1), some 44, 0, true, none⟩
def w9_1t : It := ⟨(Op.load 65 (Operand.tmp 44)), some 45, 65, true, none⟩
def w9_2t : It := ⟨(Op.move (Operand.tmp 10)), some 46, 3, true, none⟩
def w9_3t : It := ⟨(Op.move (Operand.tmp 7)), some 47, 3, true, none⟩
def w9_4t : It := ⟨(Op.binOp BinOp.mul 3 (Operand.tmp 46) (Operand.tmp 47) 3), some 48, 3, true, none⟩
def w9_5t : It := ⟨(Op.move (Operand.tmp 10)), some 49, 3, true, none⟩
def w9_6t : It := ⟨(Op.move (Operand.tmp 7)), some 50, 3, true, none⟩
def w9_7t : It := ⟨(Op.binOp BinOp.mul 3 (Operand.tmp 49) (Operand.tmp 50) 3), some 51, 3, true, none⟩
def w9_9t : It := ⟨(Op.load 28 (Operand.tmp 12)), some 53, 28, true, none⟩
def w9_8 : It := ⟨(Op.call { callee := (Callee.value (Operand.func 41)), args := #[(Operand.tmp 48), (Operand.tmp 51)], argTypes := #[3, 3] }), some 52, 28, false, none⟩
def w9_10 : It := ⟨(Op.build 70 #[(0, (Operand.tmp 52)), (1, (Operand.tmp 53))]), some 54, 70, false, none⟩
def w9_11 : It := ⟨(Op.buildSlice 65 1 #[(0, (Operand.tmp 54))]), some 55, 65, false, none⟩
def w9_12 : It := ⟨(Op.call { callee := (Callee.builtin Builtin.append), args := #[(Operand.tmp 45), (Operand.tmp 55)], argTypes := #[65, 65] }), some 56, 65, false, none⟩
def w9_13 : It := ⟨(Op.fieldAddr 68 (Operand.tmp 8) 1), some 57, 0, false, none⟩
def w9_14 : It := ⟨(Op.store 65 (Operand.tmp 57) (Operand.tmp 56)), none, 0, false, none⟩
set_option maxRecDepth 100000 in
set_option maxHeartbeats 4000000 in
theorem stk_r9 {w W : World} {p f s qa qb B n : Nat} {far k y z : Int} {vP vO vW vD : Value} {xP xO xW xD : List Value} {LA LB : List Value} (hpB : p < B) (hfB : f < B) (hwB : w.heap.size ≤ B) (hBW : B ≤ W.heap.size) (hn : n ≤ 1000) (hab : B ≤ s) (hqaB : qa < B) (hqbB : qb < B) (hkf : -1000 ≤ k * far ∧ k * far ≤ 1000) (oP0 : W.ownsRow B 70 4 vP n xP) (oO0 : W.ownsRow B 28 2 vO n xO) (oW0 : W.ownsRow B 28 2 vW n xW) (oD0 : W.ownsRow B 28 2 vD n xD) (hPO : Ap vP vO) (hPW : Ap vP vW) (hPD : Ap vP vD) (hneP : ∀ x ∈ [s, p, f, qa, qb], vP.ownBlock ≠ some x) (hT : Tr w W W [(s, .cells #[vi y, vi z] 28 (0, 0)), (p, .cells #[vi 12, vP, .slice none 0 0] 68 (0, 0)), (f, .cells #[vO, vW, vD] 24 (0, 0)), (qa, .cells (LA).toArray 64 (0, 0)), (qb, .cells (LB).toArray 64 (0, 0))]) {t : Array Value} (hSl : Slots [none, none, none, none, some (.pointer (some ⟨qa, 0, none⟩)), some (.pointer (some ⟨qb, 0, none⟩)), some (.bool false), some (vi far), some (.pointer (some ⟨p, 0, none⟩)), some (.pointer (some ⟨f, 0, none⟩)), some (vi k), some (vi y), some (.pointer (some ⟨s, 0, none⟩)), none, none, none, none, none, none, none, none, none, none, none, none, none, none, some (vi k), none, none, none, none, none, none, none, none, none, none, none, none, none, none, none, none, none, none, none, none, none, none, none, none, none, none, none, none, none, none, none, none, none, none, none, none, none, none, none, none, none, none, none, none, none, none, none, none, none, none, none, none, none, none, none, none, none, none, none, none, none, none, none, none, none, none, none, none, none, none, none, none, none, none, none, none, none, none, none, none, none, none, none, none, none, none, none, none, none, none, none, none, none, none, none, none, none, none, none, none, none, none, none, none, none, none, none, none, none, none, none, none, none, none, none, none, none, none, none, none, none, none] t) :
    Exec Try.prog none (sub (Try.f12.body.getD .skip) [1, 1, 1, 1, 0, 1, 0, 0, 1, 1, 0, 0, 1, 1, 1, 0]) t W (andThen (fun t' W' => ∃ gP cP, Tr w W' W' [(s, .cells #[vi y, vi z] 28 (0, 0)), (p, .cells #[vi 12, .slice (some ⟨gP, 0, none⟩) (n + 1) cP, .slice none 0 0] 68 (0, 0)), (f, .cells #[vO, vW, vD] 24 (0, 0)), (qa, .cells (LA).toArray 64 (0, 0)), (qb, .cells (LB).toArray 64 (0, 0))] ∧ W'.ownsRow B 70 4 (.slice (some ⟨gP, 0, none⟩) (n + 1) cP) (n + 1) (xP ++ [vi (k * far), vi (k * far), vi y, vi z]) ∧ W'.ownsRow B 28 2 vO n xO ∧ W'.ownsRow B 28 2 vW n xW ∧ W'.ownsRow B 28 2 vD n xD ∧ Ap (.slice (some ⟨gP, 0, none⟩) (n + 1) cP) vO ∧ Ap (.slice (some ⟨gP, 0, none⟩) (n + 1) cP) vW ∧ Ap (.slice (some ⟨gP, 0, none⟩) (n + 1) cP) vD ∧ (∀ x ∈ [s, p, f, qa, qb], x ≠ gP) ∧ Slots [none, none, none, none, some (.pointer (some ⟨qa, 0, none⟩)), some (.pointer (some ⟨qb, 0, none⟩)), some (.bool false), some (vi far), some (.pointer (some ⟨p, 0, none⟩)), some (.pointer (some ⟨f, 0, none⟩)), some (vi k), some (vi y), some (.pointer (some ⟨s, 0, none⟩)), none, none, none, none, none, none, none, none, none, none, none, none, none, none, some (vi k), none, none, none, none, none, none, none, none, none, none, none, none, none, none, none, none, none, none, none, none, none, none, none, none, none, none, none, none, none, none, none, none, none, none, none, none, none, none, none, none, none, none, none, none, none, none, none, none, none, none, none, none, none, none, none, none, none, none, none, none, none, none, none, none, none, none, none, none, none, none, none, none, none, none, none, none, none, none, none, none, none, none, none, none, none, none, none, none, none, none, none, none, none, none, none, none, none, none, none, none, none, none, none, none, none, none, none, none, none, none, none, none, none, none, none, none, none, none, none, none, none, none] t') fun _ _ _ => False) := by
  have hu68 := Try.underlying68
  have hu65 := Try.underlying65
  have hu70 := Try.underlying70
  have hu28 := Try.underlying28
  obtain ⟨i70, z70, hi70, hz70, hzs70, hsz70, hby70⟩ := info70
  have hw : IntKind.i64.wrap (k * far) = k * far := IntWalk.i64_in _ (by omega)
  have oP := own_grow oP0 (Grow.of_below (B := 0) (Below.refl _ W).drew)
  have oO := own_grow oO0 (Grow.of_below (B := 0) (Below.refl _ W).drew)
  have oW := own_grow oW0 (Grow.of_below (B := 0) (Below.refl _ W).drew)
  have oD := own_grow oD0 (Grow.of_below (B := 0) (Below.refl _ W).drew)
  have hT0 := hT.again.drew
  refine region_tree2 (c := (sub (Try.f12.body.getD .skip) [1, 1, 1, 1, 0, 1, 0, 0, 1, 1, 0, 0, 1, 1, 1, 0])) (id := 9) 13 2 (.one 0 true (.one 1 true (.one 2 true (.one 3 true (.one 4 true (.one 5 true (.one 6 true (.one 7 true (.one 9 true (.one 8 false (.one 10 false (.one 11 false (.one 12 false (.nil)))))))))))))) (.one 13 false (.one 14 false (.nil))) (Opq ((regOps (sub (Try.f12.body.getD .skip) [1, 1, 1, 1, 0, 1, 0, 0, 1, 1, 0, 0, 1, 1, 1, 0])).toList.take 13).toArray) (Opq (regOps (sub (Try.f12.body.getD .skip) [1, 1, 1, 1, 0, 1, 0, 0, 1, 1, 0, 0, 1, 1, 1, 0]))) rfl rfl rfl (by kernel_rfl) (by kernel_rfl) (by kernel_rfl) (by kernel_rfl) (by kernel_rfl) (by kernel_rfl) (by kernel_rfl) (by kernel_rfl) (by kernel_rfl) (by kernel_rfl) (by kernel_rfl) [0, 1, 0, 0, 12, 0, 0, 96, 144, 0, 768, 1024, 2306] [0, 1, 0, 0, 12, 0, 0, 96, 144, 0, 768, 1024, 2306, 8191, 16383] (by kernel_rfl) (by kernel_rfl) (by kernel_rfl) (by kernel_rfl) (fun W' => W'.cell? ⟨p, 1, none⟩ = some (vP) ∧ W'.cell? ⟨s, 0, none⟩ = some (vi y) ∧ W'.cell? ⟨s, 1, none⟩ = some (vi z)) fun ds Q' Qh hQn hQT => ?_
  have F0 : Fr [none, none, none, none, some (.pointer (some ⟨qa, 0, none⟩)), some (.pointer (some ⟨qb, 0, none⟩)), some (.bool false), some (vi far), some (.pointer (some ⟨p, 0, none⟩)), some (.pointer (some ⟨f, 0, none⟩)), some (vi k), some (vi y), some (.pointer (some ⟨s, 0, none⟩)), none, none, none, none, none, none, none, none, none, none, none, none, none, none, some (vi k), none, none, none, none, none, none, none, none, none, none, none, none, none, none, none, none, none, none, none, none, none, none, none, none, none, none, none, none, none, none, none, none, none, none, none, none, none, none, none, none, none, none, none, none, none, none, none, none, none, none, none, none, none, none, none, none, none, none, none, none, none, none, none, none, none, none, none, none, none, none, none, none, none, none, none, none, none, none, none, none, none, none, none, none, none, none, none, none, none, none, none, none, none, none, none, none, none, none, none, none, none, none, none, none, none, none, none, none, none, none, none, none, none, none, none, none, none, none, none, none, none, none] ds { tmps := t, defers := ds } := Fr.start hSl
  clear hSl
  generalize ({ tmps := t, defers := ds } : Act) = a0 at *
  generalize W.drew = X0 at *
  refine tr_take w9_0t (.pointer (some ⟨p, 1, none⟩)) (by kernel_rfl) rfl rfl (fun wq hq => ?_) ⟨hT0.cell 1 rfl rfl, hT0.cell 0 rfl rfl, hT0.cell 0 rfl rfl⟩ ?_; (focus (have e8 : a0.eval (.tmp 8) = (.pointer (some ⟨p, 0, none⟩)) := F0.ev 8 (by kernel_rfl); generalize a0.eval = ev at e8 ⊢; simp [go_sem, mkO, w9_0t, e8, hu68]; done))
  refine F0.next 44 (.pointer (some ⟨p, 1, none⟩)) fun a1 F1 => ?_
  clear F0
  refine tr_take w9_1t (vP) (by kernel_rfl) rfl rfl (fun wq hq => ?_) ⟨hT0.cell 1 rfl rfl, hT0.cell 0 rfl rfl, hT0.cell 0 rfl rfl⟩ ?_; (focus (have e44 : a1.eval (.tmp 44) = (.pointer (some ⟨p, 1, none⟩)) := F1.ev 44 (by kernel_rfl); generalize a1.eval = ev at e44 ⊢; simp [go_sem, mkO, w9_1t, e44, hq.1]; done))
  refine F1.next 45 (vP) fun a2 F2 => ?_
  clear F1 a1
  refine tr_take w9_2t (vi k) (by kernel_rfl) rfl rfl (fun wq hq => ?_) ⟨hT0.cell 1 rfl rfl, hT0.cell 0 rfl rfl, hT0.cell 0 rfl rfl⟩ ?_; (focus (have e10 : a2.eval (.tmp 10) = (vi k) := F2.ev 10 (by kernel_rfl); generalize a2.eval = ev at e10 ⊢; simp [go_sem, mkO, w9_2t, e10]; done))
  refine F2.next 46 (vi k) fun a3 F3 => ?_
  clear F2 a2
  refine tr_take w9_3t (vi far) (by kernel_rfl) rfl rfl (fun wq hq => ?_) ⟨hT0.cell 1 rfl rfl, hT0.cell 0 rfl rfl, hT0.cell 0 rfl rfl⟩ ?_; (focus (have e7 : a3.eval (.tmp 7) = (vi far) := F3.ev 7 (by kernel_rfl); generalize a3.eval = ev at e7 ⊢; simp [go_sem, mkO, w9_3t, e7]; done))
  refine F3.next 47 (vi far) fun a4 F4 => ?_
  clear F3 a3
  refine tr_take w9_4t (vi (k * far)) (by kernel_rfl) rfl rfl (fun wq hq => ?_) ⟨hT0.cell 1 rfl rfl, hT0.cell 0 rfl rfl, hT0.cell 0 rfl rfl⟩ ?_; (focus (have e46 : a4.eval (.tmp 46) = (vi k) := F4.ev 46 (by kernel_rfl); have e47 : a4.eval (.tmp 47) = (vi far) := F4.ev 47 (by kernel_rfl); generalize a4.eval = ev at e46 e47 ⊢; simp [go_sem, mkO, w9_4t, e46, e47, hw]; done))
  refine F4.next 48 (vi (k * far)) fun a5 F5 => ?_
  clear F4 a4
  refine tr_take w9_5t (vi k) (by kernel_rfl) rfl rfl (fun wq hq => ?_) ⟨hT0.cell 1 rfl rfl, hT0.cell 0 rfl rfl, hT0.cell 0 rfl rfl⟩ ?_; (focus (have e10 : a5.eval (.tmp 10) = (vi k) := F5.ev 10 (by kernel_rfl); generalize a5.eval = ev at e10 ⊢; simp [go_sem, mkO, w9_5t, e10]; done))
  refine F5.next 49 (vi k) fun a6 F6 => ?_
  clear F5 a5
  refine tr_take w9_6t (vi far) (by kernel_rfl) rfl rfl (fun wq hq => ?_) ⟨hT0.cell 1 rfl rfl, hT0.cell 0 rfl rfl, hT0.cell 0 rfl rfl⟩ ?_; (focus (have e7 : a6.eval (.tmp 7) = (vi far) := F6.ev 7 (by kernel_rfl); generalize a6.eval = ev at e7 ⊢; simp [go_sem, mkO, w9_6t, e7]; done))
  refine F6.next 50 (vi far) fun a7 F7 => ?_
  clear F6 a6
  refine tr_take w9_7t (vi (k * far)) (by kernel_rfl) rfl rfl (fun wq hq => ?_) ⟨hT0.cell 1 rfl rfl, hT0.cell 0 rfl rfl, hT0.cell 0 rfl rfl⟩ ?_; (focus (have e49 : a7.eval (.tmp 49) = (vi k) := F7.ev 49 (by kernel_rfl); have e50 : a7.eval (.tmp 50) = (vi far) := F7.ev 50 (by kernel_rfl); generalize a7.eval = ev at e49 e50 ⊢; simp [go_sem, mkO, w9_7t, e49, e50, hw]; done))
  refine F7.next 51 (vi (k * far)) fun a8 F8 => ?_
  clear F7 a7
  refine tr_take w9_9t (.agg #[vi y, vi z]) (by kernel_rfl) rfl rfl (fun wq hq => ?_) ⟨hT0.cell 1 rfl rfl, hT0.cell 0 rfl rfl, hT0.cell 0 rfl rfl⟩ ?_; (focus (have e12 : a8.eval (.tmp 12) = (.pointer (some ⟨s, 0, none⟩)) := F8.ev 12 (by kernel_rfl); generalize a8.eval = ev at e12 ⊢; simp [go_sem, mkO, w9_9t, e12, hu28, hq.2.1, hq.2.2]; done))
  refine F8.next 53 (.agg #[vi y, vi z]) fun a9 F9 => ?_
  clear F8 a8
  refine tr_call w9_8 (f := 41) (args := #[vi (k * far), vi (k * far)]) (by kernel_rfl) rfl rfl ?_ ?_
  · (have e48 : a9.eval (.tmp 48) = (vi (k * far)) := F9.ev 48 (by kernel_rfl); have e51 : a9.eval (.tmp 51) = (vi (k * far)) := F9.ev 51 (by kernel_rfl); have ef : ∀ f, a9.eval (.func f) = .func (.func f) #[] #[] := fun _ => rfl; generalize a9.eval = ev at e48 e51 ef ⊢; simp [go_sem, mkO, w9_8, ef, e48, e51]; done)
  refine (span41 (k * far) (k * far) X0).mono ?_
  rintro e X1 ⟨rfl, hy⟩
  have hT1 := hT0.step hy
  replace oP := own_grow oP (Grow.of_below (B := 0) hy)
  replace oO := own_grow oO (Grow.of_below (B := 0) hy)
  replace oW := own_grow oW (Grow.of_below (B := 0) hy)
  replace oD := own_grow oD (Grow.of_below (B := 0) hy)
  refine .inl ⟨_, rfl, ⟨hT1.cell 1 rfl rfl, hT1.cell 0 rfl rfl, hT1.cell 0 rfl rfl⟩, ?_⟩
  clear hy hT0
  clear X0
  refine F9.next 52 (.agg #[vi (k * far), vi (k * far)]) fun a10 F10 => ?_
  clear F9 a9
  refine tr_make w9_10 (.agg #[vi (k * far), vi (k * far), vi y, vi z]) _ (by kernel_rfl) rfl rfl ?_ ⟨hT1.cell 1 rfl rfl, hT1.cell 0 rfl rfl, hT1.cell 0 rfl rfl⟩ ?_; (focus (have hq := (show (fun W' : World => W'.cell? ⟨p, 1, none⟩ = some (vP) ∧ W'.cell? ⟨s, 0, none⟩ = some (vi y) ∧ W'.cell? ⟨s, 1, none⟩ = some (vi z)) X1 from ⟨hT1.cell 1 rfl rfl, hT1.cell 0 rfl rfl, hT1.cell 0 rfl rfl⟩); have e52 : a10.eval (.tmp 52) = (.agg #[vi (k * far), vi (k * far)]) := F10.ev 52 (by kernel_rfl); have e53 : a10.eval (.tmp 53) = (.agg #[vi y, vi z]) := F10.ev 53 (by kernel_rfl); generalize a10.eval = ev at e52 e53 ⊢; simp [go_sem, mkO, w9_10, e52, e53, build70]; done))
  refine F10.next 54 (.agg #[vi (k * far), vi (k * far), vi y, vi z]) fun a11 F11 => ?_
  clear F10 a10
  have hT2 : Tr w W (X1.alloc (.cells #[vi (k * far), vi (k * far), vi y, vi z] 70)) [(X1.heap.size, .cells #[vi (k * far), vi (k * far), vi y, vi z] 70 (0, 0)), (s, .cells #[vi y, vi z] 28 (0, 0)), (p, .cells #[vi 12, vP, .slice none 0 0] 68 (0, 0)), (f, .cells #[vO, vW, vD] 24 (0, 0)), (qa, .cells (LA).toArray 64 (0, 0)), (qb, .cells (LB).toArray 64 (0, 0))] := hT1.alloc (.cells #[vi (k * far), vi (k * far), vi y, vi z] 70)
  refine tr_make w9_11 (.slice (some ⟨X1.heap.size, 0, none⟩) 1 1) (X1.alloc (.cells #[vi (k * far), vi (k * far), vi y, vi z] 70)) (by kernel_rfl) rfl rfl ?_ ⟨hT2.cell 2 rfl rfl, hT2.cell 1 rfl rfl, hT2.cell 1 rfl rfl⟩ ?_; (focus (have e54 : a11.eval (.tmp 54) = (.agg #[vi (k * far), vi (k * far), vi y, vi z]) := F11.ev 54 (by kernel_rfl); generalize a11.eval = ev at e54 ⊢; simp [go_sem, mkO, w9_11, e54, row70]; done))
  replace oP := World.ownsRow.alloc oP (.cells #[vi (k * far), vi (k * far), vi y, vi z] 70)
  replace oO := World.ownsRow.alloc oO (.cells #[vi (k * far), vi (k * far), vi y, vi z] 70)
  replace oW := World.ownsRow.alloc oW (.cells #[vi (k * far), vi (k * far), vi y, vi z] 70)
  replace oD := World.ownsRow.alloc oD (.cells #[vi (k * far), vi (k * far), vi y, vi z] 70)
  obtain ⟨gq, hggq⟩ : ∃ b, X1.heap.size = b := ⟨_, rfl⟩
  simp only [hggq] at hT2 ⊢
  generalize X1.alloc (.cells #[vi (k * far), vi (k * far), vi y, vi z] 70) = X2 at *
  clear hggq hT1
  clear X1
  refine F11.next 55 (.slice (some ⟨gq, 0, none⟩) 1 1) fun a12 F12 => ?_
  clear F11 a11
  obtain ⟨gP, cP, X3, hrun, hTa, hoP, hAP, hoth, hgn⟩ := hT2.app_el (ty := 65) (bytes := 32) hu65 hi70 hz70 (i0 := i70) hsz70 hby70 hzs70 (by omega) (by omega) rfl (cells4 _ _ _ _) oP (fun q hq => hneP q.1 (by simp only [List.mem_cons, List.not_mem_nil, or_false] at hq; rcases hq with rfl | rfl | rfl | rfl | rfl <;> simp)) hn (Nat.le_trans hBW hT2.keep.size) hwB
  have hT3 : Tr w W X3 [(s, .cells #[vi y, vi z] 28 (0, 0)), (p, .cells #[vi 12, vP, .slice none 0 0] 68 (0, 0)), (f, .cells #[vO, vW, vD] 24 (0, 0)), (qa, .cells (LA).toArray 64 (0, 0)), (qb, .cells (LB).toArray 64 (0, 0))] := hTa
  have hO2 := hoth _ _ _ _ _ _ oO (hPO)
  have hW2 := hoth _ _ _ _ _ _ oW (hPW)
  have hD2 := hoth _ _ _ _ _ _ oD (hPD)
  have aO := hAP vO (fun q e => (oO.lt q e).2) hPO
  have aW := hAP vW (fun q e => (oW.lt q e).2) hPW
  have aD := hAP vD (fun q e => (oD.lt q e).2) hPD
  replace hgn : ∀ x ∈ [s, p, f, qa, qb], x ≠ gP := fst_ne hgn
  replace oO := hO2
  replace oW := hW2
  replace oD := hD2
  replace oP := hoP
  clear hTa hoP hAP hoth hO2 hW2 hD2
  refine tr_make w9_12 (.slice (some ⟨gP, 0, none⟩) (n + 1) cP) X3 (by kernel_rfl) rfl rfl (exec_append _ _ 65 rfl (F12.ev 45 (by kernel_rfl)) (F12.ev 55 (by kernel_rfl)) hrun) ⟨hT3.cell 1 rfl rfl, hT3.cell 0 rfl rfl, hT3.cell 0 rfl rfl⟩ ?_
  clear hrun hT2
  clear X2
  refine F12.next 56 (.slice (some ⟨gP, 0, none⟩) (n + 1) cP) fun a13 F13 => ?_
  clear F12 a12
  refine hQT _ _ ?_
  refine tr_make w9_13 (.pointer (some ⟨p, 1, none⟩)) X3 (by kernel_rfl) rfl rfl ?_ trivial ?_; (focus (have e8 : a13.eval (.tmp 8) = (.pointer (some ⟨p, 0, none⟩)) := F13.ev 8 (by kernel_rfl); generalize a13.eval = ev at e8 ⊢; simp [go_sem, mkO, w9_13, e8, hu68]; done))
  refine F13.next 57 (.pointer (some ⟨p, 1, none⟩)) fun a14 F14 => ?_
  clear F13 a13
  have hz := hT3.fz 1 rfl
  have hc0 : X3.cell? ⟨p, 1, none⟩ = some (vP) := hT3.cell 1 rfl rfl
  have hT4 : Tr w W (X3.setCell ⟨p, 1, none⟩ (.slice (some ⟨gP, 0, none⟩) (n + 1) cP)) [(s, .cells #[vi y, vi z] 28 (0, 0)), (p, .cells #[vi 12, .slice (some ⟨gP, 0, none⟩) (n + 1) cP, .slice none 0 0] 68 (0, 0)), (f, .cells #[vO, vW, vD] 24 (0, 0)), (qa, .cells (LA).toArray 64 (0, 0)), (qb, .cells (LB).toArray 64 (0, 0))] := (hT3.set 1 rfl 1 (.slice (some ⟨gP, 0, none⟩) (n + 1) cP))
  refine tr_store w9_14 (X3.setCell ⟨p, 1, none⟩ (.slice (some ⟨gP, 0, none⟩) (n + 1) cP)) (by kernel_rfl) rfl rfl ?_ trivial ?_; (focus (have e56 : a14.eval (.tmp 56) = (.slice (some ⟨gP, 0, none⟩) (n + 1) cP) := F14.ev 56 (by kernel_rfl); have e57 : a14.eval (.tmp 57) = (.pointer (some ⟨p, 1, none⟩)) := F14.ev 57 (by kernel_rfl); generalize a14.eval = ev at e56 e57 ⊢; simp [go_sem, mkO, w9_14, e56, e57, hz, hc0]; done))
  replace oP := own_setb oP hpB (j := 1) (u := .slice (some ⟨gP, 0, none⟩) (n + 1) cP)
  replace oO := own_setb oO hpB (j := 1) (u := .slice (some ⟨gP, 0, none⟩) (n + 1) cP)
  replace oW := own_setb oW hpB (j := 1) (u := .slice (some ⟨gP, 0, none⟩) (n + 1) cP)
  replace oD := own_setb oD hpB (j := 1) (u := .slice (some ⟨gP, 0, none⟩) (n + 1) cP)
  clear hz hc0
  generalize (X3.setCell ⟨p, 1, none⟩ (.slice (some ⟨gP, 0, none⟩) (n + 1) cP)) = X4 at *
  clear hT3
  clear X3
  show seqT _ _ _ _ _ a14 _
  exact F14.out hQn hT4.keep ⟨gP, cP, hT4.again, oP, oO, oW, oD, aO, aW, aD, hgn, (F14.fin [44, 45, 46, 47, 48, 49, 50, 51, 52, 53, 54, 55, 56, 57] (by kernel_rfl))⟩
end Go.Proofs.Ytafmgmaelnpehaa.Tp
end

section
namespace Go.Proofs.Ytafmgmaelnpehaa.Tp
open Go.RowKit Go.TL Go.Shelf
attribute [local go_sem] Oper.semAt_some
attribute [local go_sem] run_store_func
def w10_0t : It := ⟨(Op.fieldAddr 24 (Operand.tmp 9) 0), some 58, 0, true, none⟩
def w10_1t : It := ⟨(Op.load 22 (Operand.tmp 58)), some 59, 22, true, none⟩
def w10_2t : It := ⟨(Op.fieldAddr 28 (Operand.tmp 12) 0), some 60, 0, true, none⟩
def w10_3t : It := ⟨(Op.load 3 (Operand.tmp 60)), some 61, 3, true, none⟩
def w10_4t : It := ⟨(Op.binOp BinOp.sub 3 (Operand.tmp 61) (Operand.const (Value.int IntKind.i64 6)) 3), some 62, 3, true, none⟩
def w10_5 : It := ⟨(Op.fieldAddr 28 (Operand.tmp 12) 1), some 63, 0, false, none⟩
def w10_6 : It := ⟨(Op.load 3 (Operand.tmp 63)), some 64, 3, false, none⟩
def w10_7 : It := ⟨(Op.binOp BinOp.sub 3 (Operand.tmp 64) (Operand.const (Value.int IntKind.i64 6)) 3), some 65, 3, false, none⟩
def w10_8 : It := ⟨(Op.call { callee := (Callee.value (Operand.func 41)), args := #[(Operand.tmp 62), (Operand.tmp 65)], argTypes := #[3, 3] }), some 66, 28, false, none⟩
def w10_9 : It := ⟨(Op.buildSlice 22 1 #[(0, (Operand.tmp 66))]), some 67, 22, false, none⟩
def w10_10 : It := ⟨(Op.call { callee := (Callee.builtin Builtin.append), args := #[(Operand.tmp 59), (Operand.tmp 67)], argTypes := #[22, 22] }), some 68, 22, false, none⟩
def w10_11 : It := ⟨(Op.fieldAddr 24 (Operand.tmp 9) 0), some 69, 0, false, none⟩
def w10_12 : It := ⟨(Op.store 22 (Operand.tmp 69) (Operand.tmp 68)), none, 0, false, none⟩
set_option maxRecDepth 100000 in
set_option maxHeartbeats 4000000 in
theorem stk_r10 {w W : World} {p f s qa qb B n m : Nat} {far k y z : Int} {vP vO vW vD : Value} {xP xO xW xD : List Value} {LA LB : List Value} (hpB : p < B) (hfB : f < B) (hwB : w.heap.size ≤ B) (hBW : B ≤ W.heap.size) (hn : n ≤ 1000) (hab : B ≤ s) (hqaB : qa < B) (hqbB : qb < B) (hyz : 0 ≤ y ∧ y ≤ z ∧ z ≤ 100) (oP0 : W.ownsRow B 70 4 vP m xP) (oO0 : W.ownsRow B 28 2 vO n xO) (oW0 : W.ownsRow B 28 2 vW n xW) (oD0 : W.ownsRow B 28 2 vD n xD) (hOP : Ap vO vP) (hOW : Ap vO vW) (hOD : Ap vO vD) (hneO : ∀ x ∈ [s, p, f, qa, qb], vO.ownBlock ≠ some x) (hT : Tr w W W [(s, .cells #[vi y, vi z] 28 (0, 0)), (p, .cells #[vi 12, vP, .slice none 0 0] 68 (0, 0)), (f, .cells #[vO, vW, vD] 24 (0, 0)), (qa, .cells (LA).toArray 64 (0, 0)), (qb, .cells (LB).toArray 64 (0, 0))]) {t : Array Value} (hSl : Slots [none, none, none, none, some (.pointer (some ⟨qa, 0, none⟩)), some (.pointer (some ⟨qb, 0, none⟩)), some (.bool false), some (vi far), some (.pointer (some ⟨p, 0, none⟩)), some (.pointer (some ⟨f, 0, none⟩)), some (vi k), some (vi y), some (.pointer (some ⟨s, 0, none⟩)), none, none, none, none, none, none, none, none, none, none, none, none, none, none, some (vi k), none, none, none, none, none, none, none, none, none, none, none, none, none, none, none, none, none, none, none, none, none, none, none, none, none, none, none, none, none, none, none, none, none, none, none, none, none, none, none, none, none, none, none, none, none, none, none, none, none, none, none, none, none, none, none, none, none, none, none, none, none, none, none, none, none, none, none, none, none, none, none, none, none, none, none, none, none, none, none, none, none, none, none, none, none, none, none, none, none, none, none, none, none, none, none, none, none, none, none, none, none, none, none, none, none, none, none, none, none, none, none, none, none, none, none, none, none, none, none, none, none, none] t) :
    Exec Try.prog none (sub (Try.f12.body.getD .skip) [1, 1, 1, 1, 0, 1, 0, 0, 1, 1, 0, 0, 1, 1, 1, 1, 0]) t W (andThen (fun t' W' => ∃ gO cO, Tr w W' W' [(s, .cells #[vi y, vi z] 28 (0, 0)), (p, .cells #[vi 12, vP, .slice none 0 0] 68 (0, 0)), (f, .cells #[.slice (some ⟨gO, 0, none⟩) (n + 1) cO, vW, vD] 24 (0, 0)), (qa, .cells (LA).toArray 64 (0, 0)), (qb, .cells (LB).toArray 64 (0, 0))] ∧ W'.ownsRow B 70 4 vP m xP ∧ W'.ownsRow B 28 2 (.slice (some ⟨gO, 0, none⟩) (n + 1) cO) (n + 1) (xO ++ [vi (y - 6), vi (z - 6)]) ∧ W'.ownsRow B 28 2 vW n xW ∧ W'.ownsRow B 28 2 vD n xD ∧ Ap (.slice (some ⟨gO, 0, none⟩) (n + 1) cO) vP ∧ Ap (.slice (some ⟨gO, 0, none⟩) (n + 1) cO) vW ∧ Ap (.slice (some ⟨gO, 0, none⟩) (n + 1) cO) vD ∧ (∀ x ∈ [s, p, f, qa, qb], x ≠ gO) ∧ Slots [none, none, none, none, some (.pointer (some ⟨qa, 0, none⟩)), some (.pointer (some ⟨qb, 0, none⟩)), some (.bool false), some (vi far), some (.pointer (some ⟨p, 0, none⟩)), some (.pointer (some ⟨f, 0, none⟩)), some (vi k), some (vi y), some (.pointer (some ⟨s, 0, none⟩)), none, none, none, none, none, none, none, none, none, none, none, none, none, none, some (vi k), none, none, none, none, none, none, none, none, none, none, none, none, none, none, none, none, none, none, none, none, none, none, none, none, none, none, none, none, none, none, none, none, none, none, none, none, none, none, none, none, none, none, none, none, none, none, none, none, none, none, none, none, none, none, none, none, none, none, none, none, none, none, none, none, none, none, none, none, none, none, none, none, none, none, none, none, none, none, none, none, none, none, none, none, none, none, none, none, none, none, none, none, none, none, none, none, none, none, none, none, none, none, none, none, none, none, none, none, none, none, none, none, none, none, none, none, none, none, none, none, none, none] t') fun _ _ _ => False) := by
  have hu22 := Try.underlying22
  have hu24 := Try.underlying24
  have hu28 := Try.underlying28
  obtain ⟨i28, z28, hi28, hz28, hzs28, hsz28, hby28⟩ := info28
  have oP := own_grow oP0 (Grow.of_below (B := 0) (Below.refl _ W).drew)
  have oO := own_grow oO0 (Grow.of_below (B := 0) (Below.refl _ W).drew)
  have oW := own_grow oW0 (Grow.of_below (B := 0) (Below.refl _ W).drew)
  have oD := own_grow oD0 (Grow.of_below (B := 0) (Below.refl _ W).drew)
  have hwy : IntKind.i64.wrap (y - 6) = y - 6 := IntWalk.i64_in _ (by omega)
  have hwz : IntKind.i64.wrap (z - 6) = z - 6 := IntWalk.i64_in _ (by omega)
  have hT0 := hT.again.drew
  refine region_tree2 (c := (sub (Try.f12.body.getD .skip) [1, 1, 1, 1, 0, 1, 0, 0, 1, 1, 0, 0, 1, 1, 1, 1, 0])) (id := 10) 11 2 (.one 0 true (.one 1 true (.one 2 true (.one 3 true (.one 4 true (.one 5 false (.one 6 false (.one 7 false (.one 8 false (.one 9 false (.one 10 false (.nil)))))))))))) (.one 11 false (.one 12 false (.nil))) (Opq ((regOps (sub (Try.f12.body.getD .skip) [1, 1, 1, 1, 0, 1, 0, 0, 1, 1, 0, 0, 1, 1, 1, 1, 0])).toList.take 11).toArray) (Opq (regOps (sub (Try.f12.body.getD .skip) [1, 1, 1, 1, 0, 1, 0, 0, 1, 1, 0, 0, 1, 1, 1, 1, 0]))) rfl rfl rfl (by kernel_rfl) (by kernel_rfl) (by kernel_rfl) (by kernel_rfl) (by kernel_rfl) (by kernel_rfl) (by kernel_rfl) (by kernel_rfl) (by kernel_rfl) (by kernel_rfl) (by kernel_rfl) [0, 1, 0, 4, 8, 0, 32, 64, 144, 256, 770] [0, 1, 0, 4, 8, 0, 32, 64, 144, 256, 770, 2047, 4095] (by kernel_rfl) (by kernel_rfl) (by kernel_rfl) (by kernel_rfl) (fun W' => W'.cell? ⟨f, 0, none⟩ = some (vO) ∧ W'.cell? ⟨s, 0, none⟩ = some (vi y) ∧ W'.cell? ⟨s, 1, none⟩ = some (vi z)) fun ds Q' Qh hQn hQT => ?_
  have F0 : Fr [none, none, none, none, some (.pointer (some ⟨qa, 0, none⟩)), some (.pointer (some ⟨qb, 0, none⟩)), some (.bool false), some (vi far), some (.pointer (some ⟨p, 0, none⟩)), some (.pointer (some ⟨f, 0, none⟩)), some (vi k), some (vi y), some (.pointer (some ⟨s, 0, none⟩)), none, none, none, none, none, none, none, none, none, none, none, none, none, none, some (vi k), none, none, none, none, none, none, none, none, none, none, none, none, none, none, none, none, none, none, none, none, none, none, none, none, none, none, none, none, none, none, none, none, none, none, none, none, none, none, none, none, none, none, none, none, none, none, none, none, none, none, none, none, none, none, none, none, none, none, none, none, none, none, none, none, none, none, none, none, none, none, none, none, none, none, none, none, none, none, none, none, none, none, none, none, none, none, none, none, none, none, none, none, none, none, none, none, none, none, none, none, none, none, none, none, none, none, none, none, none, none, none, none, none, none, none, none, none, none, none, none, none, none] ds { tmps := t, defers := ds } := Fr.start hSl
  clear hSl
  generalize ({ tmps := t, defers := ds } : Act) = a0 at *
  generalize W.drew = X0 at *
  refine tr_take w10_0t (.pointer (some ⟨f, 0, none⟩)) (by kernel_rfl) rfl rfl (fun wq hq => ?_) ⟨hT0.cell 2 rfl rfl, hT0.cell 0 rfl rfl, hT0.cell 0 rfl rfl⟩ ?_; (focus (have e9 : a0.eval (.tmp 9) = (.pointer (some ⟨f, 0, none⟩)) := F0.ev 9 (by kernel_rfl); generalize a0.eval = ev at e9 ⊢; simp [go_sem, mkO, w10_0t, e9, hu24]; done))
  refine F0.next 58 (.pointer (some ⟨f, 0, none⟩)) fun a1 F1 => ?_
  clear F0
  refine tr_take w10_1t (vO) (by kernel_rfl) rfl rfl (fun wq hq => ?_) ⟨hT0.cell 2 rfl rfl, hT0.cell 0 rfl rfl, hT0.cell 0 rfl rfl⟩ ?_; (focus (have e58 : a1.eval (.tmp 58) = (.pointer (some ⟨f, 0, none⟩)) := F1.ev 58 (by kernel_rfl); generalize a1.eval = ev at e58 ⊢; simp [go_sem, mkO, w10_1t, e58, hq.1]; done))
  refine F1.next 59 (vO) fun a2 F2 => ?_
  clear F1 a1
  refine tr_take w10_2t (.pointer (some ⟨s, 0, none⟩)) (by kernel_rfl) rfl rfl (fun wq hq => ?_) ⟨hT0.cell 2 rfl rfl, hT0.cell 0 rfl rfl, hT0.cell 0 rfl rfl⟩ ?_; (focus (have e12 : a2.eval (.tmp 12) = (.pointer (some ⟨s, 0, none⟩)) := F2.ev 12 (by kernel_rfl); generalize a2.eval = ev at e12 ⊢; simp [go_sem, mkO, w10_2t, e12, hu28]; done))
  refine F2.next 60 (.pointer (some ⟨s, 0, none⟩)) fun a3 F3 => ?_
  clear F2 a2
  refine tr_take w10_3t (vi y) (by kernel_rfl) rfl rfl (fun wq hq => ?_) ⟨hT0.cell 2 rfl rfl, hT0.cell 0 rfl rfl, hT0.cell 0 rfl rfl⟩ ?_; (focus (have e60 : a3.eval (.tmp 60) = (.pointer (some ⟨s, 0, none⟩)) := F3.ev 60 (by kernel_rfl); generalize a3.eval = ev at e60 ⊢; simp [go_sem, mkO, w10_3t, e60, hq.2.1]; done))
  refine F3.next 61 (vi y) fun a4 F4 => ?_
  clear F3 a3
  refine tr_take w10_4t (vi (y - 6)) (by kernel_rfl) rfl rfl (fun wq hq => ?_) ⟨hT0.cell 2 rfl rfl, hT0.cell 0 rfl rfl, hT0.cell 0 rfl rfl⟩ ?_; (focus (have e61 : a4.eval (.tmp 61) = (vi y) := F4.ev 61 (by kernel_rfl); have ec : ∀ c, a4.eval (.const c) = c := fun _ => rfl; generalize a4.eval = ev at e61 ec ⊢; simp [go_sem, mkO, w10_4t, ec, e61, hwy]; done))
  refine F4.next 62 (vi (y - 6)) fun a5 F5 => ?_
  clear F4 a4
  refine tr_make w10_5 (.pointer (some ⟨s, 1, none⟩)) _ (by kernel_rfl) rfl rfl ?_ ⟨hT0.cell 2 rfl rfl, hT0.cell 0 rfl rfl, hT0.cell 0 rfl rfl⟩ ?_; (focus (have hq := (show (fun W' : World => W'.cell? ⟨f, 0, none⟩ = some (vO) ∧ W'.cell? ⟨s, 0, none⟩ = some (vi y) ∧ W'.cell? ⟨s, 1, none⟩ = some (vi z)) X0 from ⟨hT0.cell 2 rfl rfl, hT0.cell 0 rfl rfl, hT0.cell 0 rfl rfl⟩); have e12 : a5.eval (.tmp 12) = (.pointer (some ⟨s, 0, none⟩)) := F5.ev 12 (by kernel_rfl); generalize a5.eval = ev at e12 ⊢; simp [go_sem, mkO, w10_5, e12, hu28]; done))
  refine F5.next 63 (.pointer (some ⟨s, 1, none⟩)) fun a6 F6 => ?_
  clear F5 a5
  refine tr_make w10_6 (vi z) _ (by kernel_rfl) rfl rfl ?_ ⟨hT0.cell 2 rfl rfl, hT0.cell 0 rfl rfl, hT0.cell 0 rfl rfl⟩ ?_; (focus (have hq := (show (fun W' : World => W'.cell? ⟨f, 0, none⟩ = some (vO) ∧ W'.cell? ⟨s, 0, none⟩ = some (vi y) ∧ W'.cell? ⟨s, 1, none⟩ = some (vi z)) X0 from ⟨hT0.cell 2 rfl rfl, hT0.cell 0 rfl rfl, hT0.cell 0 rfl rfl⟩); have e63 : a6.eval (.tmp 63) = (.pointer (some ⟨s, 1, none⟩)) := F6.ev 63 (by kernel_rfl); generalize a6.eval = ev at e63 ⊢; simp [go_sem, mkO, w10_6, e63, hq.2.2]; done))
  refine F6.next 64 (vi z) fun a7 F7 => ?_
  clear F6 a6
  refine tr_make w10_7 (vi (z - 6)) _ (by kernel_rfl) rfl rfl ?_ ⟨hT0.cell 2 rfl rfl, hT0.cell 0 rfl rfl, hT0.cell 0 rfl rfl⟩ ?_; (focus (have hq := (show (fun W' : World => W'.cell? ⟨f, 0, none⟩ = some (vO) ∧ W'.cell? ⟨s, 0, none⟩ = some (vi y) ∧ W'.cell? ⟨s, 1, none⟩ = some (vi z)) X0 from ⟨hT0.cell 2 rfl rfl, hT0.cell 0 rfl rfl, hT0.cell 0 rfl rfl⟩); have e64 : a7.eval (.tmp 64) = (vi z) := F7.ev 64 (by kernel_rfl); have ec : ∀ c, a7.eval (.const c) = c := fun _ => rfl; generalize a7.eval = ev at e64 ec ⊢; simp [go_sem, mkO, w10_7, ec, e64, hwz]; done))
  refine F7.next 65 (vi (z - 6)) fun a8 F8 => ?_
  clear F7 a7
  refine tr_call w10_8 (f := 41) (args := #[vi (y - 6), vi (z - 6)]) (by kernel_rfl) rfl rfl ?_ ?_
  · (have e62 : a8.eval (.tmp 62) = (vi (y - 6)) := F8.ev 62 (by kernel_rfl); have e65 : a8.eval (.tmp 65) = (vi (z - 6)) := F8.ev 65 (by kernel_rfl); have ef : ∀ f, a8.eval (.func f) = .func (.func f) #[] #[] := fun _ => rfl; generalize a8.eval = ev at e62 e65 ef ⊢; simp [go_sem, mkO, w10_8, ef, e62, e65]; done)
  refine (span41 (y - 6) (z - 6) X0).mono ?_
  rintro e X1 ⟨rfl, hy⟩
  have hT1 := hT0.step hy
  replace oP := own_grow oP (Grow.of_below (B := 0) hy)
  replace oO := own_grow oO (Grow.of_below (B := 0) hy)
  replace oW := own_grow oW (Grow.of_below (B := 0) hy)
  replace oD := own_grow oD (Grow.of_below (B := 0) hy)
  refine .inl ⟨_, rfl, ⟨hT1.cell 2 rfl rfl, hT1.cell 0 rfl rfl, hT1.cell 0 rfl rfl⟩, ?_⟩
  clear hy hT0
  clear X0
  refine F8.next 66 (.agg #[vi (y - 6), vi (z - 6)]) fun a9 F9 => ?_
  clear F8 a8
  have hT2 : Tr w W (X1.alloc (.cells #[vi (y - 6), vi (z - 6)] 28)) [(X1.heap.size, .cells #[vi (y - 6), vi (z - 6)] 28 (0, 0)), (s, .cells #[vi y, vi z] 28 (0, 0)), (p, .cells #[vi 12, vP, .slice none 0 0] 68 (0, 0)), (f, .cells #[vO, vW, vD] 24 (0, 0)), (qa, .cells (LA).toArray 64 (0, 0)), (qb, .cells (LB).toArray 64 (0, 0))] := hT1.alloc (.cells #[vi (y - 6), vi (z - 6)] 28)
  refine tr_make w10_9 (.slice (some ⟨X1.heap.size, 0, none⟩) 1 1) (X1.alloc (.cells #[vi (y - 6), vi (z - 6)] 28)) (by kernel_rfl) rfl rfl ?_ ⟨hT2.cell 3 rfl rfl, hT2.cell 1 rfl rfl, hT2.cell 1 rfl rfl⟩ ?_; (focus (have e66 : a9.eval (.tmp 66) = (.agg #[vi (y - 6), vi (z - 6)]) := F9.ev 66 (by kernel_rfl); generalize a9.eval = ev at e66 ⊢; simp [go_sem, mkO, w10_9, e66, row28]; done))
  replace oP := World.ownsRow.alloc oP (.cells #[vi (y - 6), vi (z - 6)] 28)
  replace oO := World.ownsRow.alloc oO (.cells #[vi (y - 6), vi (z - 6)] 28)
  replace oW := World.ownsRow.alloc oW (.cells #[vi (y - 6), vi (z - 6)] 28)
  replace oD := World.ownsRow.alloc oD (.cells #[vi (y - 6), vi (z - 6)] 28)
  obtain ⟨gq, hggq⟩ : ∃ b, X1.heap.size = b := ⟨_, rfl⟩
  simp only [hggq] at hT2 ⊢
  generalize X1.alloc (.cells #[vi (y - 6), vi (z - 6)] 28) = X2 at *
  clear hggq hT1
  clear X1
  refine F9.next 67 (.slice (some ⟨gq, 0, none⟩) 1 1) fun a10 F10 => ?_
  clear F9 a9
  have hTh : Tr w W X2 [(gq, .cells #[vi (y - 6), vi (z - 6)] 28 (0, 0)), (s, .cells #[vi y, vi z] 28 (0, 0)), (p, .cells #[vi 12, vP, .slice none 0 0] 68 (0, 0)), (f, .cells #[vO, vW, vD] 24 (0, 0)), (qa, .cells (LA).toArray 64 (0, 0)), (qb, .cells (LB).toArray 64 (0, 0))] := hT2
  obtain ⟨gO, cO, X3, hrun, hTa, ho2, hA2, hoth, hgn2⟩ := hTh.app_el (ty := 22) (bytes := 16) hu22 hi28 hz28 (i0 := i28) hsz28 hby28 hzs28 (by omega) (by omega) rfl (cells2 _ _) oO (fun q hq => hneO q.1 (by simp only [List.mem_cons, List.not_mem_nil, or_false] at hq; rcases hq with rfl | rfl | rfl | rfl | rfl <;> simp)) hn (Nat.le_trans hBW hT2.keep.size) hwB
  have hT3 : Tr w W X3 [(s, .cells #[vi y, vi z] 28 (0, 0)), (p, .cells #[vi 12, vP, .slice none 0 0] 68 (0, 0)), (f, .cells #[vO, vW, vD] 24 (0, 0)), (qa, .cells (LA).toArray 64 (0, 0)), (qb, .cells (LB).toArray 64 (0, 0))] := hTa
  have hxP := hoth _ _ _ _ _ _ oP hOP
  have aOP := hA2 _ (fun q e => (oP.lt q e).2) hOP
  have hxW := hoth _ _ _ _ _ _ oW hOW
  have aOW := hA2 _ (fun q e => (oW.lt q e).2) hOW
  have hxD := hoth _ _ _ _ _ _ oD hOD
  have aOD := hA2 _ (fun q e => (oD.lt q e).2) hOD
  replace oP := hxP
  replace oW := hxW
  replace oD := hxD
  replace oO := ho2
  have hgO := hgn2
  clear hTa ho2 hA2 hoth hgn2 hTh hxP hxW hxD
  refine tr_make w10_10 (.slice (some ⟨gO, 0, none⟩) (n + 1) cO) X3 (by kernel_rfl) rfl rfl (exec_append _ _ 22 rfl (F10.ev 59 (by kernel_rfl)) (F10.ev 67 (by kernel_rfl)) hrun) ⟨hT3.cell 2 rfl rfl, hT3.cell 0 rfl rfl, hT3.cell 0 rfl rfl⟩ ?_
  clear hrun hT2
  clear X2
  replace hgO : ∀ x ∈ [s, p, f, qa, qb], x ≠ gO := fst_ne hgO
  refine F10.next 68 (.slice (some ⟨gO, 0, none⟩) (n + 1) cO) fun a11 F11 => ?_
  clear F10 a10
  refine hQT _ _ ?_
  refine tr_make w10_11 (.pointer (some ⟨f, 0, none⟩)) X3 (by kernel_rfl) rfl rfl ?_ trivial ?_; (focus (have e9 : a11.eval (.tmp 9) = (.pointer (some ⟨f, 0, none⟩)) := F11.ev 9 (by kernel_rfl); generalize a11.eval = ev at e9 ⊢; simp [go_sem, mkO, w10_11, e9, hu24]; done))
  refine F11.next 69 (.pointer (some ⟨f, 0, none⟩)) fun a12 F12 => ?_
  clear F11 a11
  have hz := hT3.fz 2 rfl
  have hc0 : X3.cell? ⟨f, 0, none⟩ = some (vO) := hT3.cell 2 rfl rfl
  have hT4 : Tr w W (X3.setCell ⟨f, 0, none⟩ (.slice (some ⟨gO, 0, none⟩) (n + 1) cO)) [(s, .cells #[vi y, vi z] 28 (0, 0)), (p, .cells #[vi 12, vP, .slice none 0 0] 68 (0, 0)), (f, .cells #[.slice (some ⟨gO, 0, none⟩) (n + 1) cO, vW, vD] 24 (0, 0)), (qa, .cells (LA).toArray 64 (0, 0)), (qb, .cells (LB).toArray 64 (0, 0))] := (hT3.set 2 rfl 0 (.slice (some ⟨gO, 0, none⟩) (n + 1) cO))
  refine tr_store w10_12 (X3.setCell ⟨f, 0, none⟩ (.slice (some ⟨gO, 0, none⟩) (n + 1) cO)) (by kernel_rfl) rfl rfl ?_ trivial ?_; (focus (have e68 : a12.eval (.tmp 68) = (.slice (some ⟨gO, 0, none⟩) (n + 1) cO) := F12.ev 68 (by kernel_rfl); have e69 : a12.eval (.tmp 69) = (.pointer (some ⟨f, 0, none⟩)) := F12.ev 69 (by kernel_rfl); generalize a12.eval = ev at e68 e69 ⊢; simp [go_sem, mkO, w10_12, e68, e69, hz, hc0]; done))
  replace oP := own_setb oP hfB (j := 0) (u := .slice (some ⟨gO, 0, none⟩) (n + 1) cO)
  replace oO := own_setb oO hfB (j := 0) (u := .slice (some ⟨gO, 0, none⟩) (n + 1) cO)
  replace oW := own_setb oW hfB (j := 0) (u := .slice (some ⟨gO, 0, none⟩) (n + 1) cO)
  replace oD := own_setb oD hfB (j := 0) (u := .slice (some ⟨gO, 0, none⟩) (n + 1) cO)
  clear hz hc0
  generalize (X3.setCell ⟨f, 0, none⟩ (.slice (some ⟨gO, 0, none⟩) (n + 1) cO)) = X4 at *
  clear hT3
  clear X3
  show seqT _ _ _ _ _ a12 _
  exact F12.out hQn hT4.keep ⟨gO, cO, hT4.again, oP, oO, oW, oD, aOP, aOW, aOD, hgO, (F12.fin [58, 59, 60, 61, 62, 63, 64, 65, 66, 67, 68, 69] (by kernel_rfl))⟩
end Go.Proofs.Ytafmgmaelnpehaa.Tp
end

section
namespace Go.Proofs.Ytafmgmaelnpehaa.Tp
open Go.RowKit Go.TL Go.Shelf
attribute [local go_sem] Oper.semAt_some
attribute [local go_sem] run_store_func
def w11_0t : It := ⟨(Op.fieldAddr 24 (Operand.tmp 9) 1), some 70, 0, true, none⟩
def w11_1t : It := ⟨(Op.load 22 (Operand.tmp 70)), some 71, 22, true, none⟩
def w11_5t : It := ⟨(Op.fieldAddr 24 (Operand.tmp 9) 2), some 75, 0, true, none⟩
def w11_6t : It := ⟨(Op.load 22 (Operand.tmp 75)), some 76, 22, true, none⟩
def w11_2 : It := ⟨(Op.call { callee := (Callee.value (Operand.func 41)), args := #[(Operand.const (Value.int IntKind.i64 1)), (Operand.const (Value.int IntKind.i64 1))], argTypes := #[3, 3] }), some 72, 28, false, none⟩
def w11_3 : It := ⟨(Op.buildSlice 22 1 #[(0, (Operand.tmp 72))]), some 73, 22, false, none⟩
def w11_4 : It := ⟨(Op.call { callee := (Callee.builtin Builtin.append), args := #[(Operand.tmp 71), (Operand.tmp 73)], argTypes := #[22, 22] }), some 74, 22, false, none⟩
def w11_10t : It := ⟨(Op.fieldAddr 24 (Operand.tmp 9) 1), some 80, 0, true, none⟩
def w11_7 : It := ⟨(Op.call { callee := (Callee.value (Operand.func 41)), args := #[(Operand.const (Value.int IntKind.i64 0)), (Operand.const (Value.int IntKind.i64 0))], argTypes := #[3, 3] }), some 77, 28, false, none⟩
def w11_8 : It := ⟨(Op.buildSlice 22 1 #[(0, (Operand.tmp 77))]), some 78, 22, false, none⟩
def w11_9 : It := ⟨(Op.call { callee := (Callee.builtin Builtin.append), args := #[(Operand.tmp 76), (Operand.tmp 78)], argTypes := #[22, 22] }), some 79, 22, false, none⟩
def w11_11 : It := ⟨(Op.store 22 (Operand.tmp 80) (Operand.tmp 74)), none, 0, false, none⟩
def w11_12 : It := ⟨(Op.fieldAddr 24 (Operand.tmp 9) 2), some 81, 0, false, none⟩
def w11_13 : It := ⟨(Op.store 22 (Operand.tmp 81) (Operand.tmp 79)), none, 0, false, none⟩
set_option maxRecDepth 100000 in
set_option maxHeartbeats 4000000 in
theorem stk_r11 {w W : World} {p f s qa qb B n m : Nat} {far k y z : Int} {vP vO vW vD : Value} {xP xO xW xD : List Value} {LA LB : List Value} (hpB : p < B) (hfB : f < B) (hwB : w.heap.size ≤ B) (hBW : B ≤ W.heap.size) (hn : n ≤ 1000) (hab : B ≤ s) (hqaB : qa < B) (hqbB : qb < B) (oP0 : W.ownsRow B 70 4 vP m xP) (oO0 : W.ownsRow B 28 2 vO m xO) (oW0 : W.ownsRow B 28 2 vW n xW) (oD0 : W.ownsRow B 28 2 vD n xD) (hWP : Ap vW vP) (hWO : Ap vW vO) (hWD : Ap vW vD) (hDP : Ap vD vP) (hDO : Ap vD vO) (hneW : ∀ x ∈ [s, p, f, qa, qb], vW.ownBlock ≠ some x) (hneD : ∀ x ∈ [s, p, f, qa, qb], vD.ownBlock ≠ some x) (hT : Tr w W W [(s, .cells #[vi y, vi z] 28 (0, 0)), (p, .cells #[vi 12, vP, .slice none 0 0] 68 (0, 0)), (f, .cells #[vO, vW, vD] 24 (0, 0)), (qa, .cells (LA).toArray 64 (0, 0)), (qb, .cells (LB).toArray 64 (0, 0))]) {t : Array Value} (hSl : Slots [none, none, none, none, some (.pointer (some ⟨qa, 0, none⟩)), some (.pointer (some ⟨qb, 0, none⟩)), some (.bool false), some (vi far), some (.pointer (some ⟨p, 0, none⟩)), some (.pointer (some ⟨f, 0, none⟩)), some (vi k), some (vi y), some (.pointer (some ⟨s, 0, none⟩)), none, none, none, none, none, none, none, none, none, none, none, none, none, none, some (vi k), none, none, none, none, none, none, none, none, none, none, none, none, none, none, none, none, none, none, none, none, none, none, none, none, none, none, none, none, none, none, none, none, none, none, none, none, none, none, none, none, none, none, none, none, none, none, none, none, none, none, none, none, none, none, none, none, none, none, none, none, none, none, none, none, none, none, none, none, none, none, none, none, none, none, none, none, none, none, none, none, none, none, none, none, none, none, none, none, none, none, none, none, none, none, none, none, none, none, none, none, none, none, none, none, none, none, none, none, none, none, none, none, none, none, none, none, none, none, none, none, none, none] t) :
    Exec Try.prog none (sub (Try.f12.body.getD .skip) [1, 1, 1, 1, 0, 1, 0, 0, 1, 1, 0, 0, 1, 1, 1, 1, 1]) t W (andThen (fun t' W' => ∃ gW cW gD cD, Tr w W' W' [(s, .cells #[vi y, vi z] 28 (0, 0)), (p, .cells #[vi 12, vP, .slice none 0 0] 68 (0, 0)), (f, .cells #[vO, .slice (some ⟨gW, 0, none⟩) (n + 1) cW, .slice (some ⟨gD, 0, none⟩) (n + 1) cD] 24 (0, 0)), (qa, .cells (LA).toArray 64 (0, 0)), (qb, .cells (LB).toArray 64 (0, 0))] ∧ W'.ownsRow B 70 4 vP m xP ∧ W'.ownsRow B 28 2 vO m xO ∧ W'.ownsRow B 28 2 (.slice (some ⟨gW, 0, none⟩) (n + 1) cW) (n + 1) (xW ++ [vi 1, vi 1]) ∧ W'.ownsRow B 28 2 (.slice (some ⟨gD, 0, none⟩) (n + 1) cD) (n + 1) (xD ++ [vi 0, vi 0]) ∧ Ap (.slice (some ⟨gW, 0, none⟩) (n + 1) cW) vP ∧ Ap (.slice (some ⟨gW, 0, none⟩) (n + 1) cW) vO ∧ Ap (.slice (some ⟨gD, 0, none⟩) (n + 1) cD) vP ∧ Ap (.slice (some ⟨gD, 0, none⟩) (n + 1) cD) vO ∧ Ap (.slice (some ⟨gD, 0, none⟩) (n + 1) cD) (.slice (some ⟨gW, 0, none⟩) (n + 1) cW) ∧ (∀ x ∈ [s, p, f, qa, qb], x ≠ gW) ∧ (∀ x ∈ [s, p, f, qa, qb], x ≠ gD) ∧ Slots [none, none, none, none, some (.pointer (some ⟨qa, 0, none⟩)), some (.pointer (some ⟨qb, 0, none⟩)), some (.bool false), some (vi far), some (.pointer (some ⟨p, 0, none⟩)), some (.pointer (some ⟨f, 0, none⟩)), some (vi k), some (vi y), some (.pointer (some ⟨s, 0, none⟩)), none, none, none, none, none, none, none, none, none, none, none, none, none, none, some (vi k), none, none, none, none, none, none, none, none, none, none, none, none, none, none, none, none, none, none, none, none, none, none, none, none, none, none, none, none, none, none, none, none, none, none, none, none, none, none, none, none, none, none, none, none, none, none, none, none, none, none, none, none, none, none, none, none, none, none, none, none, none, none, none, none, none, none, none, none, none, none, none, none, none, none, none, none, none, none, none, none, none, none, none, none, none, none, none, none, none, none, none, none, none, none, none, none, none, none, none, none, none, none, none, none, none, none, none, none, none, none, none, none, none, none, none, none, none, none, none, none, none, none] t') fun _ _ _ => False) := by
  have hu22 := Try.underlying22
  have hu24 := Try.underlying24
  have hu28 := Try.underlying28
  obtain ⟨i28, z28, hi28, hz28, hzs28, hsz28, hby28⟩ := info28
  have oP := own_grow oP0 (Grow.of_below (B := 0) (Below.refl _ W).drew)
  have oO := own_grow oO0 (Grow.of_below (B := 0) (Below.refl _ W).drew)
  have oW := own_grow oW0 (Grow.of_below (B := 0) (Below.refl _ W).drew)
  have oD := own_grow oD0 (Grow.of_below (B := 0) (Below.refl _ W).drew)
  have hT0 := hT.again.drew
  refine region_tree2 (c := (sub (Try.f12.body.getD .skip) [1, 1, 1, 1, 0, 1, 0, 0, 1, 1, 0, 0, 1, 1, 1, 1, 1])) (id := 11) 11 3 (.one 0 true (.one 1 true (.one 5 true (.one 6 true (.one 2 false (.one 3 false (.one 4 false (.one 10 true (.one 7 false (.one 8 false (.one 9 false (.nil)))))))))))) (.one 11 false (.one 12 false (.one 13 false (.nil)))) (Opq ((regOps (sub (Try.f12.body.getD .skip) [1, 1, 1, 1, 0, 1, 0, 0, 1, 1, 0, 0, 1, 1, 1, 1, 1])).toList.take 11).toArray) (Opq (regOps (sub (Try.f12.body.getD .skip) [1, 1, 1, 1, 0, 1, 0, 0, 1, 1, 0, 0, 1, 1, 1, 1, 1]))) rfl rfl rfl (by kernel_rfl) (by kernel_rfl) (by kernel_rfl) (by kernel_rfl) (by kernel_rfl) (by kernel_rfl) (by kernel_rfl) (by kernel_rfl) (by kernel_rfl) (by kernel_rfl) (by kernel_rfl) [0, 1, 0, 4, 14, 0, 32, 16, 128, 448, 127] [0, 1, 0, 4, 14, 0, 32, 16, 128, 448, 127, 1663, 4095, 8191] (by kernel_rfl) (by kernel_rfl) (by kernel_rfl) (by kernel_rfl) (fun W' => W'.cell? ⟨f, 1, none⟩ = some (vW) ∧ W'.cell? ⟨f, 2, none⟩ = some (vD)) fun ds Q' Qh hQn hQT => ?_
  have F0 : Fr [none, none, none, none, some (.pointer (some ⟨qa, 0, none⟩)), some (.pointer (some ⟨qb, 0, none⟩)), some (.bool false), some (vi far), some (.pointer (some ⟨p, 0, none⟩)), some (.pointer (some ⟨f, 0, none⟩)), some (vi k), some (vi y), some (.pointer (some ⟨s, 0, none⟩)), none, none, none, none, none, none, none, none, none, none, none, none, none, none, some (vi k), none, none, none, none, none, none, none, none, none, none, none, none, none, none, none, none, none, none, none, none, none, none, none, none, none, none, none, none, none, none, none, none, none, none, none, none, none, none, none, none, none, none, none, none, none, none, none, none, none, none, none, none, none, none, none, none, none, none, none, none, none, none, none, none, none, none, none, none, none, none, none, none, none, none, none, none, none, none, none, none, none, none, none, none, none, none, none, none, none, none, none, none, none, none, none, none, none, none, none, none, none, none, none, none, none, none, none, none, none, none, none, none, none, none, none, none, none, none, none, none, none, none] ds { tmps := t, defers := ds } := Fr.start hSl
  clear hSl
  generalize ({ tmps := t, defers := ds } : Act) = a0 at *
  generalize W.drew = X0 at *
  refine tr_take w11_0t (.pointer (some ⟨f, 1, none⟩)) (by kernel_rfl) rfl rfl (fun wq hq => ?_) ⟨hT0.cell 2 rfl rfl, hT0.cell 2 rfl rfl⟩ ?_; (focus (have e9 : a0.eval (.tmp 9) = (.pointer (some ⟨f, 0, none⟩)) := F0.ev 9 (by kernel_rfl); generalize a0.eval = ev at e9 ⊢; simp [go_sem, mkO, w11_0t, e9, hu24]; done))
  refine F0.next 70 (.pointer (some ⟨f, 1, none⟩)) fun a1 F1 => ?_
  clear F0
  refine tr_take w11_1t (vW) (by kernel_rfl) rfl rfl (fun wq hq => ?_) ⟨hT0.cell 2 rfl rfl, hT0.cell 2 rfl rfl⟩ ?_; (focus (have e70 : a1.eval (.tmp 70) = (.pointer (some ⟨f, 1, none⟩)) := F1.ev 70 (by kernel_rfl); generalize a1.eval = ev at e70 ⊢; simp [go_sem, mkO, w11_1t, e70, hq.1]; done))
  refine F1.next 71 (vW) fun a2 F2 => ?_
  clear F1 a1
  refine tr_take w11_5t (.pointer (some ⟨f, 2, none⟩)) (by kernel_rfl) rfl rfl (fun wq hq => ?_) ⟨hT0.cell 2 rfl rfl, hT0.cell 2 rfl rfl⟩ ?_; (focus (have e9 : a2.eval (.tmp 9) = (.pointer (some ⟨f, 0, none⟩)) := F2.ev 9 (by kernel_rfl); generalize a2.eval = ev at e9 ⊢; simp [go_sem, mkO, w11_5t, e9, hu24]; done))
  refine F2.next 75 (.pointer (some ⟨f, 2, none⟩)) fun a3 F3 => ?_
  clear F2 a2
  refine tr_take w11_6t (vD) (by kernel_rfl) rfl rfl (fun wq hq => ?_) ⟨hT0.cell 2 rfl rfl, hT0.cell 2 rfl rfl⟩ ?_; (focus (have e75 : a3.eval (.tmp 75) = (.pointer (some ⟨f, 2, none⟩)) := F3.ev 75 (by kernel_rfl); generalize a3.eval = ev at e75 ⊢; simp [go_sem, mkO, w11_6t, e75, hq.2]; done))
  refine F3.next 76 (vD) fun a4 F4 => ?_
  clear F3 a3
  refine tr_call w11_2 (f := 41) (args := #[.int .i64 1, .int .i64 1]) (by kernel_rfl) rfl rfl ?_ ?_
  · (have ec : ∀ c, a4.eval (.const c) = c := fun _ => rfl; have ef : ∀ f, a4.eval (.func f) = .func (.func f) #[] #[] := fun _ => rfl; generalize a4.eval = ev at ec ef ⊢; simp [go_sem, mkO, w11_2, ec, ef]; done)
  refine (span41 1 1 X0).mono ?_
  rintro e X1 ⟨rfl, hy⟩
  have hT1 := hT0.step hy
  replace oP := own_grow oP (Grow.of_below (B := 0) hy)
  replace oO := own_grow oO (Grow.of_below (B := 0) hy)
  replace oW := own_grow oW (Grow.of_below (B := 0) hy)
  replace oD := own_grow oD (Grow.of_below (B := 0) hy)
  refine .inl ⟨_, rfl, ⟨hT1.cell 2 rfl rfl, hT1.cell 2 rfl rfl⟩, ?_⟩
  clear hy hT0
  clear X0
  refine F4.next 72 (.agg #[vi 1, vi 1]) fun a5 F5 => ?_
  clear F4 a4
  have hT2 : Tr w W (X1.alloc (.cells #[vi 1, vi 1] 28)) [(X1.heap.size, .cells #[vi 1, vi 1] 28 (0, 0)), (s, .cells #[vi y, vi z] 28 (0, 0)), (p, .cells #[vi 12, vP, .slice none 0 0] 68 (0, 0)), (f, .cells #[vO, vW, vD] 24 (0, 0)), (qa, .cells (LA).toArray 64 (0, 0)), (qb, .cells (LB).toArray 64 (0, 0))] := hT1.alloc (.cells #[vi 1, vi 1] 28)
  refine tr_make w11_3 (.slice (some ⟨X1.heap.size, 0, none⟩) 1 1) (X1.alloc (.cells #[vi 1, vi 1] 28)) (by kernel_rfl) rfl rfl ?_ ⟨hT2.cell 3 rfl rfl, hT2.cell 3 rfl rfl⟩ ?_; (focus (have e72 : a5.eval (.tmp 72) = (.agg #[vi 1, vi 1]) := F5.ev 72 (by kernel_rfl); generalize a5.eval = ev at e72 ⊢; simp [go_sem, mkO, w11_3, e72, row28]; done))
  replace oP := World.ownsRow.alloc oP (.cells #[vi 1, vi 1] 28)
  replace oO := World.ownsRow.alloc oO (.cells #[vi 1, vi 1] 28)
  replace oW := World.ownsRow.alloc oW (.cells #[vi 1, vi 1] 28)
  replace oD := World.ownsRow.alloc oD (.cells #[vi 1, vi 1] 28)
  obtain ⟨gq, hggq⟩ : ∃ b, X1.heap.size = b := ⟨_, rfl⟩
  simp only [hggq] at hT2 ⊢
  generalize X1.alloc (.cells #[vi 1, vi 1] 28) = X2 at *
  clear hggq hT1
  clear X1
  refine F5.next 73 (.slice (some ⟨gq, 0, none⟩) 1 1) fun a6 F6 => ?_
  clear F5 a5
  have hTh : Tr w W X2 [(gq, .cells #[vi 1, vi 1] 28 (0, 0)), (s, .cells #[vi y, vi z] 28 (0, 0)), (p, .cells #[vi 12, vP, .slice none 0 0] 68 (0, 0)), (f, .cells #[vO, vW, vD] 24 (0, 0)), (qa, .cells (LA).toArray 64 (0, 0)), (qb, .cells (LB).toArray 64 (0, 0))] := hT2
  obtain ⟨gW, cW, X3, hrun, hTa, ho2, hA2, hoth, hgn2⟩ := hTh.app_el (ty := 22) (bytes := 16) hu22 hi28 hz28 (i0 := i28) hsz28 hby28 hzs28 (by omega) (by omega) rfl (cells2 _ _) oW (fun q hq => hneW q.1 (by simp only [List.mem_cons, List.not_mem_nil, or_false] at hq; rcases hq with rfl | rfl | rfl | rfl | rfl <;> simp)) hn (Nat.le_trans hBW hT2.keep.size) hwB
  have hT3 : Tr w W X3 [(s, .cells #[vi y, vi z] 28 (0, 0)), (p, .cells #[vi 12, vP, .slice none 0 0] 68 (0, 0)), (f, .cells #[vO, vW, vD] 24 (0, 0)), (qa, .cells (LA).toArray 64 (0, 0)), (qb, .cells (LB).toArray 64 (0, 0))] := hTa
  have hxP := hoth _ _ _ _ _ _ oP hWP
  have aWP := hA2 _ (fun q e => (oP.lt q e).2) hWP
  have hxO := hoth _ _ _ _ _ _ oO hWO
  have aWO := hA2 _ (fun q e => (oO.lt q e).2) hWO
  have hxD := hoth _ _ _ _ _ _ oD hWD
  have aWD := hA2 _ (fun q e => (oD.lt q e).2) hWD
  replace oP := hxP
  replace oO := hxO
  replace oD := hxD
  replace oW := ho2
  have hgW := hgn2
  clear hTa ho2 hA2 hoth hgn2 hTh hxP hxO hxD
  refine tr_make w11_4 (.slice (some ⟨gW, 0, none⟩) (n + 1) cW) X3 (by kernel_rfl) rfl rfl (exec_append _ _ 22 rfl (F6.ev 71 (by kernel_rfl)) (F6.ev 73 (by kernel_rfl)) hrun) ⟨hT3.cell 2 rfl rfl, hT3.cell 2 rfl rfl⟩ ?_
  clear hrun hT2
  clear X2
  replace hgW : ∀ x ∈ [s, p, f, qa, qb], x ≠ gW := fst_ne hgW
  replace hDW := aWD.symm
  refine F6.next 74 (.slice (some ⟨gW, 0, none⟩) (n + 1) cW) fun a7 F7 => ?_
  clear F6 a6
  refine tr_take w11_10t (.pointer (some ⟨f, 1, none⟩)) (by kernel_rfl) rfl rfl (fun wq hq => ?_) ⟨hT3.cell 2 rfl rfl, hT3.cell 2 rfl rfl⟩ ?_; (focus (have e9 : a7.eval (.tmp 9) = (.pointer (some ⟨f, 0, none⟩)) := F7.ev 9 (by kernel_rfl); generalize a7.eval = ev at e9 ⊢; simp [go_sem, mkO, w11_10t, e9, hu24]; done))
  refine F7.next 80 (.pointer (some ⟨f, 1, none⟩)) fun a8 F8 => ?_
  clear F7 a7
  refine tr_call w11_7 (f := 41) (args := #[.int .i64 0, .int .i64 0]) (by kernel_rfl) rfl rfl ?_ ?_
  · (have ec : ∀ c, a8.eval (.const c) = c := fun _ => rfl; have ef : ∀ f, a8.eval (.func f) = .func (.func f) #[] #[] := fun _ => rfl; generalize a8.eval = ev at ec ef ⊢; simp [go_sem, mkO, w11_7, ec, ef]; done)
  refine (span41 0 0 X3).mono ?_
  rintro e X4 ⟨rfl, hy⟩
  have hT4 := hT3.step hy
  replace oP := own_grow oP (Grow.of_below (B := 0) hy)
  replace oO := own_grow oO (Grow.of_below (B := 0) hy)
  replace oW := own_grow oW (Grow.of_below (B := 0) hy)
  replace oD := own_grow oD (Grow.of_below (B := 0) hy)
  refine .inl ⟨_, rfl, ⟨hT4.cell 2 rfl rfl, hT4.cell 2 rfl rfl⟩, ?_⟩
  clear hy hT3
  clear X3
  refine F8.next 77 (.agg #[vi 0, vi 0]) fun a9 F9 => ?_
  clear F8 a8
  have hT5 : Tr w W (X4.alloc (.cells #[vi 0, vi 0] 28)) [(X4.heap.size, .cells #[vi 0, vi 0] 28 (0, 0)), (s, .cells #[vi y, vi z] 28 (0, 0)), (p, .cells #[vi 12, vP, .slice none 0 0] 68 (0, 0)), (f, .cells #[vO, vW, vD] 24 (0, 0)), (qa, .cells (LA).toArray 64 (0, 0)), (qb, .cells (LB).toArray 64 (0, 0))] := hT4.alloc (.cells #[vi 0, vi 0] 28)
  refine tr_make w11_8 (.slice (some ⟨X4.heap.size, 0, none⟩) 1 1) (X4.alloc (.cells #[vi 0, vi 0] 28)) (by kernel_rfl) rfl rfl ?_ ⟨hT5.cell 3 rfl rfl, hT5.cell 3 rfl rfl⟩ ?_; (focus (have e77 : a9.eval (.tmp 77) = (.agg #[vi 0, vi 0]) := F9.ev 77 (by kernel_rfl); generalize a9.eval = ev at e77 ⊢; simp [go_sem, mkO, w11_8, e77, row28]; done))
  replace oP := World.ownsRow.alloc oP (.cells #[vi 0, vi 0] 28)
  replace oO := World.ownsRow.alloc oO (.cells #[vi 0, vi 0] 28)
  replace oW := World.ownsRow.alloc oW (.cells #[vi 0, vi 0] 28)
  replace oD := World.ownsRow.alloc oD (.cells #[vi 0, vi 0] 28)
  obtain ⟨gr, hggr⟩ : ∃ b, X4.heap.size = b := ⟨_, rfl⟩
  simp only [hggr] at hT5 ⊢
  generalize X4.alloc (.cells #[vi 0, vi 0] 28) = X5 at *
  clear hggr hT4
  clear X4
  refine F9.next 78 (.slice (some ⟨gr, 0, none⟩) 1 1) fun a10 F10 => ?_
  clear F9 a9
  have hTh : Tr w W X5 [(gr, .cells #[vi 0, vi 0] 28 (0, 0)), (s, .cells #[vi y, vi z] 28 (0, 0)), (p, .cells #[vi 12, vP, .slice none 0 0] 68 (0, 0)), (f, .cells #[vO, vW, vD] 24 (0, 0)), (qa, .cells (LA).toArray 64 (0, 0)), (qb, .cells (LB).toArray 64 (0, 0))] := hT5
  obtain ⟨gD, cD, X6, hrun, hTa, ho2, hA2, hoth, hgn2⟩ := hTh.app_el (ty := 22) (bytes := 16) hu22 hi28 hz28 (i0 := i28) hsz28 hby28 hzs28 (by omega) (by omega) rfl (cells2 _ _) oD (fun q hq => hneD q.1 (by simp only [List.mem_cons, List.not_mem_nil, or_false] at hq; rcases hq with rfl | rfl | rfl | rfl | rfl <;> simp)) hn (Nat.le_trans hBW hT5.keep.size) hwB
  have hT6 : Tr w W X6 [(s, .cells #[vi y, vi z] 28 (0, 0)), (p, .cells #[vi 12, vP, .slice none 0 0] 68 (0, 0)), (f, .cells #[vO, vW, vD] 24 (0, 0)), (qa, .cells (LA).toArray 64 (0, 0)), (qb, .cells (LB).toArray 64 (0, 0))] := hTa
  have hxP := hoth _ _ _ _ _ _ oP hDP
  have aDP := hA2 _ (fun q e => (oP.lt q e).2) hDP
  have hxO := hoth _ _ _ _ _ _ oO hDO
  have aDO := hA2 _ (fun q e => (oO.lt q e).2) hDO
  have hxW := hoth _ _ _ _ _ _ oW hDW
  have aDW := hA2 _ (fun q e => (oW.lt q e).2) hDW
  replace oP := hxP
  replace oO := hxO
  replace oW := hxW
  replace oD := ho2
  have hgD := hgn2
  clear hTa ho2 hA2 hoth hgn2 hTh hxP hxO hxW
  refine tr_make w11_9 (.slice (some ⟨gD, 0, none⟩) (n + 1) cD) X6 (by kernel_rfl) rfl rfl (exec_append _ _ 22 rfl (F10.ev 76 (by kernel_rfl)) (F10.ev 78 (by kernel_rfl)) hrun) ⟨hT6.cell 2 rfl rfl, hT6.cell 2 rfl rfl⟩ ?_
  clear hrun hT5
  clear X5
  replace hgD : ∀ x ∈ [s, p, f, qa, qb], x ≠ gD := fst_ne hgD
  refine F10.next 79 (.slice (some ⟨gD, 0, none⟩) (n + 1) cD) fun a11 F11 => ?_
  clear F10 a10
  refine hQT _ _ ?_
  have hz := hT6.fz 2 rfl
  have hc0 : X6.cell? ⟨f, 1, none⟩ = some (vW) := hT6.cell 2 rfl rfl
  have hT7 : Tr w W (X6.setCell ⟨f, 1, none⟩ (.slice (some ⟨gW, 0, none⟩) (n + 1) cW)) [(s, .cells #[vi y, vi z] 28 (0, 0)), (p, .cells #[vi 12, vP, .slice none 0 0] 68 (0, 0)), (f, .cells #[vO, .slice (some ⟨gW, 0, none⟩) (n + 1) cW, vD] 24 (0, 0)), (qa, .cells (LA).toArray 64 (0, 0)), (qb, .cells (LB).toArray 64 (0, 0))] := (hT6.set 2 rfl 1 (.slice (some ⟨gW, 0, none⟩) (n + 1) cW))
  refine tr_store w11_11 (X6.setCell ⟨f, 1, none⟩ (.slice (some ⟨gW, 0, none⟩) (n + 1) cW)) (by kernel_rfl) rfl rfl ?_ trivial ?_; (focus (have e74 : a11.eval (.tmp 74) = (.slice (some ⟨gW, 0, none⟩) (n + 1) cW) := F11.ev 74 (by kernel_rfl); have e80 : a11.eval (.tmp 80) = (.pointer (some ⟨f, 1, none⟩)) := F11.ev 80 (by kernel_rfl); generalize a11.eval = ev at e74 e80 ⊢; simp [go_sem, mkO, w11_11, e74, e80, hz, hc0]; done))
  replace oP := own_setb oP hfB (j := 1) (u := .slice (some ⟨gW, 0, none⟩) (n + 1) cW)
  replace oO := own_setb oO hfB (j := 1) (u := .slice (some ⟨gW, 0, none⟩) (n + 1) cW)
  replace oW := own_setb oW hfB (j := 1) (u := .slice (some ⟨gW, 0, none⟩) (n + 1) cW)
  replace oD := own_setb oD hfB (j := 1) (u := .slice (some ⟨gW, 0, none⟩) (n + 1) cW)
  clear hz hc0
  generalize (X6.setCell ⟨f, 1, none⟩ (.slice (some ⟨gW, 0, none⟩) (n + 1) cW)) = X7 at *
  clear hT6
  clear X6
  show seqT _ _ _ _ _ a11 _
  refine tr_make w11_12 (.pointer (some ⟨f, 2, none⟩)) X7 (by kernel_rfl) rfl rfl ?_ trivial ?_; (focus (have e9 : a11.eval (.tmp 9) = (.pointer (some ⟨f, 0, none⟩)) := F11.ev 9 (by kernel_rfl); generalize a11.eval = ev at e9 ⊢; simp [go_sem, mkO, w11_12, e9, hu24]; done))
  refine F11.next 81 (.pointer (some ⟨f, 2, none⟩)) fun a12 F12 => ?_
  clear F11 a11
  have hz := hT7.fz 2 rfl
  have hc0 : X7.cell? ⟨f, 2, none⟩ = some (vD) := hT7.cell 2 rfl rfl
  have hT8 : Tr w W (X7.setCell ⟨f, 2, none⟩ (.slice (some ⟨gD, 0, none⟩) (n + 1) cD)) [(s, .cells #[vi y, vi z] 28 (0, 0)), (p, .cells #[vi 12, vP, .slice none 0 0] 68 (0, 0)), (f, .cells #[vO, .slice (some ⟨gW, 0, none⟩) (n + 1) cW, .slice (some ⟨gD, 0, none⟩) (n + 1) cD] 24 (0, 0)), (qa, .cells (LA).toArray 64 (0, 0)), (qb, .cells (LB).toArray 64 (0, 0))] := (hT7.set 2 rfl 2 (.slice (some ⟨gD, 0, none⟩) (n + 1) cD))
  refine tr_store w11_13 (X7.setCell ⟨f, 2, none⟩ (.slice (some ⟨gD, 0, none⟩) (n + 1) cD)) (by kernel_rfl) rfl rfl ?_ trivial ?_; (focus (have e79 : a12.eval (.tmp 79) = (.slice (some ⟨gD, 0, none⟩) (n + 1) cD) := F12.ev 79 (by kernel_rfl); have e81 : a12.eval (.tmp 81) = (.pointer (some ⟨f, 2, none⟩)) := F12.ev 81 (by kernel_rfl); generalize a12.eval = ev at e79 e81 ⊢; simp [go_sem, mkO, w11_13, e79, e81, hz, hc0]; done))
  replace oP := own_setb oP hfB (j := 2) (u := .slice (some ⟨gD, 0, none⟩) (n + 1) cD)
  replace oO := own_setb oO hfB (j := 2) (u := .slice (some ⟨gD, 0, none⟩) (n + 1) cD)
  replace oW := own_setb oW hfB (j := 2) (u := .slice (some ⟨gD, 0, none⟩) (n + 1) cD)
  replace oD := own_setb oD hfB (j := 2) (u := .slice (some ⟨gD, 0, none⟩) (n + 1) cD)
  clear hz hc0
  generalize (X7.setCell ⟨f, 2, none⟩ (.slice (some ⟨gD, 0, none⟩) (n + 1) cD)) = X8 at *
  clear hT7
  clear X7
  show seqT _ _ _ _ _ a12 _
  exact F12.out hQn hT8.keep ⟨gW, cW, gD, cD, hT8.again, oP, oO, oW, oD, aWP, aWO, aDP, aDO, aDW, hgW, hgD, (F12.fin [70, 71, 72, 73, 74, 75, 76, 77, 78, 79, 80, 81] (by kernel_rfl))⟩
end Go.Proofs.Ytafmgmaelnpehaa.Tp
end

section
namespace Go.Proofs.Ytafmgmaelnpehaa.Tp
open Go.RowKit Go.TL Go.Shelf
attribute [local go_sem] Oper.semAt_some
attribute [local go_sem] run_store_func
def yv (la : List Int) (k : Nat) : Int := la.getD k 0 % 11
def zv (la lb : List Int) (k : Nat) : Int := yv la k + lb.getD k 0 % 3
def flatP (far : Int) (la lb : List Int) (n : Nat) : List Value := (List.range n).flatMap fun k : Nat => [vi ((k : Int) * far), vi ((k : Int) * far), vi (yv la k), vi (zv la lb k)]
def flatO (la lb : List Int) (n : Nat) : List Value := (List.range n).flatMap fun k => [vi (yv la k - 6), vi (zv la lb k - 6)]
def flatC (c : Int) (n : Nat) : List Value := (List.range n).flatMap fun k => [vi c, vi c]
theorem flatP_succ (far : Int) (la lb : List Int) (n : Nat) : flatP far la lb (n + 1) = flatP far la lb n ++ [vi ((n : Int) * far), vi ((n : Int) * far), vi (yv la n), vi (zv la lb n)] := by
  unfold flatP
  rw [List.range_succ, List.flatMap_append, List.flatMap_singleton]
theorem flatO_succ (la lb : List Int) (n : Nat) : flatO la lb (n + 1) = flatO la lb n ++ [vi (yv la n - 6), vi (zv la lb n - 6)] := by
  unfold flatO
  rw [List.range_succ, List.flatMap_append, List.flatMap_singleton]
theorem flatC_succ (c : Int) (n : Nat) : flatC c (n + 1) = flatC c n ++ [vi c, vi c] := by
  unfold flatC
  rw [List.range_succ, List.flatMap_append, List.flatMap_singleton]
structure StB (w : World) (far : Int) (la lb : List Int) (p f qa qb B k : Nat) (vP vO vW vD : Value) (W : World) : Prop where
  tr : Tr w W W [(p, .cells #[vi 12, vP, .slice none 0 0] 68 (0, 0)), (f, .cells #[vO, vW, vD] 24 (0, 0)), (qa, .cells (la.map fun n => Value.int .u8 n).toArray 64 (0, 0)), (qb, .cells (lb.map fun n => Value.int .u8 n).toArray 64 (0, 0))]
  hB : B ≤ W.heap.size
  oP : W.ownsRow B 70 4 vP k (flatP far la lb k)
  oO : W.ownsRow B 28 2 vO k (flatO la lb k)
  oW : W.ownsRow B 28 2 vW k (flatC 1 k)
  oD : W.ownsRow B 28 2 vD k (flatC 0 k)
  PO : Ap vP vO
  PW : Ap vP vW
  PD : Ap vP vD
  OW : Ap vO vW
  OD : Ap vO vD
  WD : Ap vW vD
def StE (w : World) (far : Int) (la lb : List Int) (p f qa qb B k j : Nat) (t : Array Value) (W : World) : Prop :=
  ∃ (vP vO vW vD : Value), StB w far la lb p f qa qb B k vP vO vW vD W ∧ Slots [none, none, none, none, some (.pointer (some ⟨qa, 0, none⟩)), some (.pointer (some ⟨qb, 0, none⟩)), some (.bool false), some (vi far), some (.pointer (some ⟨p, 0, none⟩)), some (.pointer (some ⟨f, 0, none⟩)), none, none, none, none, none, none, none, none, none, none, none, none, none, none, none, none, none, some (iv j), none, none, none, none, none, none, none, none, none, none, none, none, none, none, none, none, none, none, none, none, none, none, none, none, none, none, none, none, none, none, none, none, none, none, none, none, none, none, none, none, none, none, none, none, none, none, none, none, none, none, none, none, none, none, none, none, none, none, none, none, none, none, none, none, none, none, none, none, none, none, none, none, none, none, none, none, none, none, none, none, none, none, none, none, none, none, none, none, none, none, none, none, none, none, none, none, none, none, none, none, none, none, none, none, none, none, none, none, none, none, none, none, none, none, none, none, none, none, none, none, none, none] t
def StI (w : World) (far : Int) (la lb : List Int) (p f qa qb B : Nat) (m : Nat) (t : Array Value) (W : World) : Prop :=
  ∃ k : Nat, k ≤ 3 ∧ m = 3 - k ∧ StE w far la lb p f qa qb B k k t W
theorem getD_get {l : List Int} {i : Nat} (h : i < l.length) : l.getD i 0 = l[i] := by simp [h]
structure Bytes (la : List Int) : Prop where
  len : la.length = 3
  b : ∀ n ∈ la, 0 ≤ n ∧ n ≤ 255
theorem Bytes.at {la : List Int} (h : Bytes la) {k : Nat} (hk : k < 3) : 0 ≤ la.getD k 0 ∧ la.getD k 0 ≤ 255 := by
  have hl : k < la.length := by rw [h.len]; exact hk
  rw [getD_get hl]
  exact h.b _ (List.getElem_mem hl)
theorem ne_of_own {W : World} {B e size n : Nat} {v : Value} {xs : List Value} {p f qa qb s : Nat} (h : W.ownsRow B e size v n xs) (hp : p < B) (hf : f < B) (ha : qa < B) (hb : qb < B) (hs : W.heap.size ≤ s) : ∀ x ∈ [s, p, f, qa, qb], v.ownBlock ≠ some x := fun x hx e => by
  have := h.lt x e
  simp only [List.mem_cons, List.not_mem_nil, or_false] at hx
  rcases hx with rfl | rfl | rfl | rfl | rfl <;> omega
set_option maxRecDepth 100000 in
set_option maxHeartbeats 2000000 in
theorem stk_round {w W : World} {far : Int} {la lb : List Int} {p f qa qb B k : Nat} {vP vO vW vD : Value} (hla : Bytes la) (hlb : Bytes lb) (hfar : 1 ≤ far ∧ far ≤ 6) (hpB : p < B) (hfB : f < B) (hqaB : qa < B) (hqbB : qb < B) (hwB : w.heap.size ≤ B) (hk : k < 3) (hS : StB w far la lb p f qa qb B k vP vO vW vD W) {t : Array Value} (hSl : Slots [none, none, none, none, some (.pointer (some ⟨qa, 0, none⟩)), some (.pointer (some ⟨qb, 0, none⟩)), some (.bool false), some (vi far), some (.pointer (some ⟨p, 0, none⟩)), some (.pointer (some ⟨f, 0, none⟩)), none, none, none, none, none, none, none, none, none, none, none, none, none, none, none, none, none, some (iv k), none, none, none, none, none, none, none, none, none, none, none, none, none, none, none, none, none, none, none, none, none, none, none, none, none, none, none, none, none, none, none, none, none, none, none, none, none, none, none, none, none, none, none, none, none, none, none, none, none, none, none, none, none, none, none, none, none, none, none, none, none, none, none, none, none, none, none, none, none, none, none, none, none, none, none, none, none, none, none, none, none, none, none, none, none, none, none, none, none, none, none, none, none, none, none, none, none, none, none, none, none, none, none, none, none, none, none, none, none, none, none, none, none, none, none, none, none, none, none, none, none, none] t) :
    Exec Try.prog none (sub (Try.f12.body.getD .skip) [1, 1, 1, 1, 0, 1, 0, 0, 1, 1, 0]) t W (andThen (fun t' W' => StE w far la lb p f qa qb B (k + 1) k t' W') fun _ _ _ => False) := by
  have hu64 := Try.underlying64
  have hu28 := Try.underlying28
  have hx := hla.at hk
  have hd := hlb.at hk
  have hT := hS.tr
  have hla' : k < la.length := by rw [hla.len]; exact hk
  have hlb' : k < lb.length := by rw [hlb.len]; exact hk
  have hkI : (k : Int) < 3 := by omega
  have hca : W.cell? ⟨qa, k, none⟩ = some (.int .u8 (la.getD k 0)) := hT.cell 2 rfl (by rw [List.getElem?_map, List.getElem?_eq_getElem hla', getD_get hla']; rfl)
  have hcb : W.cell? ⟨qb, k, none⟩ = some (.int .u8 (lb.getD k 0)) := hT.cell 3 rfl (by rw [List.getElem?_map, List.getElem?_eq_getElem hlb', getD_get hlb']; rfl)
  obtain ⟨y, hy⟩ : ∃ y, yv la k = y := ⟨_, rfl⟩
  obtain ⟨z, hz⟩ : ∃ z, zv la lb k = z := ⟨_, rfl⟩
  have hyz : 0 ≤ y ∧ y ≤ z ∧ z ≤ 100 := by unfold zv at hz; unfold yv at hy hz; omega
  have hty : (la.getD k 0).tmod 11 = y := by rw [Int.tmod_eq_emod_of_nonneg hx.1]; exact hy
  have htz : y + (lb.getD k 0).tmod 3 = z := by rw [Int.tmod_eq_emod_of_nonneg hd.1, ← hz, ← hy]; rfl
  have htz2 : y + la.getD k 0 * 0 + lb.getD k 0 % 3 = z := by rw [← htz, Int.tmod_eq_emod_of_nonneg hd.1]; omega
  rw [Int.mul_zero, Int.add_zero] at htz2
  have HY := Lib.hid hy
  have HZ := Lib.hid hz
  have HS := Lib.hid hS
  clear hS hy hz
  generalize la.getD k 0 = xa at *
  generalize lb.getD k 0 = xb at *
  have hwa : IntKind.i64.wrap xa = xa := IntWalk.i64_in _ (by omega)
  have hwb : IntKind.i64.wrap xb = xb := IntWalk.i64_in _ (by omega)
  have hwm : IntKind.i64.wrap y = y := IntWalk.i64_in _ (by omega)
  have hwz : IntKind.i64.wrap z = z := IntWalk.i64_in _ (by omega)
  have hwd : IntKind.i64.wrap (xb.tmod 3) = xb.tmod 3 := IntWalk.i64_in _ (by rw [Int.tmod_eq_emod_of_nonneg hd.1]; omega)
  obtain ⟨x, hx⟩ := Slots.open_ hSl; simp only [fill, Nat.reduceAdd] at hx; subst hx; clear hSl
  show Exec _ _ (Code.block _ (Code.seq (Code.region _ _ _) (Code.seq (Code.region _ _ _) (Code.seq _ _)))) _ _ _
  refine exec_block (exec_seq (exec_region_o fun ds => ?_))
  gi_wp2
  refine eq_mk (Keep.refl _) ?_
  show Exec _ _ (Code.seq (Code.region _ _ _) (Code.seq _ _)) _ _ _
  refine exec_seq (exec_region_o fun ds => ?_)
  gi_wp2
  refine eq_mk (Keep.refl _) ?_
  show Exec _ _ (Code.seq (Code.region _ _ _) (Code.seq _ _)) _ _ _
  refine exec_seq (exec_region_o fun ds => ?_)
  gi_wp2
  refine ⟨trivial, rfl, (callsIn_wide.2 (span41 y z W)).mono ?_⟩
  rintro e X ⟨rfl, hxb⟩
  have hS1 := HS.out
  have hT1 := hS1.tr.step hxb
  have hBX := Nat.le_trans hS1.hB hxb.size
  have oP0 := own_grow hS1.oP (Grow.of_below (B := 0) hxb)
  have oO0 := own_grow hS1.oO (Grow.of_below (B := 0) hxb)
  have oW0 := own_grow hS1.oW (Grow.of_below (B := 0) hxb)
  have oD0 := own_grow hS1.oD (Grow.of_below (B := 0) hxb)
  obtain ⟨-, -, -, -, -, -, hPO, hPW, hPD, hOW, hOD, hWD⟩ := hS1
  have hK1 := Keep.of_below hxb
  clear hca hcb hT HS hxb
  have hne := fun (hs : X.heap.size ≤ X.heap.size) => And.intro (ne_of_own oP0 hpB hfB hqaB hqbB hs) (And.intro (ne_of_own oO0 hpB hfB hqaB hqbB hs) (And.intro (ne_of_own oW0 hpB hfB hqaB hqbB hs) (ne_of_own oD0 hpB hfB hqaB hqbB hs)))
  obtain ⟨hneP, hneO, hneW, hneD⟩ := hne (Nat.le_refl _)
  clear hne
  have hT2 := (hT1.alloc (.cells #[vi y, vi z] 28)).again
  replace oP0 := World.ownsRow.alloc oP0 (.cells #[vi y, vi z] 28)
  replace oO0 := World.ownsRow.alloc oO0 (.cells #[vi y, vi z] 28)
  replace oW0 := World.ownsRow.alloc oW0 (.cells #[vi y, vi z] 28)
  replace oD0 := World.ownsRow.alloc oD0 (.cells #[vi y, vi z] 28)
  gi_wp2
  refine eq_mk (hK1.alloc (.cells #[vi y, vi z] 28)) ?_
  show Exec _ _ (Code.seq (Code.region _ _ _) (Code.seq _ _)) _ (X.alloc (.cells #[vi y, vi z] 28)) _
  have hBX1 : B ≤ (X.alloc (.cells #[vi y, vi z] 28)).heap.size := by simp; omega
  have hsB : B ≤ X.heap.size := hBX
  have hkf := mul_bound (a := (k : Int)) (b := far) ⟨by omega, by omega⟩ ⟨by omega, by omega⟩
  have hkf' : -1000 ≤ (k : Int) * far ∧ (k : Int) * far ≤ 1000 := by
    rcases (show k = 0 ∨ k = 1 ∨ k = 2 by omega) with rfl | rfl | rfl <;> simp <;> omega
  clear hK1 hT1 hBX
  generalize X.alloc (.cells #[vi y, vi z] 28) = Y at *
  generalize X.heap.size = s at *
  clear X hkf
  refine exec_seq ((stk_r9 (n := k) hpB hfB hwB hBX1 (by omega) hsB hqaB hqbB hkf' oP0 oO0 oW0 oD0 hPO hPW hPD hneP hT2 (by simp [Slots, Fits])).mono ?_)
  intro e t2 Y2 hh
  obtain ⟨rfl, gP, cP, hT3, oP1, oO1, oW1, oD1, aO, aW, aD, hgP, hSl⟩ := only_normal hh
  clear hh hT2 oP0 oO0 oW0 oD0
  have hB2 : B ≤ Y2.heap.size := by have := oP1.lt gP rfl; omega
  refine exec_seq ((stk_r10 (n := k) hpB hfB hwB hB2 (by omega) hsB hqaB hqbB hyz oP1 oO1 oW1 oD1 aO.symm hOW hOD hneO hT3 hSl).mono ?_)
  intro e t3 Y3 hh
  obtain ⟨rfl, gO, cO, hT4, oP2, oO2, oW2, oD2, aOP, aOW, aOD, hgO, hSl⟩ := only_normal hh
  clear hh hT3 oP1 oO1 oW1 oD1
  have hB3 : B ≤ Y3.heap.size := by have := oP2.lt gP rfl; omega
  refine (stk_r11 (n := k) hpB hfB hwB hB3 (by omega) hsB hqaB hqbB oP2 oO2 oW2 oD2 aW.symm aOW.symm hWD aD.symm aOD.symm hneW hneD hT4 hSl).mono ?_
  intro e t4 Y4 hh
  obtain ⟨rfl, gW, cW, gD, cD, hT5, oP3, oO3, oW3, oD3, aWP, aWO, aDP, aDO, aDW, hgW, hgD, hSl⟩ := only_normal hh
  clear hh hT4 oP2 oO2 oW2 oD2
  have hB4 : B ≤ Y4.heap.size := by have := oP3.lt gP rfl; omega
  refine ⟨_, _, _, _, ⟨hT5.drop (List.Sublist.cons _ (List.Sublist.refl _)), hB4, ?_, ?_, ?_, ?_, aOP.symm, aWP.symm, aDP.symm, aWO.symm, aDO.symm, aDW.symm⟩, ?_⟩
  · rw [flatP_succ, HY.out, HZ.out]; exact oP3
  · rw [flatO_succ, HY.out, HZ.out]; exact oO3
  · rw [flatC_succ]; exact oW3
  · rw [flatC_succ]; exact oD3
  · exact (Fr.start (ds := []) hSl).fin [10, 11, 12] (by kernel_rfl)
set_option maxRecDepth 100000 in
set_option maxHeartbeats 2000000 in
theorem stk_loop {w W : World} {far : Int} {la lb : List Int} {p f qa qb B : Nat} (hla : Bytes la) (hlb : Bytes lb) (hfar : 1 ≤ far ∧ far ≤ 6) (hpB : p < B) (hfB : f < B) (hqaB : qa < B) (hqbB : qb < B) (hwB : w.heap.size ≤ B) (hBW : B ≤ W.heap.size) (hT : Tr w W W [(p, .cells #[vi 12, .slice none 0 0, .slice none 0 0] 68 (0, 0)), (f, .cells #[.slice none 0 0, .slice none 0 0, .slice none 0 0] 24 (0, 0)), (qa, .cells (la.map fun n => Value.int .u8 n).toArray 64 (0, 0)), (qb, .cells (lb.map fun n => Value.int .u8 n).toArray 64 (0, 0))]) {t : Array Value} (hSl : Slots [none, none, none, none, some (.pointer (some ⟨qa, 0, none⟩)), some (.pointer (some ⟨qb, 0, none⟩)), some (.bool false), some (vi far), some (.pointer (some ⟨p, 0, none⟩)), some (.pointer (some ⟨f, 0, none⟩)), none, none, none, none, none, none, none, none, none, none, none, none, none, none, none, none, none, none, none, none, none, none, none, none, none, none, none, none, none, none, none, none, none, none, none, none, none, none, none, none, none, none, none, none, none, none, none, none, none, none, none, none, none, none, none, none, none, none, none, none, none, none, none, none, none, none, none, none, none, none, none, none, none, none, none, none, none, none, none, none, none, none, none, none, none, none, none, none, none, none, none, none, none, none, none, none, none, none, none, none, none, none, none, none, none, none, none, none, none, none, none, none, none, none, none, none, none, none, none, none, none, none, none, none, none, none, none, none, none, none, none, none, none, none, none, none, none, none, none, none] t) :
    Exec Try.prog none (sub (Try.f12.body.getD .skip) [1, 1, 1, 1, 0]) t W (andThen (fun t' W' => StE w far la lb p f qa qb B 3 3 t' W') fun _ _ _ => False) := by
  obtain ⟨x, hx⟩ := Slots.open_ hSl; simp only [fill, Nat.reduceAdd] at hx; subst hx; clear hSl
  show Exec _ _ (Code.seq _ (Code.block _ (Code.loop (Code.seq _ (Code.seq _ (Code.seq _ _)))))) _ _ _
  refine exec_seq (exec_region_o fun ds => ?_)
  gi_wp2
  refine eq_mk (Keep.refl _) ?_
  show Exec _ _ (Code.block _ _) _ _ _
  refine exec_block ?_
  refine exec_loop (StI w far la lb p f qa qb B) 3 ⟨0, by omega, rfl, .slice none 0 0, .slice none 0 0, .slice none 0 0, .slice none 0 0, ⟨hT, hBW, World.ownsRow_nil _ _ _ _, World.ownsRow_nil _ _ _ _, World.ownsRow_nil _ _ _ _, World.ownsRow_nil _ _ _ _, Ap.nil _, Ap.nil _, Ap.nil _, Ap.nil _, Ap.nil _, Ap.nil _⟩, by simp [Slots, Fits]⟩ ?_
  rintro m t X ⟨k, hk, hm, vP, vO, vW, vD, hS, hSl⟩
  have HM := Lib.hid hm
  clear hm hT hBW
  have HS := Lib.hid hS
  clear hS
  obtain ⟨x, hx⟩ := Slots.open_ hSl; simp only [fill, Nat.reduceAdd] at hx; subst hx; clear hSl
  show Exec _ _ (Code.seq _ (Code.seq (Code.cond _ _ _) (Code.seq _ _))) _ _ _
  refine exec_seq (exec_region_o fun ds => ?_)
  gi_wp2
  refine eq_mk (Keep.refl _) ?_
  show Exec _ _ (Code.seq (Code.cond _ _ _) (Code.seq _ _)) _ _ _
  refine exec_seq (exec_cond (b := decide (k < 3)) (by first | rfl | (show Value.bool _ = _; congr 1; exact decide_eq_decide.2 (by omega))) (fun hp => exec_skip ?_) (fun hp => exec_exit ?_))
  · have hk3 : k < 3 := of_decide_eq_true hp
    show Exec _ _ (Code.seq (Code.block _ _) _) _ _ _
    refine exec_seq ((stk_round hla hlb hfar hpB hfB hqaB hqbB hwB hk3 HS.out (by simp [Slots, Fits])).mono ?_)
    intro e t2 Y hh
    obtain ⟨rfl, vP2, vO2, vW2, vD2, hS2, hSl⟩ := only_normal hh
    clear hh HS
    have HS := Lib.hid hS2
    clear hS2
    have hw : IntKind.i64.wrap ((k : Int) + 1) = ((k + 1 : Nat) : Int) := by rw [IntWalk.i64_in _ (by omega)]; norm_cast
    obtain ⟨x, hx⟩ := Slots.open_ hSl; simp only [fill, Nat.reduceAdd] at hx; subst hx; clear hSl
    show Exec _ _ (Code.region _ _ _) _ _ _
    refine exec_region_o fun ds => ?_
    gi_wp2
    refine eq_mk (Keep.refl _) ?_
    exact ⟨m - 1, by have := HM.out; omega, k + 1, by omega, by have := HM.out; omega, vP2, vO2, vW2, vD2, HS.out, by simp [Slots, Fits]⟩
  · have hk3 : k = 3 := by have := of_decide_eq_false hp; omega
    subst hk3
    exact ⟨vP, vO, vW, vD, HS.out, by simp [Slots, Fits]⟩
end Go.Proofs.Ytafmgmaelnpehaa.Tp
end

section
namespace Go.Proofs.Ytafmgmaelnpehaa
open Go.RowKit Go.Fu PFurrowAsks Go.Proofs.YtafmgmaelnpehaaW.PrintWords
/-! ### Bits -/
end Go.Proofs.Ytafmgmaelnpehaa
end

section
namespace Go.Proofs.Ytafmgmaelnpehaa
open Go.RowKit Go.Fu
theorem bendI_nn (a b c : Int) : 0 ≤ bendI a b c := by unfold bendI; split <;> omega
theorem bnd_nn (x : Nat → Int) (n : Nat) : 0 ≤ bnd x n := bendI_nn _ _ _
def allBends (A B C : List Int) : List Int := A.flatMap fun a => B.flatMap fun b => C.map fun c => bendI a b c
theorem stA_eq (A B C : List Int) (st : Bool × Int × Int) : stA A B C st = (allBends A B C).foldl step1 st := by
  unfold stA allBends stB stC
  rw [List.foldl_flatMap]
  congr 1
  funext s a
  rw [List.foldl_flatMap]
  congr 1
  funext s b
  rw [List.foldl_map]
theorem step_fold : ∀ (L : List Int) (lo hi : Int), lo ≤ hi → ∃ lo' hi', L.foldl step1 (true, lo, hi) = (true, lo', hi') ∧ lo' ≤ lo ∧ hi ≤ hi' ∧ (lo' = lo ∨ lo' ∈ L) ∧ (hi' = hi ∨ hi' ∈ L) ∧ ∀ v ∈ L, lo' ≤ v ∧ v ≤ hi'
  | [], lo, hi, h => ⟨lo, hi, rfl, Int.le_refl _, Int.le_refl _, .inl rfl, .inl rfl, fun v hv => by cases hv⟩
  | v :: L, lo, hi, h => by
    obtain ⟨lo', hi', h1, h2, h3, h4, h5, h6⟩ := step_fold L (if v < lo then v else lo) (if hi < v then v else hi) (by split <;> split <;> omega)
    refine ⟨lo', hi', ?_, ?_, ?_, ?_, ?_, ?_⟩
    · rw [List.foldl_cons]; exact h1
    · split at h2 <;> omega
    · split at h3 <;> omega
    · rcases h4 with h4 | h4
      · split at h4
        · exact .inr (by rw [h4]; exact List.mem_cons_self)
        · exact .inl h4
      · exact .inr (List.mem_cons_of_mem _ h4)
    · rcases h5 with h5 | h5
      · split at h5
        · exact .inr (by rw [h5]; exact List.mem_cons_self)
        · exact .inl h5
      · exact .inr (List.mem_cons_of_mem _ h5)
    · intro u hu
      rcases List.mem_cons.1 hu with rfl | hu
      · constructor
        · split at h2 <;> omega
        · split at h3 <;> omega
      · exact h6 u hu
theorem fold_spec (L : List Int) (hL : L ≠ []) : ((L.foldl step1 (false, 0, 0)).2.1 ∈ L ∧ (L.foldl step1 (false, 0, 0)).2.2 ∈ L) ∧ ∀ v ∈ L, (L.foldl step1 (false, 0, 0)).2.1 ≤ v ∧ v ≤ (L.foldl step1 (false, 0, 0)).2.2 := by
  cases L with
  | nil => exact absurd rfl hL
  | cons v L =>
    have e : (v :: L).foldl step1 (false, 0, 0) = L.foldl step1 (true, v, v) := rfl
    obtain ⟨lo', hi', h1, h2, h3, h4, h5, h6⟩ := step_fold L v v (Int.le_refl _)
    rw [e, h1]
    refine ⟨⟨?_, ?_⟩, fun u hu => ?_⟩
    · rcases h4 with h4 | h4
      · show lo' ∈ _; rw [h4]; exact List.mem_cons_self
      · exact List.mem_cons_of_mem _ h4
    · rcases h5 with h5 | h5
      · show hi' ∈ _; rw [h5]; exact List.mem_cons_self
      · exact List.mem_cons_of_mem _ h5
    · rcases List.mem_cons.1 hu with rfl | hu
      · exact ⟨h2, h3⟩
      · exact h6 u hu
theorem mem_bends (A B C : List Int) (v : Int) : v ∈ allBends A B C ↔ ∃ a ∈ A, ∃ b ∈ B, ∃ c ∈ C, bendI a b c = v := by simp [allBends]
theorem truth_three {l : List (Int × Int)} (hok : ∀ x ∈ l, okSpan x) {n : Nat} (h1 : 1 ≤ n) (h2 : n + 1 < l.length) {a b c : Int} (ha : InS l (n - 1) a) (hb : InS l n b) (hc : InS l (n + 1) c) : ∃ x, Truth l x ∧ bnd x n = bendI a b c := by
  refine ⟨fun i => if i = n - 1 then a else if i = n then b else if i = n + 1 then c else (l.getD i (0, 0)).1, fun i hi => ?_, ?_⟩
  · simp only
    by_cases e1 : i = n - 1
    · rw [if_pos e1, e1]; exact ha
    · rw [if_neg e1]
      by_cases e2 : i = n
      · rw [if_pos e2, e2]; exact hb
      · rw [if_neg e2]
        by_cases e3 : i = n + 1
        · rw [if_pos e3, e3]; exact hc
        · rw [if_neg e3]; exact lo_in hok i hi
  · unfold bnd
    simp only
    simp only [if_true, show n ≠ n - 1 by omega, show n + 1 ≠ n - 1 by omega, show n + 1 ≠ n by omega, if_false]
structure AtSpec (l : List (Int × Int)) (n : Nat) (s : Int × Int) : Prop where
  all : ∀ x, Truth l x → s.1 ≤ bnd x n ∧ bnd x n ≤ s.2
  lo : ∃ x, Truth l x ∧ bnd x n = s.1
  hi : ∃ x, Truth l x ∧ bnd x n = s.2
theorem at_spec (l : List (Int × Int)) (n : Nat) (h1 : 1 ≤ n) (h2 : n + 1 < l.length) (hok : ∀ x ∈ l, okSpan x) : AtSpec l n (atF l n) := by
  have hm : ∀ v, v ∈ allBends (spanL (l.getD (n - 1) (0, 0))) (spanL (l.getD n (0, 0))) (spanL (l.getD (n + 1) (0, 0))) ↔ ∃ a, InS l (n - 1) a ∧ ∃ b, InS l n b ∧ ∃ c, InS l (n + 1) c ∧ bendI a b c = v := by
    intro v
    rw [mem_bends]
    simp only [mem_in]
  have he : atF l n = ((allBends (spanL (l.getD (n - 1) (0, 0))) (spanL (l.getD n (0, 0))) (spanL (l.getD (n + 1) (0, 0)))).foldl step1 (false, 0, 0)).2 := by
    unfold atF
    rw [stA_eq]
  have hne : allBends (spanL (l.getD (n - 1) (0, 0))) (spanL (l.getD n (0, 0))) (spanL (l.getD (n + 1) (0, 0))) ≠ [] := by
    intro e
    have := (hm (bendI (l.getD (n - 1) (0, 0)).1 (l.getD n (0, 0)).1 (l.getD (n + 1) (0, 0)).1)).2 ⟨_, lo_in hok _ (by omega), _, lo_in hok _ (by omega), _, lo_in hok _ (by omega), rfl⟩
    rw [e] at this
    cases this
  obtain ⟨⟨s1, s2⟩, s3⟩ := fold_spec _ hne
  rw [← he] at s1 s2 s3
  refine ⟨fun x hx => s3 _ ((hm _).2 ⟨_, hx _ (by omega), _, hx _ (by omega), _, hx _ h2, rfl⟩), ?_, ?_⟩
  · obtain ⟨a, ha, b, hb, c, hc, e⟩ := (hm _).1 s1
    obtain ⟨x, hx, hbx⟩ := truth_three hok h1 h2 ha hb hc
    exact ⟨x, hx, hbx.trans e⟩
  · obtain ⟨a, ha, b, hb, c, hc, e⟩ := (hm _).1 s2
    obtain ⟨x, hx, hbx⟩ := truth_three hok h1 h2 ha hb hc
    exact ⟨x, hx, hbx.trans e⟩
def mostF (x : Nat → Int) : Nat → Int
  | 0 => 0
  | k + 1 => if mostF x k < bnd x (k + 1) then bnd x (k + 1) else mostF x k
theorem mostF_nn (x : Nat → Int) : ∀ k, 0 ≤ mostF x k
  | 0 => Int.le_refl _
  | k + 1 => by have := mostF_nn x k; have := bnd_nn x (k + 1); unfold mostF; split <;> omega
theorem mostF_le (x : Nat → Int) (m : Int) (hm : 0 ≤ m) : ∀ k, mostF x k ≤ m ↔ ∀ n, 1 ≤ n → n ≤ k → bnd x n ≤ m
  | 0 => ⟨fun _ n h1 h2 => by omega, fun _ => hm⟩
  | k + 1 => by
    have ih := mostF_le x m hm k
    unfold mostF
    constructor
    · intro h n h1 h2
      by_cases e : n = k + 1
      · subst e; split at h <;> omega
      · exact ih.1 (by split at h <;> omega) n h1 (by omega)
    · intro h
      have h3 := h (k + 1) (by omega) (Nat.le_refl _)
      have h4 := ih.2 fun n h1 h2 => h n h1 (by omega)
      split <;> omega
def mostL (l : List (Int × Int)) (x : Nat → Int) : Int := mostF x (l.length - 2)
theorem mostL_le {l : List (Int × Int)} {x : Nat → Int} {m : Int} (hm : 0 ≤ m) : mostL l x ≤ m ↔ ∀ n, 1 ≤ n → n + 1 < l.length → bnd x n ≤ m := by
  unfold mostL
  rw [mostF_le x m hm]
  exact ⟨fun h n h1 h2 => h n h1 (by omega), fun h n h1 h2 => h n h1 (by omega)⟩
theorem bnd_le_most {l : List (Int × Int)} {x : Nat → Int} {n : Nat} (h1 : 1 ≤ n) (h2 : n + 1 < l.length) : bnd x n ≤ mostL l x := (mostL_le (mostF_nn x _)).1 (Int.le_refl _) n h1 h2
theorem canB_most {l : List (Int × Int)} (hok : ∀ x ∈ l, okSpan x) {m : Int} (hm : 0 ≤ m) : canB l (upP m) = true ↔ ∃ x, Truth l x ∧ mostL l x ≤ m := by
  rw [canB_iff l _ hok]
  constructor
  · rintro ⟨x, hx, h⟩
    exact ⟨x, hx, (mostL_le hm).2 fun n h1 h2 => of_decide_eq_true (h n h1 h2)⟩
  · rintro ⟨x, hx, h⟩
    exact ⟨x, hx, fun n h1 h2 => decide_eq_true ((mostL_le hm).1 h n h1 h2)⟩
theorem least_spec (l : List (Int × Int)) (hok : ∀ x ∈ l, okSpan x) : (∃ x, Truth l x ∧ mostL l x = leastN l) ∧ ∀ x, Truth l x → (leastN l : Int) ≤ mostL l x := by
  have hl := leastN_is l hok
  have hall : ∀ x, Truth l x → (leastN l : Int) ≤ mostL l x := by
    intro x hx
    refine Int.not_lt.1 fun hlt => ?_
    have h0 := mostF_nn x (l.length - 2)
    obtain ⟨k, hk⟩ : ∃ k : Nat, mostL l x = k := ⟨(mostL l x).toNat, by unfold mostL; omega⟩
    have h1 := hl.2 k (by omega)
    have h2 := (canB_most hok (m := (k : Int)) (by omega)).2 ⟨x, hx, by omega⟩
    rw [h1] at h2
    cases h2
  obtain ⟨x, hx, hm⟩ := (canB_most hok (m := ((leastN l : Nat) : Int)) (by omega)).1 hl.1
  exact ⟨⟨x, hx, by have := hall x hx; omega⟩, hall⟩
theorem lo_truth {l : List (Int × Int)} (hok : ∀ x ∈ l, okSpan x) : Truth l fun i => (l.getD i (0, 0)).1 := fun i hi => lo_in hok i hi
theorem hiF_all (l : List (Int × Int)) (hok : ∀ x ∈ l, okSpan x) : ∀ k, k + 2 ≤ l.length ∨ k = 0 → 0 ≤ hiF l k ∧ (∀ n, 1 ≤ n → n ≤ k → (atF l n).2 ≤ hiF l k) ∧ (hiF l k = 0 ∨ ∃ n, 1 ≤ n ∧ n ≤ k ∧ (atF l n).2 = hiF l k)
  | 0, _ => ⟨Int.le_refl _, fun n h1 h2 => by omega, .inl rfl⟩
  | k + 1, h => by
    obtain ⟨i1, i2, i3⟩ := hiF_all l hok k (by omega)
    unfold hiF
    refine ⟨by split <;> omega, fun n h1 h2 => ?_, ?_⟩
    · by_cases e : n = k + 1
      · subst e; split <;> omega
      · have := i2 n h1 (by omega); split <;> omega
    · split
      · exact .inr ⟨k + 1, by omega, Nat.le_refl _, rfl⟩
      · rcases i3 with i3 | ⟨n, h1, h2, h3⟩
        · exact .inl i3
        · exact .inr ⟨n, h1, by omega, h3⟩
theorem hi_spec (l : List (Int × Int)) (hok : ∀ x ∈ l, okSpan x) : (∃ x, Truth l x ∧ mostL l x = hiF l (l.length - 2)) ∧ ∀ x, Truth l x → mostL l x ≤ hiF l (l.length - 2) := by
  obtain ⟨i1, i2, i3⟩ := hiF_all l hok (l.length - 2) (by omega)
  have hall : ∀ x, Truth l x → mostL l x ≤ hiF l (l.length - 2) := fun x hx => (mostL_le i1).2 fun n h1 h2 => Int.le_trans ((at_spec l n h1 h2 hok).all x hx).2 (i2 n h1 (by omega))
  refine ⟨?_, hall⟩
  rcases i3 with i3 | ⟨n, h1, h2, h3⟩
  · refine ⟨_, lo_truth hok, ?_⟩
    have := hall _ (lo_truth hok)
    have := mostF_nn (fun i => (l.getD i (0, 0)).1) (l.length - 2)
    unfold mostL at *
    omega
  · obtain ⟨x, hx, hb⟩ := (at_spec l n h1 (by omega) hok).hi
    refine ⟨x, hx, ?_⟩
    have := hall x hx
    have := bnd_le_most (l := l) (x := x) h1 (by omega)
    omega
/-! ### Where it bends most -/
end Go.Proofs.Ytafmgmaelnpehaa
end

section
namespace Go.Proofs.Ytafmgmaelnpehaa.Tp
open Go.RowKit Go.TL Go.Shelf
attribute [local go_sem] Oper.semAt_some
attribute [local go_sem] run_store_func
open Go.Fu PFurrowAsks Go.Proofs.YtafmgmaelnpehaaW.PrintWords
theorem fold_ar : ∀ (L : List (List Int)) (s : Bool × Int × Int), (s.1 = true → (L.foldl arE s).2.1 ≤ s.2.1 ∧ s.2.2 ≤ (L.foldl arE s).2.2) ∧ ∀ T ∈ L, (L.foldl arE s).2.1 ≤ areaV T ∧ areaV T ≤ (L.foldl arE s).2.2
  | [], s => ⟨fun _ => ⟨Int.le_refl _, Int.le_refl _⟩, fun T h => by cases h⟩
  | T :: L, s => by
    obtain ⟨h1, h2⟩ := fold_ar L (arE s T)
    obtain ⟨h3, h4⟩ := h1 rfl
    rw [List.foldl_cons]
    have e1 : (arE s T).2.1 = if s.1 then min s.2.1 (areaV T) else areaV T := rfl
    have e2 : (arE s T).2.2 = if s.1 then max s.2.2 (areaV T) else areaV T := rfl
    have h5 : (arE s T).2.1 ≤ areaV T ∧ areaV T ≤ (arE s T).2.2 := by
      rw [e1, e2]
      split <;> omega
    refine ⟨fun hs => ?_, fun T' hT' => ?_⟩
    · rw [e1, if_pos hs] at h3
      rw [e2, if_pos hs] at h4
      omega
    · rcases List.mem_cons.1 hT' with rfl | h
      · omega
      · exact h2 T' h
theorem fold_mov : ∀ (L : List (List Int)) (s : Nat × Bool), (s.2 = true ∨ ∃ T ∈ L, T.getD 8 0 = -1) → (L.foldl movE s).2 = true
  | [], s, h => by
    rcases h with h | ⟨T, hT, _⟩
    · exact h
    · cases hT
  | T :: L, s, h => by
    rw [List.foldl_cons]
    refine fold_mov L _ ?_
    by_cases hT : T.getD 8 0 = -1
    · left
      unfold movE
      rw [if_pos hT]
    · rcases h with h | ⟨T', hT', e⟩
      · left
        unfold movE
        rw [if_neg hT]
        exact h
      · right
        rcases List.mem_cons.1 hT' with rfl | h'
        · exact absurd e hT
        · exact ⟨T', h', e⟩
theorem onL_place {a : Pg} (hL : a.L = []) {r peg : Nat} {T T' : List Int} {x y : Nat} (hx : x ≤ a.side.toNat) (hy : y ≤ a.side.toNat) (hin : inPl (a.P.getD peg (0, 0, 0, 0)) ((x : Int), (y : Int))) (h : T' ∈ onL a r (peg + 1) (setP T peg x y)) : T' ∈ onL a (r + 1) peg T := by
  unfold onL
  refine List.mem_flatMap.2 ⟨x, List.mem_range.2 (by omega), List.mem_flatMap.2 ⟨y, List.mem_range.2 (by omega), ?_⟩⟩
  unfold stepL nxt
  rw [if_pos hin]
  show T' ∈ if fitsV a.L (setP T peg x y) peg = true then _ else _
  rw [hL]
  exact h
def pS (far : Int) (la lb : List Int) (k : Nat) : P4 := ((k : Int) * far, (k : Int) * far, yv la k, zv la lb k)
def pgS (A : Option Addr) (c : Nat) (far : Int) (la lb : List Int) : Pg := ⟨12, A, c, [pS far la lb 0, pS far la lb 1, pS far la lb 2], none, 0, []⟩
theorem yz_b {la lb : List Int} (hla : Bytes la) (hlb : Bytes lb) {k : Nat} (hk : k < 3) : 0 ≤ yv la k ∧ yv la k ≤ zv la lb k ∧ zv la lb k ≤ 12 ∧ zv la lb k - yv la k ≤ 2 := by
  have := hla.at hk
  have := hlb.at hk
  unfold zv yv
  omega
theorem pgS_ok (A : Option Addr) (c : Nat) {far : Int} {la lb : List Int} (hfar : 1 ≤ far ∧ far ≤ 6) (hla : Bytes la) (hlb : Bytes lb) : (pgS A c far la lb).Ok where
  s0 := (by decide : (0 : Int) ≤ 12)
  s1 := (by decide : (12 : Int) ≤ 15)
  pl := (by decide : 3 ≤ 4)
  ll := (by decide : 0 ≤ 6)
  ps p hp := by
    show okP 12 p
    have h0 := yz_b hla hlb (k := 0) (by omega)
    have h1 := yz_b hla hlb (k := 1) (by omega)
    have h2 := yz_b hla hlb (k := 2) (by omega)
    simp only [pgS, List.mem_cons, List.not_mem_nil, or_false] at hp
    rcases hp with rfl | rfl | rfl <;> unfold pS <;> constructor <;> simp only [] <;> omega
  ls l hl := by cases hl
theorem placed (A : Option Addr) (c : Nat) {far : Int} {la lb : List Int} (hfar : 1 ≤ far ∧ far ≤ 6) (hla : Bytes la) (hlb : Bytes lb) (p : Nat → Int) (hp : ∀ k, k < 3 → yv la k ≤ p k ∧ p k ≤ zv la lb k) : [0, p 0, far, p 1, 2 * far, p 2, 0, 0, -1] ∈ truthsL (pgS A c far la lb) := by
  obtain ⟨f, rfl⟩ : ∃ f : Nat, far = f := ⟨far.toNat, by omega⟩
  have b0 := yz_b hla hlb (k := 0) (by omega)
  have b1 := yz_b hla hlb (k := 1) (by omega)
  have b2 := yz_b hla hlb (k := 2) (by omega)
  have q0 := hp 0 (by omega)
  have q1 := hp 1 (by omega)
  have q2 := hp 2 (by omega)
  obtain ⟨a0, h0⟩ : ∃ f : Nat, p 0 = f := ⟨(p 0).toNat, by omega⟩
  obtain ⟨a1, h1⟩ : ∃ f : Nat, p 1 = f := ⟨(p 1).toNat, by omega⟩
  obtain ⟨a2, h2⟩ : ∃ f : Nat, p 2 = f := ⟨(p 2).toNat, by omega⟩
  rw [h0, h1, h2]
  rw [h0] at q0
  rw [h1] at q1
  rw [h2] at q2
  show _ ∈ onL (pgS A c f la lb) 3 0 T0
  have s12 : (pgS A c f la lb).side.toNat = 12 := rfl
  refine onL_place rfl (x := 0) (y := a0) (by rw [s12]; omega) (by rw [s12]; omega) ?_ ?_
  · show inPl (pS f la lb 0) _
    unfold pS inPl
    simp only []
    omega
  refine onL_place rfl (x := f) (y := a1) (by rw [s12]; omega) (by rw [s12]; omega) ?_ ?_
  · show inPl (pS f la lb 1) _
    unfold pS inPl
    simp only []
    omega
  refine onL_place rfl (x := 2 * f) (y := a2) (by rw [s12]; omega) (by rw [s12]; omega) ?_ ?_
  · show inPl (pS f la lb 2) _
    unfold pS inPl
    simp only []
    omega
  refine List.mem_singleton.2 ?_
  have e : ((2 * f : Nat) : Int) = 2 * (f : Int) := by omega
  rw [← e]
  rfl
theorem area_row (far a b c : Int) (hf : 0 ≤ far) : areaV [0, a, far, b, 2 * far, c, 0, 0, -1] = far * bendI a b c := by
  have e : areaN 0 a far b (2 * far) c = far * (a + c - 2 * b) := by
    unfold areaN
    have h1 : (2 * far - 0) * (b - a) = far * (2 * (b - a)) := by rw [Int.sub_zero, Int.mul_assoc, Int.mul_left_comm]
    rw [h1, Int.sub_zero, ← Int.mul_sub]
    congr 1
    omega
  show max (areaN 0 a far b (2 * far) c) (-(areaN 0 a far b (2 * far) c)) = _
  rw [e, ← Int.mul_neg]
  unfold bendI
  split
  · rename_i h
    have h1 : far * (a + c - 2 * b) ≤ far * -(a + c - 2 * b) := Int.mul_le_mul_of_nonneg_left (by omega) hf
    rw [Int.max_eq_right h1]
    congr 1
    omega
  · rename_i h
    have h1 : far * -(a + c - 2 * b) ≤ far * (a + c - 2 * b) := Int.mul_le_mul_of_nonneg_left (by omega) hf
    rw [Int.max_eq_left h1]
    congr 1
    omega
theorem bend_nn (a b c : Int) : 0 ≤ bendI a b c := by
  unfold bendI
  split <;> omega
theorem bend_three {l : List (Int × Int)} (h3 : l.length = 3) (hok : ∀ x ∈ l, okSpan x) : bendV true l = atV true l 1 := by
  have ha := at_spec l 1 (by omega) (by omega) hok
  obtain ⟨⟨x, hx, e1⟩, l2⟩ := least_spec l hok
  obtain ⟨⟨y, hy, e2⟩, u2⟩ := hi_spec l hok
  have hm : ∀ x : Nat → Int, mostL l x = bnd x 1 := fun x => by
    unfold mostL
    rw [h3]
    show (if 0 < bnd x 1 then bnd x 1 else 0) = bnd x 1
    have : 0 ≤ bnd x 1 := bend_nn _ _ _
    split <;> omega
  have k1 := ha.all x hx
  have k2 := ha.all y hy
  obtain ⟨u, hu, e3⟩ := ha.lo
  obtain ⟨v, hv, e4⟩ := ha.hi
  have k3 := l2 u hu
  have k4 := u2 v hv
  rw [hm] at e1 e2 k3 k4
  have hlo : ((leastN l : Nat) : Int) = (atF l 1).1 := by omega
  have hhi : hiF l (l.length - 2) = (atF l 1).2 := by omega
  show ((((leastN l : Nat) : Int), hiF l (l.length - 2)), (0 : Int)) = if 0 < (1 : Int) ∧ (1 : Int) + 1 < l.length then (atF l (1 : Int).toNat, 0) else ((0, 0), 2)
  rw [if_pos ⟨by decide, by omega⟩, hlo, hhi]
  rfl
def offS (la lb : List Int) : List S28 := [⟨yv la 0 - 6, zv la lb 0 - 6⟩, ⟨yv la 1 - 6, zv la lb 1 - 6⟩, ⟨yv la 2 - 6, zv la lb 2 - 6⟩]
theorem va_S {F : Fur} {la lb : List Int} (hla : Bytes la) (hlb : Bytes lb) (h0 : F.l0 = offS la lb) (h1 : F.l1 = [⟨1, 1⟩, ⟨1, 1⟩, ⟨1, 1⟩]) (h2 : F.l2 = [⟨0, 0⟩, ⟨0, 0⟩, ⟨0, 0⟩]) : F.va = true := by
  unfold Fur.va
  rw [h0, h1, h2]
  have b0 := yz_b hla hlb (k := 0) (by omega)
  have b1 := yz_b hla hlb (k := 1) (by omega)
  have b2 := yz_b hla hlb (k := 2) (by omega)
  have st : ∀ o : S28, -12 ≤ o.f0 → o.f0 ≤ o.f1 → o.f1 ≤ 12 → o.f1 - o.f0 ≤ 6 → stOk o ⟨1, 1⟩ ⟨0, 0⟩ = true := fun o h1 h2 h3 h4 => by
    unfold stOk
    rw [decide_eq_true ⟨h1, h2, h3⟩, decide_eq_true h4]
    rfl
  unfold valid
  rw [Bool.and_eq_true, Bool.and_eq_true, Bool.and_eq_true]
  refine ⟨⟨⟨rfl, rfl⟩, rfl⟩, ?_⟩
  show (stOk ⟨yv la 0 - 6, zv la lb 0 - 6⟩ ⟨1, 1⟩ ⟨0, 0⟩ && (stOk ⟨yv la 1 - 6, zv la lb 1 - 6⟩ ⟨1, 1⟩ ⟨0, 0⟩ && (stOk ⟨yv la 2 - 6, zv la lb 2 - 6⟩ ⟨1, 1⟩ ⟨0, 0⟩ && true))) = true
  rw [st _ (by simp only []; omega) (by simp only []; omega) (by simp only []; omega) (by simp only []; omega), st _ (by simp only []; omega) (by simp only []; omega) (by simp only []; omega) (by simp only []; omega), st _ (by simp only []; omega) (by simp only []; omega) (by simp only []; omega) (by simp only []; omega)]
  rfl
theorem stakes_law {F : Fur} {la lb : List Int} {far : Int} (hfar : 1 ≤ far ∧ far ≤ 6) (hla : Bytes la) (hlb : Bytes lb) (h0 : F.l0 = offS la lb) (h1 : F.l1 = [⟨1, 1⟩, ⟨1, 1⟩, ⟨1, 1⟩]) (h2 : F.l2 = [⟨0, 0⟩, ⟨0, 0⟩, ⟨0, 0⟩]) (A : Option Addr) (c : Nat) :
    ∃ sl sh : Int, atV F.va F.pl 1 = ((sl, sh), 0) ∧ bendV F.va F.pl = ((sl, sh), 0) ∧ (0 ≤ sl ∧ sl ≤ 1000) ∧ (0 ≤ sh ∧ sh ≤ 1000) ∧ (areaL (pgS A c far la lb)).2.1 ≤ far * sl ∧ far * sh ≤ (areaL (pgS A c far la lb)).2.2 ∧ (movL (pgS A c far la lb)).2 = true ∧ (movL (pgS A c far la lb)).1 < 8 ∧ 0 < (truthsL (pgS A c far la lb)).length := by
  have hva := va_S hla hlb h0 h1 h2
  have b0 := yz_b hla hlb (k := 0) (by omega)
  have b1 := yz_b hla hlb (k := 1) (by omega)
  have b2 := yz_b hla hlb (k := 2) (by omega)
  have hpl : F.pl = [(yv la 0 - 6, zv la lb 0 - 6), (yv la 1 - 6, zv la lb 1 - 6), (yv la 2 - 6, zv la lb 2 - 6)] := by
    unfold Fur.pl
    rw [h0]
    rfl
  have hok : ∀ x ∈ F.pl, okSpan x := by
    rw [hpl]
    intro x hx
    simp only [List.mem_cons, List.not_mem_nil, or_false] at hx
    rcases hx with rfl | rfl | rfl <;> unfold okSpan <;> simp only [] <;> omega
  have hlen : F.pl.length = 3 := by rw [hpl]; rfl
  have hb3 := bend_three hlen hok
  have ha := at_spec F.pl 1 (by omega) (by omega) hok
  have hat : atV true F.pl 1 = (atF F.pl 1, 0) := by
    show (if 0 < (1 : Int) ∧ (1 : Int) + 1 < F.pl.length then (atF F.pl (1 : Int).toNat, 0) else ((0, 0), 2)) = _
    rw [if_pos ⟨by decide, by omega⟩]
    rfl
  have key : ∀ x : Nat → Int, Truth F.pl x → [0, x 0 + 6, far, x 1 + 6, 2 * far, x 2 + 6, 0, 0, -1] ∈ truthsL (pgS A c far la lb) ∧ areaV [0, x 0 + 6, far, x 1 + 6, 2 * far, x 2 + 6, 0, 0, -1] = far * bnd x 1 ∧ 0 ≤ bnd x 1 ∧ bnd x 1 ≤ 1000 := fun x hx => by
    have t0 := hx 0 (by omega)
    have t1 := hx 1 (by omega)
    have t2 := hx 2 (by omega)
    rw [hpl] at t0 t1 t2
    simp only [InS, List.getD_cons_zero, List.getD_cons_succ] at t0 t1 t2
    refine ⟨placed A c hfar hla hlb (fun k => x k + 6) fun k hk => ?_, ?_, bend_nn _ _ _, ?_⟩
    · rcases (show k = 0 ∨ k = 1 ∨ k = 2 by omega) with rfl | rfl | rfl <;> omega
    · rw [area_row _ _ _ _ (by omega)]
      congr 1
      show bendI (x 0 + 6) (x 1 + 6) (x 2 + 6) = bendI (x 0) (x 1) (x 2)
      unfold bendI
      split <;> split <;> omega
    · show bendI (x 0) (x 1) (x 2) ≤ 1000
      unfold bendI
      split <;> omega
  obtain ⟨u, hu, e1⟩ := ha.lo
  obtain ⟨v, hv, e2⟩ := ha.hi
  obtain ⟨m1, r1, n1, g1⟩ := key u hu
  obtain ⟨m2, r2, n2, g2⟩ := key v hv
  have f1 := (fold_ar _ (false, 0, 0)).2 _ m1
  have f2 := (fold_ar _ (false, 0, 0)).2 _ m2
  rw [r1, e1] at f1
  rw [r2, e2] at f2
  rw [e1] at n1 g1
  rw [e2] at n2 g2
  refine ⟨(atF F.pl 1).1, (atF F.pl 1).2, by rw [hva, hat], by rw [hva, hb3, hat], ⟨n1, g1⟩, ⟨n2, g2⟩, f1.1, f2.2, ?_, ?_, ?_⟩
  · exact fold_mov _ _ (.inr ⟨_, m1, rfl⟩)
  · exact mov_lt (n := 3) (by omega) _ _ (truths_fine (pgS_ok A c hfar hla hlb)) (by decide)
  · exact List.length_pos_of_mem m1
end Go.Proofs.Ytafmgmaelnpehaa.Tp
end

section
namespace Go.Proofs.Ytafmgmaelnpehaa.Tp
open Go.RowKit Go.TL Go.Shelf
attribute [local go_sem] Oper.semAt_some
attribute [local go_sem] run_store_func
open Go.Fu PFurrowAsks Go.Proofs.YtafmgmaelnpehaaW.PrintWords
theorem flat_twoS (l : List S28) (j : Nat) (p : S28) (h : l[j]? = some p) : ((flat (l.map toP)).drop (j * 2)).take 2 = [.int .i64 p.f0, .int .i64 p.f1] := by
  induction l generalizing j with
  | nil => simp at h
  | cons a l ih =>
    cases j with
    | zero =>
      simp only [List.getElem?_cons_zero, Option.some.injEq] at h
      subst h
      rfl
    | succ j =>
      have := ih j (by simpa using h)
      rw [show (j + 1) * 2 = j * 2 + 2 by omega]
      exact this
theorem own_R28S {w : World} {base : Nat} {v : Value} {l : List S28} (h : w.ownsRow base 28 2 v l.length (flat (l.map toP))) : Kd.R k28 28 w base (fun _ => True) v l := by
  refine ⟨fun _ _ => trivial, flat (l.map toP), h, ?_, fun j p hp => ?_⟩
  · show _ = l.length * 2
    rw [flat_len, List.length_map]
  · show k28.M _ _ _ p (((flat (l.map toP)).drop (j * 2)).take 2)
    rw [flat_twoS l j p hp]
    exact k28_mkM _ _ _ _
theorem rowQ_own {W : World} {B : Nat} {v : Value} {far : Int} {la lb : List Int} (h : W.ownsRow B 70 4 v 3 (flatP far la lb 3)) : ∃ A c, v = .slice A 3 c ∧ RowQ W A [pS far la lb 0, pS far la lb 1, pS far la lb 2] ∧ ∀ ad, A = some ad → ad.block < W.heap.size := by
  rcases h.2 with ⟨_, hz⟩ | ⟨g, cap, cur, e, _, hg, _, _, _, ht⟩
  · omega
  · subst e
    have cg : ∀ k v, k < 12 → (flatP far la lb 3)[k]? = some v → W.cell? ⟨g, k, none⟩ = some v := fun k v hk hv => by
      rw [h.cellAt k (by omega)]
      exact hv
    refine ⟨_, _, rfl, fun i p hp => ⟨_, rfl, ?_⟩, fun ad e => by cases e; exact heap_lt hg⟩
    rw [addr_at]
    match i, hp with
    | 0, hp => cases hp; exact ⟨cg 0 _ (by omega) rfl, cg 1 _ (by omega) rfl, cg 2 _ (by omega) rfl, cg 3 _ (by omega) rfl⟩
    | 1, hp => cases hp; exact ⟨cg 4 _ (by omega) rfl, cg 5 _ (by omega) rfl, cg 6 _ (by omega) rfl, cg 7 _ (by omega) rfl⟩
    | 2, hp => cases hp; exact ⟨cg 8 _ (by omega) rfl, cg 9 _ (by omega) rfl, cg 10 _ (by omega) rfl, cg 11 _ (by omega) rfl⟩
    | i + 3, hp => simp at hp
theorem stB_three {w W : World} {far : Int} {la lb : List Int} {p f qa qb B : Nat} {vP vO vW vD : Value} (h : StB w far la lb p f qa qb B 3 vP vO vW vD W) :
    ∃ A c F, vP = (pgS A c far la lb).sP ∧ (pgS A c far la lb).At W ∧ (∀ ad, A = some ad → ad.block < W.heap.size) ∧ Fur.At F W ∧ .agg #[vO, vW, vD] = F.val ∧ F.l0 = offS la lb ∧ F.l1 = [⟨1, 1⟩, ⟨1, 1⟩, ⟨1, 1⟩] ∧ F.l2 = [⟨0, 0⟩, ⟨0, 0⟩, ⟨0, 0⟩] := by
  obtain ⟨A, c, e, hQ, hA⟩ := rowQ_own h.oP
  obtain ⟨F, h1, h2, h3, h4, h5⟩ := fur_of_rows (w := W) (own_R28S (l := offS la lb) h.oO) (own_R28S (l := [⟨1, 1⟩, ⟨1, 1⟩, ⟨1, 1⟩]) h.oW) (own_R28S (l := [⟨0, 0⟩, ⟨0, 0⟩, ⟨0, 0⟩]) h.oD)
  exact ⟨A, c, F, e, ⟨hQ, fun i p hp => by cases i <;> cases hp⟩, hA, h1, h2, h3, h4, h5⟩
set_option maxRecDepth 100000 in
set_option maxHeartbeats 2000000 in
theorem stk_rest {w X1 : World} {p f : Nat} {vP vO vW vD : Value} {far sl sh al ah : Int} {mset : Nat} (I : World → Prop) (hI : ∀ X Y, I X → Below X.heap.size X Y → I Y) (hI1 : I X1)
    (hAt : ∀ X, I X → Calls Try.prog 17 #[.agg #[vO, vW, vD], vi 1] X fun e W' => e = .returned (.tuple #[.agg #[vi sl, vi sh], vi 0]) ∧ Below X.heap.size X W')
    (hBe : ∀ X, I X → Calls Try.prog 15 #[.agg #[vO, vW, vD]] X fun e W' => e = .returned (.tuple #[.agg #[vi sl, vi sh], vi 0]) ∧ Below X.heap.size X W')
    (hAr : ∀ X, I X → Calls Try.prog 42 #[.agg #[vi 12, vP, .slice none 0 0], vi 0, vi 1, vi 2] X fun e W' => e = .returned (.tuple #[.agg #[vi al, vi ah], vi 0]) ∧ Below X.heap.size X W')
    (hMo : ∀ X, I X → Calls Try.prog 43 #[.agg #[vi 12, vP, .slice none 0 0]] X fun e W' => e = .returned (.tuple #[iv mset, .bool true, vi 0]) ∧ Below X.heap.size X W')
    (hfar : 1 ≤ far ∧ far ≤ 6) (hsl : 0 ≤ sl ∧ sl ≤ 1000) (hsh : 0 ≤ sh ∧ sh ≤ 1000) (h1 : al ≤ far * sl) (h2 : far * sh ≤ ah) (hm : mset < 8)
    (hT : Tr w X1 X1 [(p, .cells #[vi 12, vP, .slice none 0 0] 68 (0, 0)), (f, .cells #[vO, vW, vD] 24 (0, 0))]) {t : Array Value} (hSl : Slots [none, none, none, none, none, none, some (.bool false), some (vi far), some (.pointer (some ⟨p, 0, none⟩)), some (.pointer (some ⟨f, 0, none⟩)), none, none, none, none, none, none, none, none, none, none, none, none, none, none, none, none, none, none, none, none, none, none, none, none, none, none, none, none, none, none, none, none, none, none, none, none, none, none, none, none, none, none, none, none, none, none, none, none, none, none, none, none, none, none, none, none, none, none, none, none, none, none, none, none, none, none, none, none, none, none, none, none, none, none, none, none, none, none, none, none, none, none, none, none, none, none, none, none, none, none, none, none, none, none, none, none, none, none, none, none, none, none, none, none, none, none, none, none, none, none, none, none, none, none, none, none, none, none, none, none, none, none, none, none, none, none, none, none, none, none, none, none, none, none, none, none, none, none, none, none] t) :
    Exec Try.prog none (sub (Try.f12.body.getD .skip) [1, 1, 1, 1, 1]) t X1 (fun e t W => (e = .normal ∨ e = .ret) ∧ ∀ W', Grow w.heap.size W W' → ∃ v, (results Try.f12 t).run Try.prog W' = .ok v W' ∧ Ending.returned v = .returned (.bool true) ∧ Below w.heap.size w W') := by
  have hu68 := Try.underlying68
  have hu24 := Try.underlying24
  have hu28 := Try.underlying28
  obtain ⟨x, hx⟩ := Slots.open_ hSl; simp only [fill, Nat.reduceAdd] at hx; subst hx; clear hSl
  show Exec _ _ (Code.seq (Code.region _ _ _) (Code.seq (Code.region _ _ _) (Code.seq _ _))) _ _ _
  have c0 := hT.cell 1 rfl (j := 0) rfl
  have c1 := hT.cell 1 rfl (j := 1) rfl
  have c2 := hT.cell 1 rfl (j := 2) rfl
  refine exec_seq (exec_region_o fun ds => ?_)
  gi_wp2_with fail
  refine ⟨trivial, rfl, (callsIn_wide.2 (hAt _ hI1)).mono ?_⟩
  rintro e X2 ⟨rfl, hx2⟩
  have hT2 := (hT.step hx2).again
  have hI2 := hI _ _ hI1 hx2
  have hK := Keep.of_below hx2
  clear c0 c1 c2 hAt hx2 hT hI1
  gi_wp2
  refine eq_mk (hK.alloc (.cells #[vi sl, vi sh] 28)) ?_
  show Exec _ _ (Code.seq (Code.region _ _ _) (Code.seq _ _)) _ (X2.alloc (.cells #[vi sl, vi sh] 28)) _
  have hT3 := (hT2.alloc (.cells #[vi sl, vi sh] 28)).again
  have hI3 := hI _ _ hI2 ((Below.refl _ X2).alloc (Nat.le_refl _) (.cells #[vi sl, vi sh] 28))
  clear hT2 hI2 hK
  generalize X2.alloc (.cells #[vi sl, vi sh] 28) = Y2 at *
  generalize X2.heap.size = q1 at *
  clear X2
  have d0 := hT3.cell 2 rfl (j := 0) rfl
  have d1 := hT3.cell 2 rfl (j := 1) rfl
  have d2 := hT3.cell 2 rfl (j := 2) rfl
  refine exec_seq (exec_region_o fun ds => ?_)
  gi_wp2_with fail
  refine ⟨trivial, rfl, (callsIn_wide.2 (hBe _ hI3)).mono ?_⟩
  rintro e X4 ⟨rfl, hx4⟩
  have hT4 := (hT3.step hx4).again
  have hI4 := hI _ _ hI3 hx4
  have hK := Keep.of_below hx4
  clear d0 d1 d2 hBe hx4 hT3 hI3
  gi_wp2
  refine eq_mk (hK.alloc (.cells #[vi sl, vi sh] 28)) ?_
  show Exec _ _ (Code.seq (Code.region _ _ _) (Code.seq _ _)) _ (X4.alloc (.cells #[vi sl, vi sh] 28)) _
  have hT5 := (hT4.alloc (.cells #[vi sl, vi sh] 28)).again
  have hI5 := hI _ _ hI4 ((Below.refl _ X4).alloc (Nat.le_refl _) (.cells #[vi sl, vi sh] 28))
  clear hT4 hI4 hK
  generalize X4.alloc (.cells #[vi sl, vi sh] 28) = Y4 at *
  generalize X4.heap.size = q2 at *
  clear X4 Y2
  have d0 := hT5.cell 2 rfl (j := 0) rfl
  have d1 := hT5.cell 2 rfl (j := 1) rfl
  have d2 := hT5.cell 2 rfl (j := 2) rfl
  refine exec_seq (exec_region_o fun ds => ?_)
  gi_wp2_with fail
  refine ⟨trivial, rfl, (callsIn_wide.2 (hAr _ hI5)).mono ?_⟩
  rintro e X6 ⟨rfl, hx6⟩
  have hT6 := (hT5.step hx6).again
  have hI6 := hI _ _ hI5 hx6
  have hK := Keep.of_below hx6
  clear d0 d1 d2 hAr hx6 hT5 hI5
  gi_wp2
  refine eq_mk (hK.alloc (.cells #[vi al, vi ah] 28)) ?_
  show Exec _ _ (Code.seq (Code.seq (Code.region _ _ _) _) (Code.seq _ _)) _ (X6.alloc (.cells #[vi al, vi ah] 28)) _
  have hT7 := (hT6.alloc (.cells #[vi al, vi ah] 28)).again
  have hI7 := hI _ _ hI6 ((Below.refl _ X6).alloc (Nat.le_refl _) (.cells #[vi al, vi ah] 28))
  clear hT6 hI6 hK
  generalize X6.alloc (.cells #[vi al, vi ah] 28) = Y6 at *
  generalize X6.heap.size = q3 at *
  clear X6 Y4
  have d0 := hT7.cell 0 rfl (j := 0) rfl
  have d1 := hT7.cell 0 rfl (j := 1) rfl
  have e0 := hT7.cell 1 rfl (j := 0) rfl
  have e1 := hT7.cell 1 rfl (j := 1) rfl
  have g0 := hT7.cell 2 rfl (j := 0) rfl
  have g1 := hT7.cell 2 rfl (j := 1) rfl
  have hbs : ∀ s : Int, 0 ≤ s ∧ s ≤ 1000 → IntKind.i64.wrap (far * s) = far * s := fun s hs => IntWalk.i64_in _ (by
    rcases (show far = 1 ∨ far = 2 ∨ far = 3 ∨ far = 4 ∨ far = 5 ∨ far = 6 by omega) with rfl | rfl | rfl | rfl | rfl | rfl <;> omega)
  have hws := hbs sl hsl
  have hwh := hbs sh hsh
  generalize hfl : far * sl = fl at *
  generalize hfh : far * sh = fh at *
  have hn1 : ¬ fl < al := by omega
  have hn2 : ¬ ah < fh := by omega
  clear hbs hsl hsh hfar h1 h2
  refine exec_seq (exec_seq (exec_region_o fun ds => ?_))
  gi_wp2
  refine eq_mk (Keep.refl _) ?_
  show Exec _ _ (Code.cond _ _ _) _ _ _
  refine exec_cond (b := false) rfl (fun h => by cases h) (fun _ => exec_skip ?_)
  clear d0 d1 e0 e1 g0 g1 hws hwh hn1 hn2 hfl hfh
  have d0 := hT7.cell 3 rfl (j := 0) rfl
  have d1 := hT7.cell 3 rfl (j := 1) rfl
  have d2 := hT7.cell 3 rfl (j := 2) rfl
  show Exec _ _ (Code.seq (Code.region _ _ _) (Code.seq _ _)) _ _ _
  refine exec_seq (exec_region_o fun ds => ?_)
  gi_wp2_with fail
  refine ⟨trivial, rfl, (callsIn_wide.2 (hMo _ hI7)).mono ?_⟩
  rintro e X8 ⟨rfl, hx8⟩
  have hT8 := (hT7.step hx8).again
  have hK := Keep.of_below hx8
  clear d0 d1 d2 hMo hx8 hT7 hI7
  gi_wp2
  refine eq_mk hK ?_
  show Exec _ _ (Code.seq (Code.region _ _ _) _) _ _ _
  have hw7 : (mset : Int) / 2 ^ 3 = 0 := by omega
  have hw8 : IntKind.i64.wrap ((mset : Int) / 2 ^ 3) = 0 := by rw [hw7]; exact IntWalk.i64_in _ (by omega)
  refine exec_seq (exec_region_o fun ds => ?_)
  gi_wp2
  case isTrue =>
    refine ⟨trivial, rfl, (callsIn_wide.2 (alive44 X8)).mono ?_⟩
    rintro e X9 ⟨rfl, hx9⟩
    have hB9 := (hT8.step hx9).below
    have hK9 := Keep.of_below hx9
    clear hx9
    gi_wp2
    refine eq_mk hK9 ?_
    show Exec _ _ Code.ret _ _ _
    exact exec_ret ⟨.inr rfl, fun W' hG => ⟨.bool true, by simp [results, Try.f12, go_sem], rfl, hB9.trans (hG.below (Nat.le_refl _) hB9.size)⟩⟩
set_option maxRecDepth 100000 in
set_option maxHeartbeats 2000000 in
theorem stakes_any (st a0 a1 a2 b0 b1 b2 : Int) (hst : 0 ≤ st ∧ st ≤ 255) (hla : Bytes [a0, a1, a2]) (hlb : Bytes [b0, b1, b2]) (w : World) : Calls Try.prog 12 #[.int .u8 st, .agg #[.int .u8 a0, .int .u8 a1, .int .u8 a2], .agg #[.int .u8 b0, .int .u8 b1, .int .u8 b2]] w fun e w' => e = .returned (.bool true) ∧ Below w.heap.size w w' := by
  have hu68 := Try.underlying68
  have hu24 := Try.underlying24
  have hu64 := Try.underlying64
  have hu28 := Try.underlying28
  obtain ⟨far, hf⟩ : ∃ far, 1 + st % 6 = far := ⟨_, rfl⟩
  have hfar : 1 ≤ far ∧ far ≤ 6 := by omega
  have hw1 : IntKind.i64.wrap st = st := IntWalk.i64_in _ (by omega)
  have hw2 : IntKind.i64.wrap (st % 6) = st % 6 := IntWalk.i64_in _ (by omega)
  have hw3 : IntKind.i64.wrap (1 + st % 6) = far := by rw [hf]; exact IntWalk.i64_in _ (by omega)
  have ht : st.tmod 6 = st % 6 := Int.tmod_eq_emod_of_nonneg hst.1
  refine calls_of_exec Try.func12 rfl ?_
  simp only [Try.ntmps12, List.size_toArray, List.length_cons, List.length_nil, Nat.reduceAdd, Nat.reduceSub, Array.replicate_succ, Array.replicate_zero, List.push_toArray, List.append_toArray, List.nil_append, List.cons_append]
  refine exec_seq (exec_region_o fun ds => ?_)
  gi_wp2
  refine eq_mk (((Keep.refl w).alloc (.cells #[.int .u8 a0, .int .u8 a1, .int .u8 a2] 64)).alloc (.cells #[.int .u8 b0, .int .u8 b1, .int .u8 b2] 64)) ?_
  show Exec _ _ (Code.seq _ (Code.seq _ (Code.seq _ _))) _ ((w.alloc (.cells #[.int .u8 a0, .int .u8 a1, .int .u8 a2] 64)).alloc (.cells #[.int .u8 b0, .int .u8 b1, .int .u8 b2] 64)) _
  have hT0 : Tr w w w [] := Tr.start (Below.refl _ w)
  have hT1 := ((hT0.alloc (.cells #[.int .u8 a0, .int .u8 a1, .int .u8 a2] 64)).alloc (.cells #[.int .u8 b0, .int .u8 b1, .int .u8 b2] 64)).again
  have hqb : (w.alloc (.cells #[.int .u8 a0, .int .u8 a1, .int .u8 a2] 64)).heap.size = w.heap.size + 1 := by simp
  have hsz : ((w.alloc (.cells #[.int .u8 a0, .int .u8 a1, .int .u8 a2] 64)).alloc (.cells #[.int .u8 b0, .int .u8 b1, .int .u8 b2] 64)).heap.size = w.heap.size + 2 := by simp
  rw [hqb] at hT1
  clear hT0 hqb
  generalize (w.alloc (.cells #[.int .u8 a0, .int .u8 a1, .int .u8 a2] 64)).alloc (.cells #[.int .u8 b0, .int .u8 b1, .int .u8 b2] 64) = W at *
  refine exec_seq (exec_region_o fun ds => ?_)
  gi_wp2
  refine eq_mk (Keep.refl _) ?_
  show Exec _ _ (Code.seq _ (Code.seq _ _)) _ _ _
  refine exec_seq (exec_region_o fun ds => ?_)
  gi_wp2
  refine eq_mk ((Keep.refl _).alloc (.cells #[vi 12, .slice none 0 0, .slice none 0 0] 68)) ?_
  show Exec _ _ (Code.seq _ _) _ (W.alloc (.cells #[vi 12, .slice none 0 0, .slice none 0 0] 68)) _
  have hT2 := (hT1.alloc (.cells #[vi 12, .slice none 0 0, .slice none 0 0] 68)).again
  rw [hsz] at hT2
  have hsz2 : (W.alloc (.cells #[vi 12, .slice none 0 0, .slice none 0 0] 68)).heap.size = w.heap.size + 3 := by simp [hsz]
  clear hT1
  generalize W.alloc (.cells #[vi 12, .slice none 0 0, .slice none 0 0] 68) = X at *
  refine exec_seq (exec_region_o fun ds => ?_)
  gi_wp2
  refine eq_mk ((Keep.refl _).alloc (.cells #[.slice none 0 0, .slice none 0 0, .slice none 0 0] 24)) ?_
  show Exec _ _ (Code.seq _ _) _ (X.alloc (.cells #[.slice none 0 0, .slice none 0 0, .slice none 0 0] 24)) _
  have hT3 := (hT2.alloc (.cells #[.slice none 0 0, .slice none 0 0, .slice none 0 0] 24)).again
  rw [hsz2] at hT3
  have hsz3 : (X.alloc (.cells #[.slice none 0 0, .slice none 0 0, .slice none 0 0] 24)).heap.size = w.heap.size + 4 := by simp [hsz2]
  clear hT2
  generalize X.alloc (.cells #[.slice none 0 0, .slice none 0 0, .slice none 0 0] 24) = Y at *
  have hTL := hT3.pick (m := [(w.heap.size + 2, .cells #[vi 12, .slice none 0 0, .slice none 0 0] 68 (0, 0)), (w.heap.size + 3, .cells #[.slice none 0 0, .slice none 0 0, .slice none 0 0] 24 (0, 0)), (w.heap.size, .cells (([a0, a1, a2] : List Int).map fun n => Value.int .u8 n).toArray 64 (0, 0)), (w.heap.size + 1, .cells (([b0, b1, b2] : List Int).map fun n => Value.int .u8 n).toArray 64 (0, 0))]) [1, 0, 3, 2] rfl rfl rfl
  clear hT3
  refine exec_seq ((stk_loop (B := w.heap.size + 4) hla hlb hfar (by omega) (by omega) (by omega) (by omega) (by omega) (by omega) hTL (by simp [Slots, Fits])).mono ?_)
  intro e t X1 hh
  obtain ⟨rfl, vP, vO, vW, vD, hS, hSl⟩ := only_normal hh
  clear hh hTL hsz3 hsz2 hsz
  clear W X Y
  obtain ⟨A, c, F, rfl, hPg, hA, hF, hFv, hl0, hl1, hl2⟩ := stB_three hS
  obtain ⟨sl, sh, hat, hbe, hsl, hsh, har1, har2, hm2, hm1, hpos⟩ := stakes_law hfar hla hlb hl0 hl1 hl2 A c
  have hok := pgS_ok A c hfar hla hlb
  refine stk_rest (I := fun X => F.At X ∧ (pgS A c far [a0, a1, a2] [b0, b1, b2]).At X ∧ X1.heap.size ≤ X.heap.size) (far := far) (sl := sl) (sh := sh)
    (fun X Y h hB => ⟨h.1.below hB, h.2.1.below hB, Nat.le_trans h.2.2 hB.size⟩) ⟨hF, hPg, Nat.le_refl _⟩
    (fun X h => ?_) (fun X h => ?_) (fun X h => ?_) (fun X h => ?_) hfar hsl hsh har1 har2 hm1 (hS.tr.drop (List.Sublist.cons_cons _ (List.Sublist.cons_cons _ (List.nil_sublist _)))) ((Fr.start (ds := []) hSl).fin [4, 5, 27] (by kernel_rfl))
  · have := At_c F 1 X h.1 (by rw [hl0]; exact (by decide : 3 ≤ 40))
    rw [hat, ← hFv] at this
    exact this
  · have := Bend_c F X h.1
    rw [hbe, ← hFv] at this
    exact this
  · exact Area42 _ hok (by decide : 2 < 3) X h.2.1 (fun ad e => by cases e) hpos
  · have := Moved43 _ hok X h.2.1 (fun ad e => Nat.lt_of_lt_of_le (hA ad e) h.2.2) (fun ad e => by cases e) hpos
    rw [hm2] at this
    exact this
end Go.Proofs.Ytafmgmaelnpehaa.Tp
end

section
namespace Go.Proofs.Ytafmgmaelnpehaa
theorem u8_bounds {n : Int} (h : (Lit.int .u8 n).wf = true) : 0 ≤ n ∧ n ≤ 255 := by
  simp [Lit.wf, IntKind.min, IntKind.max, IntKind.signed, IntKind.bits] at h
  omega
open Go.RowKit Go.TL in
theorem stakes_row (st a0 a1 a2 b0 b1 b2 : Int) (hs : (Lit.int .u8 st).wf = true) (h0 : (Lit.int .u8 a0).wf = true) (h1 : (Lit.int .u8 a1).wf = true) (h2 : (Lit.int .u8 a2).wf = true) (k0 : (Lit.int .u8 b0).wf = true) (k1 : (Lit.int .u8 b1).wf = true) (k2 : (Lit.int .u8 b2).wf = true) (w : World) :
    Calls Try.prog 12 #[.int .u8 st, .agg #[.int .u8 a0, .int .u8 a1, .int .u8 a2], .agg #[.int .u8 b0, .int .u8 b1, .int .u8 b2]] w fun e w' => e = .returned (.bool true) ∧ Below w.heap.size w w' := by
  refine Tp.stakes_any st a0 a1 a2 b0 b1 b2 (u8_bounds hs) ⟨rfl, fun n hn => ?_⟩ ⟨rfl, fun n hn => ?_⟩ w
  · simp only [List.mem_cons, List.not_mem_nil, or_false] at hn
    rcases hn with rfl | rfl | rfl
    · exact u8_bounds h0
    · exact u8_bounds h1
    · exact u8_bounds h2
  · simp only [List.mem_cons, List.not_mem_nil, or_false] at hn
    rcases hn with rfl | rfl | rfl
    · exact u8_bounds k0
    · exact u8_bounds k1
    · exact u8_bounds k2
section
open Go.ChangeShapes
variable {H : Type} {enc : TypeId × Value → H} {W : World} {base b0 : Nat} {sp : Nat → Bool} {held : Bool} {r : Reach}
set_option maxRecDepth 1000000 in
theorem open_three {v : Value} {d : DataW H} {ps : List MemPlace} (hval : Value.okWide Try.prog W r b0 64 v) (hd : DataW.Trod enc Try.prog W base sp held 64 v d ps) :
    ∃ a b c : Int, v = .agg #[.int .u8 a, .int .u8 b, .int .u8 c] ∧ (Lit.int .u8 a).wf = true ∧ (Lit.int .u8 b).wf = true ∧ (Lit.int .u8 c).wf = true := by
  simp only [Value.okWide, Try.underlying64] at hval
  obtain ⟨cs, rfl, h2, _⟩ := hval
  have hc : Try.prog.cellsOf 64 = 3 := by kernel_rfl
  rw [hc] at h2
  obtain ⟨l⟩ := cs
  match l, h2 with
  | [c0, c1, c2], _ =>
    obtain ⟨fuel, hf⟩ := hd
    obtain ⟨y0, y1, y2, n, _, g0, g1, g2⟩ := trod_array3 Try.underlying64 (by kernel_rfl) hf
    obtain ⟨a, ea, rfl, wa⟩ := DataW.trod_int Try.underlying5 g0
    obtain ⟨b, eb, rfl, wb⟩ := DataW.trod_int Try.underlying5 g1
    obtain ⟨c, ec, rfl, wc⟩ := DataW.trod_int Try.underlying5 g2
    simp only [List.cons.injEq, and_true] at ea eb ec
    subst ea eb ec
    exact ⟨a, b, c, rfl, wa, wb, wc⟩
end
end Go.Proofs.Ytafmgmaelnpehaa
namespace Go.Proofs.Ytafmgmaelnpehaa.topStakes
open Go.ChangeShapes Go.WideShapes Go.ChangeAt Go.RowKit
open Go.ChangeMaps (open_string shut_string)
theorem own : ownKnob Try.prog.godebug = none := by kernel_rfl
theorem laidOut : laidOutB Try.prog = true := by kernel_rfl
set_option maxRecDepth 1000000 in
theorem lifted (os : Os) (started : os.Started) (H : Type) (enc : TypeId × Value → H) :
    ReturnsInHanded {} Try.checked os 12 .any (Rows.topStakesSpec.pre6 enc Try.prog Try.f12 Rows.topStakesRow.domain false) (Rows.topStakesSpec.post enc Try.prog Try.f12 false true false false) := by
  refine returnsInHanded_of_change_sized (C := Try.checked) own started (by kernel_rfl) Try.func12
    (ChangeSpec.witness6 (enc := enc) (C := Try.checked) false ⟨#[], #[.int .u8 0, .agg #[.int .u8 0, .int .u8 0, .int .u8 0], .agg #[.int .u8 0, .int .u8 0, .int .u8 0]], []⟩ 8 (by kernel_rfl) (by kernel_rfl) (by kernel_rfl) (by kernel_rfl)) ?_
  intro W base args ds gs before hval0 hW hcnd hsz0 _
  have hval : ∀ (j : Nat) t v, Try.f12.params[j]? = some t → args[j]? = some v → Value.okWide Try.prog W .any base t v := hval0
  have hW' := hW
  obtain ⟨p, q, hA0, hV, rfl, hfz, hnd⟩ := hW
  have hA : DataW.TrodAll enc Try.prog W 0 (fun _ => true) true Try.f12.params.toList args.toList ds p := hA0
  rw [Try.params12] at hA hval
  obtain ⟨v0, vs0, d0, ds0, p0, q0, hargs, rfl, rfl, h0, r0⟩ := trodAll_cons hA
  obtain ⟨v1, vs1, d1, ds1, p1, q1, rfl, rfl, rfl, h1, r1⟩ := trodAll_cons r0
  obtain ⟨v2, vs2, d2, ds2, p2, q2, rfl, rfl, rfl, h2, r2⟩ := trodAll_cons r1
  obtain ⟨rfl, rfl, rfl⟩ := trodAll_nil r2
  obtain rfl : args = #[v0, v1, v2] := by cases args; simp_all
  obtain ⟨rfl, rfl⟩ := trodVars_none hV
  obtain ⟨a0, rfl, rfl, rfl, w0⟩ := open_int Try.underlying5 (hval 0 5 v0 rfl rfl) h0
  have k1 := h1
  have lt1 : ∀ x ∈ p1, x.block < W.heap.size := by obtain ⟨m, hm⟩ := k1; exact DataW.trod_lt m _ _ _ hm
  have k2 := h2
  have lt2 : ∀ x ∈ p2, x.block < W.heap.size := by obtain ⟨m, hm⟩ := k2; exact DataW.trod_lt m _ _ _ hm
  obtain ⟨x0, x1, x2, rfl, e0, e1, e2⟩ := open_three (hval 1 64 v1 rfl rfl) h1
  obtain ⟨y0, y1, y2, rfl, g0, g1, g2⟩ := open_three (hval 2 64 v2 rfl rfl) h2
  clear hA0 hval0 hsz0
  refine (stakes_row a0 x0 x1 x2 y0 y1 y2 w0 e0 e1 e2 g0 g1 g2 W).mono fun e W' ⟨he, bel⟩ => ?_
  subst he
  exact ⟨_, rfl, _, _, _, [], _, [], hW', trodAll_mk1 (shut_bool Try.underlying4 _), (trodAll_cons_mk (shut_int Try.underlying5 w0) (trodAll_cons_mk (Below.trod laidOut (by kernel_rfl) (of_decide_eq_true (by kernel_rfl)) k1 bel lt1) (trodAll_cons_mk (Below.trod laidOut (by kernel_rfl) (of_decide_eq_true (by kernel_rfl)) k2 bel lt2) trodAll_mk0))), rfl, bel.frame _, fun h => by cases h⟩
theorem over : Rows.topStakesRow.holds Try.pinned (OpenSpec.ofChange Rows.topStakesSpec) :=
  OpenClaim.holds_of_wide 12 Try.f12 rfl rfl rfl rfl rfl rfl rfl ⟨rfl, rfl, rfl, rfl, rfl⟩ rfl rfl rfl rfl rfl (by kernel_rfl) Try.func12 (by kernel_rfl)
    (of_decide_eq_true (by kernel_rfl)) (by unfold Func.isWrapper; first | (rw [if_pos (by decide +kernel)]; kernel_rfl) | (rw [if_neg (by decide +kernel)]; exact ⟨rfl, rfl⟩))
    (fun os started H enc _ => lifted os started H enc)
theorem proved : Rows.TopStakesSaid := over
#print axioms proved
end Go.Proofs.Ytafmgmaelnpehaa.topStakes
namespace Go.Proofs.Ytafmgmaelnpehaa
theorem topStakes_holds : Rows.TopStakesSaid := topStakes.proved
end Go.Proofs.Ytafmgmaelnpehaa
end
