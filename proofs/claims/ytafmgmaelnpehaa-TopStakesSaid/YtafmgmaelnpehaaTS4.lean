/- Parts of the proof: TopStakes: which peg was moved. TopStakes: which pegs were moved. TopStakes: the least and the greatest triangle: what is asked. TopStakes: the least and the greatest triangle. TopStakes: the pegs F. TopStakes: the pegs F, made. Written by a program over the program's translation: functions' own Lean functions, and that the code comes to their answers. A furrow is valid just if the document's own test says so: it comes to one plain test. -/
import Derived.Test.YtafmgmaelnpehaaProg
import Derived.Test.YtafmgmaelnpehaaTS2
import Derived.Test.YtafmgmaelnpehaaTS3
import Derived.Deep.Upon
import Derived.ArgAppend
import Derived.Maps.AppendAt
import Derived.WalkKit
import Derived.WalkSpells
import Derived.WalkLawsBesides
import Derived.Outline
import Derived.OwnWalkIn
import Derived.TacticsInMore
import Derived.LoopNIn
import Derived.LoopIn
import Derived.Shelf.RegionOpen
import Derived.Deep.QuietTactic
import Derived.BigQuiet
import Derived.Lib.Hide
import Derived.Below
import Derived.Deep.Draws
import Derived.Deep.AppendLies
import Derived.OwnWalk
import Derived.Laws.BytesArg
import Derived.Laws.MakeOwn
import Derived.Laws.OwnMore
import Derived.Deep.OwnRows
import Derived.Tactics
import Derived.Lib.ConvBytes
import Derived.Laws.Slices
import Derived.KernelRfl
import Derived.RowKit3
import Derived.Deep.LoopGhost
import Derived.WideLaws
import Derived.Deep.DeepCutAuto
import Derived.Deep.CutBlock
import Derived.Deep.RegionHeld3
import Derived.Laws.Rows
import Derived.Lib.AppendStr
import Derived.Laws.IdiomCopy
import Derived.OrdersHeld
import Derived.Laws.BitsLemmas
import Derived.RowKit
import Derived.Test.YtafmgmaelnpehaaTS1
set_option linter.unusedVariables false
set_option linter.unusedSimpArgs false
section
namespace Go.Proofs.Ytafmgmaelnpehaa.Tp
open Go.RowKit Go.TL Go.Shelf
attribute [local go_sem] Oper.semAt_some
attribute [local go_sem] run_store_func
theorem set8 {T : List Int} (hT : T.length = 9) (v : Int) : (T.set 8 v).getD 8 0 = v := by
  rw [List.getD_eq_getElem?_getD, List.getElem?_set_self (by omega)]
  rfl
theorem setP8 {T : List Int} {peg : Nat} (hp : peg < 4) (x y : Int) : (setP T peg x y).getD 8 0 = T.getD 8 0 := by
  unfold setP
  rw [List.getD_eq_getElem?_getD, List.getElem?_set_ne (by omega), List.getElem?_set_ne (by omega), ← List.getD_eq_getElem?_getD]
structure TFine (n : Nat) (T : List Int) : Prop where
  ok : TOk T
  mv : T.getD 8 0 = -1 ∨ ∃ m : Nat, m < n ∧ T.getD 8 0 = m
theorem onL_fine {a : Pg} (ho : a.Ok) : ∀ (r peg : Nat) (T : List Int), peg + r = a.P.length → TFine a.P.length T → ∀ T' ∈ onL a r peg T, TFine a.P.length T'
  | 0, _, T, _, hT, T', h => by
    rw [List.mem_singleton.1 h]
    exact hT
  | r + 1, peg, T, hpr, hT, T', h => by
    have hs := ho.s1
    have hs0 := ho.s0
    have h4 := ho.pl
    obtain ⟨x, hx, h⟩ := List.mem_flatMap.1 h
    obtain ⟨y, hy, h⟩ := List.mem_flatMap.1 h
    rw [List.mem_range] at hx hy
    obtain ⟨o1, o2⟩ := setP_ok hT.ok (peg := peg) (by omega) (x := (x : Int)) (y := (y : Int)) ⟨by omega, by omega⟩ ⟨by omega, by omega⟩ (peg : Int)
    unfold stepL at h
    cases hn : nxt (a.P.getD peg (0, 0, 0, 0)) T peg x y with
    | none => rw [hn] at h; simp at h
    | some T2 =>
      rw [hn] at h
      simp only at h
      split at h
      · refine onL_fine ho r (peg + 1) T2 (by omega) ?_ T' h
        unfold nxt at hn
        split at hn
        · cases hn
          exact ⟨o1, by rw [setP8 (by omega)]; exact hT.mv⟩
        · split at hn
          · cases hn
          · cases hn
            exact ⟨o2, .inr ⟨peg, by omega, set8 o1.len _⟩⟩
      · simp at h
theorem truths_fine {a : Pg} (ho : a.Ok) : ∀ T ∈ truthsL a, TFine a.P.length T := onL_fine ho a.P.length 0 T0 (by omega) ⟨T0_ok, .inl rfl⟩
def movE (s : Nat × Bool) (T : List Int) : Nat × Bool := if T.getD 8 0 = -1 then (s.1, true) else (s.1 ||| 2 ^ (T.getD 8 0).toNat, s.2)
theorem or_bits (P : Nat) (hP : P < 16) (m : Nat) (hm : m < 4) : bits .or .i64 (P : Int) (IntKind.i64.wrap ((2 : Int) ^ m)) = ((P ||| 2 ^ m : Nat) : Int) := by
  have key : ∀ P : Fin 16, ∀ m : Fin 4, bits .or .i64 (P.1 : Int) (IntKind.i64.wrap ((2 : Int) ^ m.1)) = ((P.1 ||| 2 ^ m.1 : Nat) : Int) := by decide
  exact key ⟨P, hP⟩ ⟨m, hm⟩
set_option maxRecDepth 100000 in
set_option maxHeartbeats 2000000 in
theorem see137 {m0 : Nat} (P : Nat) (hP : P < 16) (nn : Bool) (T : List Int) (hT : TFine 4 T) (w : World) (h : w.heap[m0]? = some (.cells #[iv P, .bool nn] 128 (0, 0))) : Calls Try.prog 137 #[.pointer (some ⟨m0, 0, none⟩), .agg (T.map vi).toArray] w fun e W' => e = .returned (.tuple #[]) ∧ W'.heap[m0]? = some (.cells #[iv (movE (P, nn) T).1, .bool (movE (P, nn) T).2] 128 (0, 0)) ∧ w.grownBy W' (some m0) := by
  have hu116 := Try.underlying116
  have hu128 := Try.underlying128
  obtain ⟨t0, t1, t2, t3, t4, t5, t6, t7, t8, hTa, h8⟩ := T_nine hT.ok.len
  have hmv := hT.mv
  rw [h8] at hmv
  obtain ⟨E, hE⟩ : ∃ E, movE (P, nn) T = E := ⟨_, rfl⟩
  have hE1 : t8 = -1 → E = (P, true) := fun e => by rw [← hE]; unfold movE; rw [h8, if_pos e]
  have hE2 : ∀ m : Nat, t8 = m → E = (P ||| 2 ^ m, nn) := fun m e => by
    rw [← hE]
    unfold movE
    rw [h8, if_neg (by omega), e]
    rfl
  rw [hTa, hE]
  clear hTa h8 hE
  refine calls_of_exec Try.func137 rfl ?_
  simp only [Try.ntmps137, List.size_toArray, List.length_cons, List.length_nil, Nat.reduceAdd, Nat.reduceSub, Array.replicate_succ, Array.replicate_zero, List.push_toArray, List.append_toArray, List.nil_append, List.cons_append]
  refine exec_seq (exec_region_o fun ds => ?_)
  gi_wp2
  refine eq_mk ((Keep.refl w).alloc _) ?_
  show Exec _ _ (Code.seq (Code.seq _ _) _) _ (w.alloc (.cells #[vi t0, vi t1, vi t2, vi t3, vi t4, vi t5, vi t6, vi t7, vi t8] 116)) _
  have hal := (Below.refl w.heap.size w).alloc (Nat.le_refl _) (.cells #[vi t0, vi t1, vi t2, vi t3, vi t4, vi t5, vi t6, vi t7, vi t8] 116)
  have hq : (w.alloc (.cells #[vi t0, vi t1, vi t2, vi t3, vi t4, vi t5, vi t6, vi t7, vi t8] 116)).heap[w.heap.size]? = some (.cells #[vi t0, vi t1, vi t2, vi t3, vi t4, vi t5, vi t6, vi t7, vi t8] 116 (0, 0)) := World.alloc_heap_new _ _
  have hm := heap_next h (.cells #[vi t0, vi t1, vi t2, vi t3, vi t4, vi t5, vi t6, vi t7, vi t8] 116)
  generalize w.alloc (.cells #[vi t0, vi t1, vi t2, vi t3, vi t4, vi t5, vi t6, vi t7, vi t8] 116) = X at *
  have d8 := (Nine.of hq).c8
  refine exec_seq (exec_seq (exec_region_o fun ds => ?_))
  gi_wp2
  refine eq_mk (Keep.refl _) ?_
  show Exec _ _ (Code.cond _ _ _) _ _ _
  have c0 := cells_get (cs := [_, _]) (k := 0) hm rfl
  have c1 := cells_get (cs := [_, _]) (k := 1) hm rfl
  by_cases h1 : t8 = -1
  · have hEE := hE1 h1
    subst h1
    clear hE1 hE2 hmv
    refine exec_cond (b := true) rfl (fun _ => ?_) (fun h => by cases h)
    have s1 := box_set X m0 1 [_, _] 128 (.bool true) hm
    have f1 : X.frozen? ⟨m0, 1, none⟩ = false := frozen_cells hm
    have hg := gb_trans (gb_below (some m0) hal) (grown_set X m0 1 (.bool true))
    refine exec_seq (exec_region_o fun ds => ?_)
    gi_wp2
    refine eq_mk ((Keep.refl _).setCell _ _) ?_
    show Exec _ _ Code.ret _ _ _
    exact exec_ret ⟨.inr rfl, fun W' hG => ⟨_, results_none rfl _ _ _, rfl, by first | exact hG.same _ _ s1 (.inr rfl) | (rw [hEE]; exact hG.same _ _ s1 (.inr rfl)), grownBy_grow hg hG⟩⟩
  · obtain ⟨mv, hmv4, hmv⟩ := hmv.resolve_left h1
    have hEE := hE2 mv hmv
    subst hmv
    clear hE1 hE2
    refine exec_cond (b := false) (by show Value.bool (_ == _) = _; simp [h1]) (fun h => by cases h) (fun _ => exec_skip ?_)
    have hor := or_bits P hP mv hmv4
    obtain ⟨Q, hQ⟩ : ∃ Q, P ||| 2 ^ mv = Q := ⟨_, rfl⟩
    rw [hQ] at hor hEE
    clear hQ
    show Exec _ _ (Code.region _ _ _) _ _ _
    refine region_of_tail 8 (by kernel_rfl) (by kernel_rfl) (by kernel_rfl) (fun Z => Z.cell? ⟨m0, 0, none⟩ = some (iv P) ∧ Z.cell? ⟨w.heap.size, 8, none⟩ = some (iv mv)) (fun _ _ _ => False) (fun _ _ _ h => h.elim) fun ds => ?_
    have hd : Below X.heap.size X X.drew := (Below.refl _ X).drew
    have hmD := (hd.block _ (heap_lt hm)).trans hm
    have hqD := (hd.block _ (heap_lt hq)).trans hq
    have hk := Keep.of_below hd
    have hgD := gb_below (some m0) (hal.trans (hd.mono hal.size))
    clear c0 c1 d8
    generalize X.drew = V at *
    have hS : V.cell? ⟨m0, 0, none⟩ = some (iv P) ∧ V.cell? ⟨w.heap.size, 8, none⟩ = some (iv mv) := ⟨cells_get (cs := [_, _]) (k := 0) hmD rfl, (Nine.of hqD).c8⟩
    refine held_take 0 (.pointer (some ⟨m0, 0, none⟩)) rfl (by kernel_rfl) (by kernel_rfl) (by kernel_rfl) (by intro _ _ _ h; first | exact h | (simpa [behind, Act.put] using h)) rfl (by first | exact hS | assumption) (fun wq hq => ?_) ?_; (focus (first | rfl | (simp [go_sem]; done))); simp only [Act.put, Array.getInternal_eq_getElem, List.take_succ_cons, List.take_zero, List.take_nil, List.getElem_toArray, List.getElem_cons_succ, List.getElem_cons_zero, List.setIfInBounds_toArray, List.set_cons_succ, List.set_cons_zero]
    refine held_take 1 (.pointer (some ⟨m0, 0, none⟩)) rfl (by kernel_rfl) (by kernel_rfl) (by kernel_rfl) (by intro _ _ _ h; first | exact h | (simpa [behind, Act.put] using h)) rfl (by first | exact hS | assumption) (fun wq hq => ?_) ?_; (focus (first | rfl | (simp [go_sem]; done))); simp only [Act.put, Array.getInternal_eq_getElem, List.take_succ_cons, List.take_zero, List.take_nil, List.getElem_toArray, List.getElem_cons_succ, List.getElem_cons_zero, List.setIfInBounds_toArray, List.set_cons_succ, List.set_cons_zero]
    refine held_take 2 (.pointer (some ⟨m0, 0, none⟩)) rfl (by kernel_rfl) (by kernel_rfl) (by kernel_rfl) (by intro _ _ _ h; first | exact h | (simpa [behind, Act.put] using h)) rfl (by first | exact hS | assumption) (fun wq hq => ?_) ?_; (focus (first | rfl | (simp [go_sem, hu128]; done))); simp only [Act.put, Array.getInternal_eq_getElem, List.take_succ_cons, List.take_zero, List.take_nil, List.getElem_toArray, List.getElem_cons_succ, List.getElem_cons_zero, List.setIfInBounds_toArray, List.set_cons_succ, List.set_cons_zero]
    refine held_take 3 (iv P) rfl (by kernel_rfl) (by kernel_rfl) (by kernel_rfl) (by intro _ _ _ h; first | exact h | (simpa [behind, Act.put] using h)) rfl (by first | exact hS | assumption) (fun wq hq => ?_) ?_; (focus (first | rfl | (simp [go_sem, hq.1]; done))); simp only [Act.put, Array.getInternal_eq_getElem, List.take_succ_cons, List.take_zero, List.take_nil, List.getElem_toArray, List.getElem_cons_succ, List.getElem_cons_zero, List.setIfInBounds_toArray, List.set_cons_succ, List.set_cons_zero]
    refine held_take 4 (.pointer (some ⟨w.heap.size, 8, none⟩)) rfl (by kernel_rfl) (by kernel_rfl) (by kernel_rfl) (by intro _ _ _ h; first | exact h | (simpa [behind, Act.put] using h)) rfl (by first | exact hS | assumption) (fun wq hq => ?_) ?_; (focus (first | rfl | (simp [go_sem, hu116]; done))); simp only [Act.put, Array.getInternal_eq_getElem, List.take_succ_cons, List.take_zero, List.take_nil, List.getElem_toArray, List.getElem_cons_succ, List.getElem_cons_zero, List.setIfInBounds_toArray, List.set_cons_succ, List.set_cons_zero]
    refine held_take 5 (iv mv) rfl (by kernel_rfl) (by kernel_rfl) (by kernel_rfl) (by intro _ _ _ h; first | exact h | (simpa [behind, Act.put] using h)) rfl (by first | exact hS | assumption) (fun wq hq => ?_) ?_; (focus (first | rfl | (simp [go_sem, hq.2]; done))); simp only [Act.put, Array.getInternal_eq_getElem, List.take_succ_cons, List.take_zero, List.take_nil, List.getElem_toArray, List.getElem_cons_succ, List.getElem_cons_zero, List.setIfInBounds_toArray, List.set_cons_succ, List.set_cons_zero]
    refine held_take 6 (.int .i64 (IntKind.i64.wrap ((2 : Int) ^ mv))) rfl (by kernel_rfl) (by kernel_rfl) (by kernel_rfl) (by intro _ _ _ h; first | exact h | (simpa [behind, Act.put] using h)) rfl (by first | exact hS | assumption) (fun wq hq => ?_) ?_; (focus (first | rfl | (simp [go_sem]; done))); simp only [Act.put, Array.getInternal_eq_getElem, List.take_succ_cons, List.take_zero, List.take_nil, List.getElem_toArray, List.getElem_cons_succ, List.getElem_cons_zero, List.setIfInBounds_toArray, List.set_cons_succ, List.set_cons_zero]
    refine held_take 7 (iv Q) rfl (by kernel_rfl) (by kernel_rfl) (by kernel_rfl) (by intro _ _ _ h; first | exact h | (simpa [behind, Act.put] using h)) rfl (by first | exact hS | assumption) (fun wq hq => ?_) ?_; (focus (simp [go_sem, hor]; done)); simp only [Act.put, Array.getInternal_eq_getElem, List.take_succ_cons, List.take_zero, List.take_nil, List.getElem_toArray, List.getElem_cons_succ, List.getElem_cons_zero, List.setIfInBounds_toArray, List.set_cons_succ, List.set_cons_zero]
    have s1 := box_set V m0 0 [_, _] 128 (iv Q) hmD
    have g0 := hS.1
    have f0 : V.frozen? ⟨m0, 0, none⟩ = false := frozen_cells hmD
    refine held_done (by kernel_rfl) ?_
    refine behind_normal 3 (by kernel_rfl) ?_
    refine any_val 8 (.pointer (some ⟨m0, 0, none⟩)) rfl (by kernel_rfl) rfl (by first | (simp [go_sem]; done) | rfl) ?_; simp only [Act.put, Array.getInternal_eq_getElem, List.take_succ_cons, List.take_zero, List.take_nil, List.getElem_toArray, List.getElem_cons_succ, List.getElem_cons_zero, List.setIfInBounds_toArray, List.set_cons_succ, List.set_cons_zero]
    refine any_val 9 (.pointer (some ⟨m0, 0, none⟩)) rfl (by kernel_rfl) rfl (by first | (simp [go_sem, hu128]; done) | rfl) ?_; simp only [Act.put, Array.getInternal_eq_getElem, List.take_succ_cons, List.take_zero, List.take_nil, List.getElem_toArray, List.getElem_cons_succ, List.getElem_cons_zero, List.setIfInBounds_toArray, List.set_cons_succ, List.set_cons_zero]
    refine any_skip 10 (V.setCell ⟨m0, 0, none⟩ (iv Q)) rfl (by kernel_rfl) rfl (by simp [go_sem, g0, f0]) ?_; simp only [Act.put, Array.getInternal_eq_getElem, List.take_succ_cons, List.take_zero, List.take_nil, List.getElem_toArray, List.getElem_cons_succ, List.getElem_cons_zero, List.setIfInBounds_toArray, List.set_cons_succ, List.set_cons_zero]
    have hg := gb_trans hgD (grown_set V m0 0 (iv Q))
    refine any_done (by kernel_rfl) ⟨rfl, hk.setCell _ _, ?_⟩
    exact ⟨by first | exact .inl rfl | exact .inl trivial, fun W' hG => ⟨_, results_none rfl _ _ _, rfl, by first | exact hG.same _ _ s1 (.inr rfl) | (rw [hEE]; exact hG.same _ _ s1 (.inr rfl)), grownBy_grow hg hG⟩⟩
end Go.Proofs.Ytafmgmaelnpehaa.Tp
end

section
namespace Go.Proofs.Ytafmgmaelnpehaa.Tp
open Go.RowKit Go.TL Go.Shelf
attribute [local go_sem] Oper.semAt_some
attribute [local go_sem] run_store_func
def m4_0t : It := ⟨(Op.fieldAddr 128 (Operand.tmp 5) 0), some 11, 0, true, none⟩
def m4_1t : It := ⟨(Op.load 3 (Operand.tmp 11)), some 12, 3, true, none⟩
def m4_2t : It := ⟨(Op.fieldAddr 128 (Operand.tmp 5) 1), some 13, 0, true, none⟩
def m4_3t : It := ⟨(Op.load 4 (Operand.tmp 13)), some 14, 4, true, none⟩
def m4_4 : It := ⟨(Op.assign (Operand.tmp 12)), some 2, 3, false, none⟩
def m4_5 : It := ⟨(Op.assign (Operand.tmp 14)), some 3, 4, false, none⟩
def m4_6 : It := ⟨(Op.store 29 (Operand.tmp 4) (Operand.const (Value.int IntKind.i64 0))), none, 0, false, none⟩
set_option maxRecDepth 100000 in
set_option maxHeartbeats 4000000 in
theorem moved_r4 {w W : World} {m0 eb P : Nat} {nn : Bool} (hT : Tr w W W [(m0, .cells #[iv P, .bool nn] 128 (0, 0)), (eb, .cells #[vi 0] 29 (0, 0))]) {t : Array Value} (hSl : Slots [none, none, some (vi 0), some (.bool false), some (.pointer (some ⟨eb, 0, none⟩)), some (.pointer (some ⟨m0, 0, none⟩)), none, none, none, none, none, none, none, none, none] t) :
    Exec Try.prog none (sub (Try.f43.body.getD .skip) [1, 1, 1, 1, 0]) t W (andThen (fun t' W' => Tr w W' W' [(m0, .cells #[iv P, .bool nn] 128 (0, 0)), (eb, .cells #[vi 0] 29 (0, 0))] ∧ Slots [none, none, some (iv P), some (.bool nn), some (.pointer (some ⟨eb, 0, none⟩)), some (.pointer (some ⟨m0, 0, none⟩)), none, none, none, none, none, none, none, none, none] t') fun _ _ _ => False) := by
  have hu128 := Try.underlying128
  have hT0 := hT.again.drew
  refine region_tree (c := (sub (Try.f43.body.getD .skip) [1, 1, 1, 1, 0])) (id := 4) (.one 0 true (.one 1 true (.one 2 true (.one 3 true (.one 4 false (.one 5 false (.one 6 false (.nil)))))))) (Opq (regOps (sub (Try.f43.body.getD .skip) [1, 1, 1, 1, 0]))) rfl (by kernel_rfl) (by kernel_rfl) (by kernel_rfl) (by kernel_rfl) (by kernel_rfl) (by kernel_rfl) [0, 1, 0, 4, 3, 31, 63] (by kernel_rfl) (by kernel_rfl) (fun W' => W'.cell? ⟨m0, 0, none⟩ = some (iv P) ∧ W'.cell? ⟨m0, 1, none⟩ = some (.bool nn)) (fun _ _ _ => False) (fun _ _ _ h => h.elim) (fun _ _ _ _ _ _ _ _ h => h.elim) fun ds Q' hQn hQp => ?_
  have F0 : Fr [none, none, some (vi 0), some (.bool false), some (.pointer (some ⟨eb, 0, none⟩)), some (.pointer (some ⟨m0, 0, none⟩)), none, none, none, none, none, none, none, none, none] ds { tmps := t, defers := ds } := Fr.start hSl
  clear hSl
  generalize ({ tmps := t, defers := ds } : Act) = a0 at *
  generalize W.drew = X0 at *
  refine tr_take m4_0t (.pointer (some ⟨m0, 0, none⟩)) (by kernel_rfl) rfl rfl (fun wq hq => ?_) ⟨hT0.cell 0 rfl rfl, hT0.cell 0 rfl rfl⟩ ?_; (focus (have e5 : a0.eval (.tmp 5) = (.pointer (some ⟨m0, 0, none⟩)) := F0.ev 5 (by kernel_rfl); generalize a0.eval = ev at e5 ⊢; simp [go_sem, mkO, m4_0t, e5, hu128]; done))
  refine F0.next 11 (.pointer (some ⟨m0, 0, none⟩)) fun a1 F1 => ?_
  clear F0
  refine tr_take m4_1t (iv P) (by kernel_rfl) rfl rfl (fun wq hq => ?_) ⟨hT0.cell 0 rfl rfl, hT0.cell 0 rfl rfl⟩ ?_; (focus (have e11 : a1.eval (.tmp 11) = (.pointer (some ⟨m0, 0, none⟩)) := F1.ev 11 (by kernel_rfl); generalize a1.eval = ev at e11 ⊢; simp [go_sem, mkO, m4_1t, e11, hq.1]; done))
  refine F1.next 12 (iv P) fun a2 F2 => ?_
  clear F1 a1
  refine tr_take m4_2t (.pointer (some ⟨m0, 1, none⟩)) (by kernel_rfl) rfl rfl (fun wq hq => ?_) ⟨hT0.cell 0 rfl rfl, hT0.cell 0 rfl rfl⟩ ?_; (focus (have e5 : a2.eval (.tmp 5) = (.pointer (some ⟨m0, 0, none⟩)) := F2.ev 5 (by kernel_rfl); generalize a2.eval = ev at e5 ⊢; simp [go_sem, mkO, m4_2t, e5, hu128]; done))
  refine F2.next 13 (.pointer (some ⟨m0, 1, none⟩)) fun a3 F3 => ?_
  clear F2 a2
  refine tr_take m4_3t (.bool nn) (by kernel_rfl) rfl rfl (fun wq hq => ?_) ⟨hT0.cell 0 rfl rfl, hT0.cell 0 rfl rfl⟩ ?_; (focus (have e13 : a3.eval (.tmp 13) = (.pointer (some ⟨m0, 1, none⟩)) := F3.ev 13 (by kernel_rfl); generalize a3.eval = ev at e13 ⊢; simp [go_sem, mkO, m4_3t, e13, hq.2]; done))
  refine F3.next 14 (.bool nn) fun a4 F4 => ?_
  clear F3 a3
  refine tr_make m4_4 (iv P) _ (by kernel_rfl) rfl rfl ?_ ⟨hT0.cell 0 rfl rfl, hT0.cell 0 rfl rfl⟩ ?_; (focus (have hq := (show (fun W' : World => W'.cell? ⟨m0, 0, none⟩ = some (iv P) ∧ W'.cell? ⟨m0, 1, none⟩ = some (.bool nn)) X0 from ⟨hT0.cell 0 rfl rfl, hT0.cell 0 rfl rfl⟩); have e12 : a4.eval (.tmp 12) = (iv P) := F4.ev 12 (by kernel_rfl); generalize a4.eval = ev at e12 ⊢; simp [go_sem, mkO, m4_4, e12]; done))
  refine F4.next 2 (iv P) fun a5 F5 => ?_
  clear F4 a4
  refine tr_make m4_5 (.bool nn) _ (by kernel_rfl) rfl rfl ?_ ⟨hT0.cell 0 rfl rfl, hT0.cell 0 rfl rfl⟩ ?_; (focus (have hq := (show (fun W' : World => W'.cell? ⟨m0, 0, none⟩ = some (iv P) ∧ W'.cell? ⟨m0, 1, none⟩ = some (.bool nn)) X0 from ⟨hT0.cell 0 rfl rfl, hT0.cell 0 rfl rfl⟩); have e14 : a5.eval (.tmp 14) = (.bool nn) := F5.ev 14 (by kernel_rfl); generalize a5.eval = ev at e14 ⊢; simp [go_sem, mkO, m4_5, e14]; done))
  refine F5.next 3 (.bool nn) fun a6 F6 => ?_
  clear F5 a5
  have hz := hT0.fz 1 rfl
  have hc0 : X0.cell? ⟨eb, 0, none⟩ = some (vi 0) := hT0.cell 1 rfl rfl
  have hT1 : Tr w W (X0.setCell ⟨eb, 0, none⟩ (vi 0)) [(m0, .cells #[iv P, .bool nn] 128 (0, 0)), (eb, .cells #[vi 0] 29 (0, 0))] := (hT0.set 1 rfl 0 (vi 0))
  refine tr_store m4_6 (X0.setCell ⟨eb, 0, none⟩ (vi 0)) (by kernel_rfl) rfl rfl ?_ ⟨hT1.cell 0 rfl rfl, hT1.cell 0 rfl rfl⟩ ?_; (focus (have e4 : a6.eval (.tmp 4) = (.pointer (some ⟨eb, 0, none⟩)) := F6.ev 4 (by kernel_rfl); have ec : ∀ c, a6.eval (.const c) = c := fun _ => rfl; generalize a6.eval = ev at e4 ec ⊢; simp [go_sem, mkO, m4_6, ec, e4, hz, hc0]; done))
  clear hz hc0
  generalize (X0.setCell ⟨eb, 0, none⟩ (vi 0)) = X1 at *
  clear hT0
  clear X0
  show seqT _ _ _ _ _ a6 _
  exact F6.out hQn hT1.keep ⟨hT1.again, (F6.fin [11, 12, 13, 14] (by kernel_rfl))⟩
def movL (a : Pg) : Nat × Bool := (truthsL a).foldl movE (0, false)
theorem mov_lt {n : Nat} (hn : n ≤ 4) : ∀ (L : List (List Int)) (s : Nat × Bool), (∀ T ∈ L, TFine n T) → s.1 < 2 ^ n → (L.foldl movE s).1 < 2 ^ n
  | [], s, _, h => h
  | T :: L, s, hL, h => by
    rw [List.foldl_cons]
    refine mov_lt hn L _ (fun T' h' => hL T' (List.mem_cons_of_mem _ h')) ?_
    unfold movE
    rcases (hL T List.mem_cons_self).mv with h1 | ⟨m, h1, h2⟩
    · rw [if_pos h1]; exact h
    · rw [if_neg (by omega), h2]
      exact Nat.or_lt_two_pow h (Nat.pow_lt_pow_right (by omega) (by show ((m : Int)).toNat < n; omega))
set_option maxRecDepth 100000 in
set_option maxHeartbeats 2000000 in
theorem Moved43 (a : Pg) (ho : a.Ok) (w : World) (ha : a.At w) (hAP : ∀ ad, a.AP = some ad → ad.block < w.heap.size) (hAL : ∀ ad, a.AL = some ad → ad.block < w.heap.size) (hpos : 0 < (truthsL a).length) : Calls Try.prog 43 #[a.val] w fun e w' => e = .returned (.tuple #[iv (movL a).1, .bool (movL a).2, vi 0]) ∧ Below w.heap.size w w' := by
  have hmf : ∀ fn first cap w, (Instr.makeFunc fn first cap).run Try.prog w = .ok (.func fn first cap) w := fun _ _ _ _ => rfl
  have hu68 := Try.underlying68
  have hu128 := Try.underlying128
  have hu129 := Try.underlying129
  refine (callsIn_wide (n := 0)).1 (callsIn_of_wp_marks Try.func43 rfl trivial ?_)
  simp only [Try.ntmps43, List.size_toArray, List.length_cons, List.length_nil, Nat.reduceAdd, Nat.reduceSub, Array.replicate_succ, Array.replicate_zero, List.push_toArray, List.append_toArray, List.nil_append, List.cons_append]
  simp only [Pg.val]
  refine split_rest fun rest hR => ?_
  gi_wp2
  have hB := ((Below.refl w.heap.size w).alloc (Nat.le_refl _) (.cells #[vi a.side, a.sP, a.sL] 68)).alloc (by simp) (.cells #[.int .i64 0] 29)
  have b1 : PgB ((w.alloc (.cells #[vi a.side, a.sP, a.sL] 68)).alloc (.cells #[.int .i64 0] 29)) w.heap.size a := heap_next (World.alloc_heap_new _ _) _
  have b3 : Boxed ((w.alloc (.cells #[vi a.side, a.sP, a.sL] 68)).alloc (.cells #[.int .i64 0] 29)) (w.heap.size + 1) 29 (.int .i64 0) := by (simp only [Boxed, Box2, heap_alloc_at, heap_set_at, World.size_alloc, World.size_setCell]; repeat (first | rfl | rw [if_pos (by omega)] | rw [if_neg (by omega)]))
  have hsz : ((w.alloc (.cells #[vi a.side, a.sP, a.sL] 68)).alloc (.cells #[.int .i64 0] 29)).heap.size = w.heap.size + 2 := by simp
  refine guard_rest (lo := w.heap.size) (T := 148) (b := w.heap.size + 1) catches84 ⟨_, _, rfl⟩ (fun W => by simp [go_sem]) hB.size ?_
  subst hR
  generalize (w.alloc (.cells #[vi a.side, a.sP, a.sL] 68)).alloc (.cells #[.int .i64 0] 29) = V at *
  clear hmf
  refine exec_seq (exec_region_o fun ds => ?_)
  gi_wp2
  refine eq_mk ((Keep.refl _).alloc _) ?_
  show Exec _ _ (Code.seq _ _) _ (V.alloc (.cells #[.int .i64 0, .bool false] 128)) _
  have hBX := hB.alloc hB.size (.cells #[.int .i64 0, .bool false] 128)
  have x1 := heap_next b1 (.cells #[.int .i64 0, .bool false] 128)
  have x3 : Boxed (V.alloc (.cells #[.int .i64 0, .bool false] 128)) (w.heap.size + 1) 29 (.int .i64 0) := heap_next b3 (.cells #[.int .i64 0, .bool false] 128)
  have xm : (V.alloc (.cells #[.int .i64 0, .bool false] 128)).heap[w.heap.size + 2]? = some (.cells #[.int .i64 0, .bool false] 128 (0, 0)) := by
    have := World.alloc_heap_new V (.cells #[.int .i64 0, .bool false] 128)
    rwa [hsz] at this
  try rw [hsz]
  clear b1 b3 hB hsz
  generalize V.alloc (.cells #[.int .i64 0, .bool false] 128) = X at *
  clear V
  have c0 := cells_get (cs := [_, _, _]) (k := 0) x1 rfl
  have c1 := cells_get (cs := [_, _, _]) (k := 1) x1 rfl
  have c2 := cells_get (cs := [_, _, _]) (k := 2) x1 rfl
  have hmX := heap_lt xm
  refine exec_seq (exec_region_o fun ds => ?_)
  gi_wp2_with fail
  refine ⟨trivial, rfl, (callsIn_wide.2 (open80 a ho X (ha.below hBX))).mono ?_⟩
  rintro e Y ⟨pb, A, c, ms, ⟨rfl, hO⟩, ⟨hpb, hAb, hmb⟩, hy⟩
  have hBY := hBX.trans (hy.mono hBX.size)
  have y3 : Boxed Y (w.heap.size + 1) 29 (.int .i64 0) := (hy.block _ x3.lt).trans x3
  have ym := (hy.block _ (heap_lt xm)).trans xm
  have hfine : ∀ T ∈ truthsL a, TFine 4 T := fun T hT => by
    obtain ⟨h1, h2⟩ := truths_fine ho T hT
    exact ⟨h1, h2.imp id fun ⟨m, h3, h4⟩ => ⟨m, by have := ho.pl; omega, h4⟩⟩
  have hXY := hy.size
  have hcall := ask82v ho (Mp := fun k W => W.heap[w.heap.size + 2]? = some (.cells #[iv (((truthsL a).take k).foldl movE (0, false)).1, .bool (((truthsL a).take k).foldl movE (0, false)).2] 128 (0, 0))) Y hO (ha.below hBY).l (m0 := w.heap.size + 2) (by omega) (by omega) (fun ad e => ⟨by have := (hAb ad e).1; omega, (hAb ad e).2⟩) (fun m hm => by have := hmb m hm; omega) (fun ad e => ⟨by have := hAL ad e; omega, by have := hAL ad e; omega⟩)
    (fun k W W' _ h hs => (hs _ (by omega)).trans h) (fun k hk W h => by
      have h16 := mov_lt (Nat.le_refl 4) ((truthsL a).take k) (0, false) (fun T hT => hfine T (List.mem_of_mem_take hT)) (by decide)
      have := see137 (m0 := w.heap.size + 2) (((truthsL a).take k).foldl movE (0, false)).1 h16 (((truthsL a).take k).foldl movE (0, false)).2 _ (hfine _ (List.getElem_mem hk)) W h
      rw [List.take_succ_eq_append_getElem hk, List.foldl_append]
      exact this) (fun k W o h ho => by rw [h] at ho; cases ho; rfl) (fun T hT => (hfine T hT).ok.len) ym hpos
  clear c0 c1 c2 x1 x3 xm
  gi_wp2_with fail
  refine ⟨trivial, rfl, (callsIn_wide.2 hcall).mono ?_⟩
  rintro e Z ⟨rfl, hM, hgZ⟩
  clear hcall
  rw [List.take_length] at hM
  have hBZ : Below w.heap.size w Z := hBY.grown hgZ hBY.size (fun q e => by cases e; omega)
  have z3 : Boxed Z (w.heap.size + 1) 29 (.int .i64 0) := (hgZ.block _ y3.lt (by simp)).trans y3
  have hkZ : Keep X Z := (Keep.of_below hy).grown hgZ fun j o e ho => by
    cases e
    rw [ym] at ho
    cases ho
    rfl
  gi_wp2
  refine eq_mk hkZ ?_
  clear hkZ hgZ ym y3 hO hAb hmb hpb hy hBY hfine hXY
  show Exec _ _ (Code.seq _ _) _ _ _
  have hmv : (truthsL a).foldl movE (0, false) = movL a := rfl
  rw [hmv] at hM
  generalize movL a = E at *
  obtain ⟨P, nn⟩ := E
  refine exec_seq ((moved_r4 (w := w) (W := Z) (m0 := w.heap.size + 2) (eb := w.heap.size + 1) (P := P) (nn := nn) ⟨hBZ, Keep.refl _, fun p hp => by
    simp only [List.mem_cons, List.not_mem_nil, or_false] at hp
    rcases hp with rfl | rfl <;> simp only <;> omega, fun p hp => by
    simp only [List.mem_cons, List.not_mem_nil, or_false] at hp
    rcases hp with rfl | rfl
    · exact hM
    · exact z3, by simp⟩ (by simp [Slots, Fits])).mono ?_)
  intro e t U hh
  obtain ⟨rfl, hT, hSl⟩ := only_normal hh
  have hBU := hT.below
  have u3 : Boxed U (w.heap.size + 1) 29 (.int .i64 0) := hT.at_ _ (List.mem_cons_of_mem _ List.mem_cons_self)
  obtain ⟨x, hx⟩ := Slots.open_ hSl; simp only [fill, Nat.reduceAdd] at hx; subst hx; clear hSl
  show Exec _ _ Code.ret _ _ _
  exact exec_ret (.inl ⟨.inr rfl, u3.lt, fun W' hG => ⟨.tuple #[iv P, .bool nn, vi 0], by have := (hG.boxed u3).cell; simp [results, Try.f43, go_sem, this], rfl, hBU.trans (hG.below (Nat.le_refl _) hBU.size)⟩⟩)
end Go.Proofs.Ytafmgmaelnpehaa.Tp
end

section
namespace Go.Proofs.Ytafmgmaelnpehaa.Tp
open Go.RowKit Go.TL Go.Shelf
attribute [local go_sem] Oper.semAt_some
attribute [local go_sem] run_store_func
def arE (s : Bool × Int × Int) (T : List Int) : Bool × Int × Int := (true, if s.1 then min s.2.1 (areaV T) else areaV T, if s.1 then max s.2.2 (areaV T) else areaV T)
def areaL (a : Pg) : Bool × Int × Int := (truthsL a).foldl arE (false, 0, 0)
theorem area_ask {a : Pg} (ho : a.Ok) {m0 p0 p1 p2 : Nat} {w : World} (Z : World) {pb : Nat} {A : Option Addr} {c : Nat} {ms : List Nat} (hO : PgO Z a pb A c ms) (hr : RowQ Z a.AL a.L) (hAL : ∀ ad, a.AL = some ad → ad.block < w.heap.size) (hm0 : m0 < Z.heap.size) (np : pb ≠ m0) (nA : ∀ ad, A = some ad → ad.block ≠ m0 ∧ ad.block < Z.heap.size) (nm : ∀ m ∈ ms, m ≠ m0) (hwZ : w.heap.size ≤ Z.heap.size) (hmw : w.heap.size ≤ m0) (hn0 : p0 ≠ m0) (hn1 : p1 ≠ m0) (hn2 : p2 ≠ m0)
    (hm : Z.heap[m0]? = some (.cells #[vi 0, vi 0, .bool false, fn79 p0 p1 p2] 121 (0, 0))) (h0 : Z.heap[p0]? = some (.cells #[iv 0] 3 (0, 0))) (h1 : Z.heap[p1]? = some (.cells #[iv 1] 3 (0, 0))) (h2 : Z.heap[p2]? = some (.cells #[iv 2] 3 (0, 0))) (hpos : 0 < (truthsL a).length) :
    Calls Try.prog 82 #[.pointer (some ⟨pb, 0, none⟩), .iface 111 (.pointer (some ⟨m0, 0, none⟩))] Z fun e W' => e = .returned (.tuple #[]) ∧ W'.heap[m0]? = some (.cells #[vi (areaL a).2.1, vi (areaL a).2.2, .bool (areaL a).1, fn79 p0 p1 p2] 121 (0, 0)) ∧ Z.grownBy W' (some m0) := by
  have hfine := truths_fine ho
  have l0 := heap_lt h0
  have l1 := heap_lt h1
  have l2 := heap_lt h2
  refine (ask82m ho (Mp := fun k W => W.heap[m0]? = some (.cells #[vi (((truthsL a).take k).foldl arE (false, 0, 0)).2.1, vi (((truthsL a).take k).foldl arE (false, 0, 0)).2.2, .bool (((truthsL a).take k).foldl arE (false, 0, 0)).1, fn79 p0 p1 p2] 121 (0, 0)) ∧ W.heap[p0]? = some (.cells #[iv 0] 3 (0, 0)) ∧ W.heap[p1]? = some (.cells #[iv 1] 3 (0, 0)) ∧ W.heap[p2]? = some (.cells #[iv 2] 3 (0, 0))) Z hO hr (m0 := m0) hm0 np nA nm (fun ad e => ⟨by have := hAL ad e; omega, by have := hAL ad e; omega⟩)
    (fun k W W' _ h hs => ⟨(hs _ hm0).trans h.1, (hs _ l0).trans h.2.1, (hs _ l1).trans h.2.2.1, (hs _ l2).trans h.2.2.2⟩) (fun k hk W h => ?_) (fun k W o h ho => by rw [h.1] at ho; cases ho; rfl) (fun T hT => (hfine T hT).ok.len) ⟨hm, h0, h1, h2⟩ hpos).mono ?_
  · obtain ⟨g0, g1, g2, g3⟩ := h
    refine (see136 (m0 := m0) _ _ _ _ _ _ rfl rfl (hfine _ (List.getElem_mem hk)).ok W g0 g1 g2 g3).mono ?_
    rintro e W' ⟨rfl, h4, h5⟩
    refine ⟨rfl, ⟨?_, (h5.block _ (heap_lt g1) (by simp; exact hn0)).trans g1, (h5.block _ (heap_lt g2) (by simp; exact hn1)).trans g2, (h5.block _ (heap_lt g3) (by simp; exact hn2)).trans g3⟩, h5⟩
    rw [List.take_succ_eq_append_getElem hk, List.foldl_append]
    exact h4
  · rintro e W' ⟨rfl, h, hg⟩
    rw [List.take_length] at h
    exact ⟨rfl, h.1, hg⟩
def r3_0t : It := ⟨(Op.load 68 (Operand.tmp 4)), some 15, 68, true, none⟩
def r3_1t : It := ⟨(Op.load 68 (Operand.tmp 4)), some 16, 68, true, none⟩
def r3_2t : It := ⟨(Op.load 3 (Operand.tmp 5)), some 17, 3, true, none⟩
def r3_30t : It := ⟨(Op.move (Operand.tmp 10)), some 45, 111, true, none⟩
def r3_31t : It := ⟨(Op.makeInterface 111 (Operand.tmp 45)), some 46, 157, true, none⟩
def r3_3 : It := ⟨(Op.call { callee := (Callee.value (Operand.func 81)), args := #[(Operand.tmp 16), (Operand.tmp 17)], argTypes := #[68, 3] }), some 18, 4, false, none⟩
def r3_4 : It := ⟨(Op.move (Operand.tmp 18)), some 19, 4, false, none⟩
def r3_5t : It := ⟨(Op.load 68 (Operand.tmp 4)), some 20, 68, true, some (19, true)⟩
def r3_6 : It := ⟨(Op.load 3 (Operand.tmp 6)), some 21, 3, false, some (19, true)⟩
def r3_7 : It := ⟨(Op.call { callee := (Callee.value (Operand.func 81)), args := #[(Operand.tmp 20), (Operand.tmp 21)], argTypes := #[68, 3] }), some 22, 4, false, some (19, true)⟩
def r3_8 : It := ⟨(Op.pick (Operand.tmp 19) (Operand.tmp 22) (Operand.const (Value.bool false))), some 23, 4, false, none⟩
def r3_9 : It := ⟨(Op.move (Operand.tmp 23)), some 24, 4, false, none⟩
def r3_10t : It := ⟨(Op.load 68 (Operand.tmp 4)), some 25, 68, true, some (24, true)⟩
def r3_11 : It := ⟨(Op.load 3 (Operand.tmp 7)), some 26, 3, false, some (24, true)⟩
def r3_12 : It := ⟨(Op.call { callee := (Callee.value (Operand.func 81)), args := #[(Operand.tmp 25), (Operand.tmp 26)], argTypes := #[68, 3] }), some 27, 4, false, some (24, true)⟩
def r3_13 : It := ⟨(Op.pick (Operand.tmp 24) (Operand.tmp 27) (Operand.const (Value.bool false))), some 28, 4, false, none⟩
def r3_14 : It := ⟨(Op.move (Operand.tmp 28)), some 29, 4, false, none⟩
def r3_15t : It := ⟨(Op.load 3 (Operand.tmp 5)), some 30, 3, true, some (29, true)⟩
def r3_16 : It := ⟨(Op.load 3 (Operand.tmp 6)), some 31, 3, false, some (29, true)⟩
def r3_17 : It := ⟨(Op.binOp BinOp.neq 3 (Operand.tmp 30) (Operand.tmp 31) 3), some 32, 4, false, some (29, true)⟩
def r3_18 : It := ⟨(Op.pick (Operand.tmp 29) (Operand.tmp 32) (Operand.const (Value.bool false))), some 33, 4, false, none⟩
def r3_19 : It := ⟨(Op.move (Operand.tmp 33)), some 34, 4, false, none⟩
def r3_20t : It := ⟨(Op.load 3 (Operand.tmp 5)), some 35, 3, true, some (34, true)⟩
def r3_21 : It := ⟨(Op.load 3 (Operand.tmp 7)), some 36, 3, false, some (34, true)⟩
def r3_22 : It := ⟨(Op.binOp BinOp.neq 3 (Operand.tmp 35) (Operand.tmp 36) 3), some 37, 4, false, some (34, true)⟩
def r3_23 : It := ⟨(Op.pick (Operand.tmp 34) (Operand.tmp 37) (Operand.const (Value.bool false))), some 38, 4, false, none⟩
def r3_24 : It := ⟨(Op.move (Operand.tmp 38)), some 39, 4, false, none⟩
def r3_25t : It := ⟨(Op.load 3 (Operand.tmp 6)), some 40, 3, true, some (39, true)⟩
def r3_26 : It := ⟨(Op.load 3 (Operand.tmp 7)), some 41, 3, false, some (39, true)⟩
def r3_27 : It := ⟨(Op.binOp BinOp.neq 3 (Operand.tmp 40) (Operand.tmp 41) 3), some 42, 4, false, some (39, true)⟩
def r3_28 : It := ⟨(Op.pick (Operand.tmp 39) (Operand.tmp 42) (Operand.const (Value.bool false))), some 43, 4, false, none⟩
def r3_29 : It := ⟨(Op.call { callee := (Callee.value (Operand.func 80)), args := #[(Operand.tmp 15), (Operand.tmp 43)], argTypes := #[68, 4] }), some 44, 122, false, none⟩
def r3_32 : It := ⟨(Op.call { callee := (Callee.value (Operand.func 82)), args := #[(Operand.tmp 44), (Operand.tmp 46)], argTypes := #[122, 157] }), some 47, 0, false, none⟩
set_option maxRecDepth 100000 in
set_option maxHeartbeats 4000000 in
theorem area_r3 {w W : World} {a : Pg} {b m0 eb r8 p0 p1 p2 : Nat} (ho : a.Ok) (ha : a.At w) (hP : 2 < a.P.length) (hAL : ∀ ad, a.AL = some ad → ad.block < w.heap.size) (hpos : 0 < (truthsL a).length) (hn0 : p0 ≠ m0) (hn1 : p1 ≠ m0) (hn2 : p2 ≠ m0) (hT : Tr w W W [(b, .cells #[vi a.side, a.sP, a.sL] 68 (0, 0)), (m0, .cells #[vi 0, vi 0, .bool false, fn79 p0 p1 p2] 121 (0, 0)), (eb, .cells #[vi 0] 29 (0, 0)), (r8, .cells #[vi 0, vi 0] 28 (0, 0)), (p0, .cells #[iv 0] 3 (0, 0)), (p1, .cells #[iv 1] 3 (0, 0)), (p2, .cells #[iv 2] 3 (0, 0))]) {t : Array Value} (hSl : Slots [none, none, none, none, some (.pointer (some ⟨b, 0, none⟩)), some (.pointer (some ⟨p0, 0, none⟩)), some (.pointer (some ⟨p1, 0, none⟩)), some (.pointer (some ⟨p2, 0, none⟩)), some (.pointer (some ⟨r8, 0, none⟩)), some (.pointer (some ⟨eb, 0, none⟩)), some (.pointer (some ⟨m0, 0, none⟩)), none, none, none, none, none, none, none, none, none, none, none, none, none, none, none, none, none, none, none, none, none, none, none, none, none, none, none, none, none, none, none, none, none, none, none, none, none, none, none, none, none, none] t) :
    Exec Try.prog none (sub (Try.f42.body.getD .skip) [1, 1, 1, 0]) t W (andThen (fun t' W' => Tr w W' W' [(b, .cells #[vi a.side, a.sP, a.sL] 68 (0, 0)), (m0, .cells #[vi (areaL a).2.1, vi (areaL a).2.2, .bool (areaL a).1, fn79 p0 p1 p2] 121 (0, 0)), (eb, .cells #[vi 0] 29 (0, 0)), (r8, .cells #[vi 0, vi 0] 28 (0, 0)), (p0, .cells #[iv 0] 3 (0, 0)), (p1, .cells #[iv 1] 3 (0, 0)), (p2, .cells #[iv 2] 3 (0, 0))] ∧ Slots [none, none, none, none, some (.pointer (some ⟨b, 0, none⟩)), some (.pointer (some ⟨p0, 0, none⟩)), some (.pointer (some ⟨p1, 0, none⟩)), some (.pointer (some ⟨p2, 0, none⟩)), some (.pointer (some ⟨r8, 0, none⟩)), some (.pointer (some ⟨eb, 0, none⟩)), some (.pointer (some ⟨m0, 0, none⟩)), none, none, none, none, none, none, none, none, none, none, none, none, none, none, none, none, none, none, none, none, none, none, none, none, none, none, none, none, none, none, none, none, none, none, none, none, none, none, none, none, none, none] t') fun _ _ _ => False) := by
  have hu68 := Try.underlying68
  have hp4 := ho.pl
  have hT0 := hT.again.drew
  refine region_tree (c := (sub (Try.f42.body.getD .skip) [1, 1, 1, 0])) (id := 3) (.one 0 true (.one 1 true (.one 2 true (.one 30 true (.one 31 true (.one 3 false (.one 4 false (.one 5 true (.one 6 false (.one 7 false (.one 8 false (.one 9 false (.one 10 true (.one 11 false (.one 12 false (.one 13 false (.one 14 false (.one 15 true (.one 16 false (.one 17 false (.one 18 false (.one 19 false (.one 20 true (.one 21 false (.one 22 false (.one 23 false (.one 24 false (.one 25 true (.one 26 false (.one 27 false (.one 28 false (.one 29 false (.one 32 false (.nil)))))))))))))))))))))))))))))))))) (Opq (regOps (sub (Try.f42.body.getD .skip) [1, 1, 1, 0]))) rfl (by kernel_rfl) (by kernel_rfl) (by kernel_rfl) (by kernel_rfl) (by kernel_rfl) (by kernel_rfl) [0, 0, 0, 6, 8, 16, 16, 112, 144, 384, 512, 512, 3584, 4608, 12288, 16384, 16384, 114688, 147456, 278528, 524288, 524288, 3670016, 4718592, 8912896, 16777216, 16777216, 117440512, 150994944, 285212673, 0, 1073741824, 2684354560] (by kernel_rfl) (by kernel_rfl) (fun W' => W'.cell? ⟨b, 0, none⟩ = some (vi a.side) ∧ W'.cell? ⟨b, 1, none⟩ = some (a.sP) ∧ W'.cell? ⟨b, 2, none⟩ = some (a.sL) ∧ W'.cell? ⟨p0, 0, none⟩ = some (iv 0) ∧ W'.cell? ⟨p1, 0, none⟩ = some (iv 1) ∧ W'.cell? ⟨p2, 0, none⟩ = some (iv 2)) (fun _ _ _ => False) (fun _ _ _ h => h.elim) (fun _ _ _ _ _ _ _ _ h => h.elim) fun ds Q' hQn hQp => ?_
  have F0 : Fr [none, none, none, none, some (.pointer (some ⟨b, 0, none⟩)), some (.pointer (some ⟨p0, 0, none⟩)), some (.pointer (some ⟨p1, 0, none⟩)), some (.pointer (some ⟨p2, 0, none⟩)), some (.pointer (some ⟨r8, 0, none⟩)), some (.pointer (some ⟨eb, 0, none⟩)), some (.pointer (some ⟨m0, 0, none⟩)), none, none, none, none, none, none, none, none, none, none, none, none, none, none, none, none, none, none, none, none, none, none, none, none, none, none, none, none, none, none, none, none, none, none, none, none, none, none, none, none, none, none] ds { tmps := t, defers := ds } := Fr.start hSl
  clear hSl
  generalize ({ tmps := t, defers := ds } : Act) = a0 at *
  generalize W.drew = X0 at *
  refine tr_take r3_0t (.agg #[vi a.side, a.sP, a.sL]) (by kernel_rfl) rfl rfl (fun wq hq => ?_) ⟨hT0.cell 0 rfl rfl, hT0.cell 0 rfl rfl, hT0.cell 0 rfl rfl, hT0.cell 4 rfl rfl, hT0.cell 5 rfl rfl, hT0.cell 6 rfl rfl⟩ ?_; (focus (have e4 : a0.eval (.tmp 4) = (.pointer (some ⟨b, 0, none⟩)) := F0.ev 4 (by kernel_rfl); generalize a0.eval = ev at e4 ⊢; simp [go_sem, mkO, r3_0t, e4, hu68, hq.1, hq.2.1, hq.2.2.1]; done))
  refine F0.next 15 (.agg #[vi a.side, a.sP, a.sL]) fun a1 F1 => ?_
  clear F0
  refine tr_take r3_1t (.agg #[vi a.side, a.sP, a.sL]) (by kernel_rfl) rfl rfl (fun wq hq => ?_) ⟨hT0.cell 0 rfl rfl, hT0.cell 0 rfl rfl, hT0.cell 0 rfl rfl, hT0.cell 4 rfl rfl, hT0.cell 5 rfl rfl, hT0.cell 6 rfl rfl⟩ ?_; (focus (have e4 : a1.eval (.tmp 4) = (.pointer (some ⟨b, 0, none⟩)) := F1.ev 4 (by kernel_rfl); generalize a1.eval = ev at e4 ⊢; simp [go_sem, mkO, r3_1t, e4, hu68, hq.1, hq.2.1, hq.2.2.1]; done))
  refine F1.next 16 (.agg #[vi a.side, a.sP, a.sL]) fun a2 F2 => ?_
  clear F1 a1
  refine tr_take r3_2t (iv 0) (by kernel_rfl) rfl rfl (fun wq hq => ?_) ⟨hT0.cell 0 rfl rfl, hT0.cell 0 rfl rfl, hT0.cell 0 rfl rfl, hT0.cell 4 rfl rfl, hT0.cell 5 rfl rfl, hT0.cell 6 rfl rfl⟩ ?_; (focus (have e5 : a2.eval (.tmp 5) = (.pointer (some ⟨p0, 0, none⟩)) := F2.ev 5 (by kernel_rfl); generalize a2.eval = ev at e5 ⊢; simp [go_sem, mkO, r3_2t, e5, hq.2.2.2.1]; done))
  refine F2.next 17 (iv 0) fun a3 F3 => ?_
  clear F2 a2
  refine tr_take r3_30t (.pointer (some ⟨m0, 0, none⟩)) (by kernel_rfl) rfl rfl (fun wq hq => ?_) ⟨hT0.cell 0 rfl rfl, hT0.cell 0 rfl rfl, hT0.cell 0 rfl rfl, hT0.cell 4 rfl rfl, hT0.cell 5 rfl rfl, hT0.cell 6 rfl rfl⟩ ?_; (focus (have e10 : a3.eval (.tmp 10) = (.pointer (some ⟨m0, 0, none⟩)) := F3.ev 10 (by kernel_rfl); generalize a3.eval = ev at e10 ⊢; simp [go_sem, mkO, r3_30t, e10]; done))
  refine F3.next 45 (.pointer (some ⟨m0, 0, none⟩)) fun a4 F4 => ?_
  clear F3 a3
  refine tr_take r3_31t (.iface 111 (.pointer (some ⟨m0, 0, none⟩))) (by kernel_rfl) rfl rfl (fun wq hq => ?_) ⟨hT0.cell 0 rfl rfl, hT0.cell 0 rfl rfl, hT0.cell 0 rfl rfl, hT0.cell 4 rfl rfl, hT0.cell 5 rfl rfl, hT0.cell 6 rfl rfl⟩ ?_; (focus (have e45 : a4.eval (.tmp 45) = (.pointer (some ⟨m0, 0, none⟩)) := F4.ev 45 (by kernel_rfl); generalize a4.eval = ev at e45 ⊢; simp [go_sem, mkO, r3_31t, e45]; done))
  refine F4.next 46 (.iface 111 (.pointer (some ⟨m0, 0, none⟩))) fun a5 F5 => ?_
  clear F4 a4
  refine tr_call r3_3 (f := 81) (args := #[.agg #[vi a.side, a.sP, a.sL], iv 0]) (by kernel_rfl) rfl rfl ?_ ?_
  · (have e16 : a5.eval (.tmp 16) = (.agg #[vi a.side, a.sP, a.sL]) := F5.ev 16 (by kernel_rfl); have e17 : a5.eval (.tmp 17) = (iv 0) := F5.ev 17 (by kernel_rfl); have ef : ∀ f, a5.eval (.func f) = .func (.func f) #[] #[] := fun _ => rfl; generalize a5.eval = ev at e16 e17 ef ⊢; simp [go_sem, mkO, r3_3, ef, e16, e17]; done)
  refine (isPeg81 a 0 (by omega) hp4 X0).mono ?_
  rintro e X1 ⟨rfl, hy⟩
  have hT1 := hT0.step hy
  refine .inl ⟨_, rfl, ⟨hT1.cell 0 rfl rfl, hT1.cell 0 rfl rfl, hT1.cell 0 rfl rfl, hT1.cell 4 rfl rfl, hT1.cell 5 rfl rfl, hT1.cell 6 rfl rfl⟩, ?_⟩
  clear hy hT0
  clear X0
  refine F5.next 18 (.bool true) fun a6 F6 => ?_
  clear F5 a5
  refine tr_make r3_4 (.bool true) _ (by kernel_rfl) rfl rfl ?_ ⟨hT1.cell 0 rfl rfl, hT1.cell 0 rfl rfl, hT1.cell 0 rfl rfl, hT1.cell 4 rfl rfl, hT1.cell 5 rfl rfl, hT1.cell 6 rfl rfl⟩ ?_; (focus (have hq := (show (fun W' : World => W'.cell? ⟨b, 0, none⟩ = some (vi a.side) ∧ W'.cell? ⟨b, 1, none⟩ = some (a.sP) ∧ W'.cell? ⟨b, 2, none⟩ = some (a.sL) ∧ W'.cell? ⟨p0, 0, none⟩ = some (iv 0) ∧ W'.cell? ⟨p1, 0, none⟩ = some (iv 1) ∧ W'.cell? ⟨p2, 0, none⟩ = some (iv 2)) X1 from ⟨hT1.cell 0 rfl rfl, hT1.cell 0 rfl rfl, hT1.cell 0 rfl rfl, hT1.cell 4 rfl rfl, hT1.cell 5 rfl rfl, hT1.cell 6 rfl rfl⟩); have e18 : a6.eval (.tmp 18) = (.bool true) := F6.ev 18 (by kernel_rfl); generalize a6.eval = ev at e18 ⊢; simp [go_sem, mkO, r3_4, e18]; done))
  refine F6.next 19 (.bool true) fun a7 F7 => ?_
  clear F6 a6
  refine tr_take r3_5t (.agg #[vi a.side, a.sP, a.sL]) (by kernel_rfl) rfl (F7.gd (by kernel_rfl)) (fun wq hq => ?_) ⟨hT1.cell 0 rfl rfl, hT1.cell 0 rfl rfl, hT1.cell 0 rfl rfl, hT1.cell 4 rfl rfl, hT1.cell 5 rfl rfl, hT1.cell 6 rfl rfl⟩ ?_; (focus (have e4 : a7.eval (.tmp 4) = (.pointer (some ⟨b, 0, none⟩)) := F7.ev 4 (by kernel_rfl); generalize a7.eval = ev at e4 ⊢; simp [go_sem, mkO, r3_5t, e4, hu68, hq.1, hq.2.1, hq.2.2.1]; done))
  refine F7.next 20 (.agg #[vi a.side, a.sP, a.sL]) fun a8 F8 => ?_
  clear F7 a7
  refine tr_make r3_6 (iv 1) _ (by kernel_rfl) rfl (F8.gd (by kernel_rfl)) ?_ ⟨hT1.cell 0 rfl rfl, hT1.cell 0 rfl rfl, hT1.cell 0 rfl rfl, hT1.cell 4 rfl rfl, hT1.cell 5 rfl rfl, hT1.cell 6 rfl rfl⟩ ?_; (focus (have hq := (show (fun W' : World => W'.cell? ⟨b, 0, none⟩ = some (vi a.side) ∧ W'.cell? ⟨b, 1, none⟩ = some (a.sP) ∧ W'.cell? ⟨b, 2, none⟩ = some (a.sL) ∧ W'.cell? ⟨p0, 0, none⟩ = some (iv 0) ∧ W'.cell? ⟨p1, 0, none⟩ = some (iv 1) ∧ W'.cell? ⟨p2, 0, none⟩ = some (iv 2)) X1 from ⟨hT1.cell 0 rfl rfl, hT1.cell 0 rfl rfl, hT1.cell 0 rfl rfl, hT1.cell 4 rfl rfl, hT1.cell 5 rfl rfl, hT1.cell 6 rfl rfl⟩); have e6 : a8.eval (.tmp 6) = (.pointer (some ⟨p1, 0, none⟩)) := F8.ev 6 (by kernel_rfl); generalize a8.eval = ev at e6 ⊢; simp [go_sem, mkO, r3_6, e6, hq.2.2.2.2.1]; done))
  refine F8.next 21 (iv 1) fun a9 F9 => ?_
  clear F8 a8
  refine tr_call r3_7 (f := 81) (args := #[.agg #[vi a.side, a.sP, a.sL], iv 1]) (by kernel_rfl) rfl (F9.gd (by kernel_rfl)) ?_ ?_
  · (have e20 : a9.eval (.tmp 20) = (.agg #[vi a.side, a.sP, a.sL]) := F9.ev 20 (by kernel_rfl); have e21 : a9.eval (.tmp 21) = (iv 1) := F9.ev 21 (by kernel_rfl); have ef : ∀ f, a9.eval (.func f) = .func (.func f) #[] #[] := fun _ => rfl; generalize a9.eval = ev at e20 e21 ef ⊢; simp [go_sem, mkO, r3_7, ef, e20, e21]; done)
  refine (isPeg81 a 1 (by omega) hp4 X1).mono ?_
  rintro e X2 ⟨rfl, hy⟩
  have hT2 := hT1.step hy
  refine .inl ⟨_, rfl, ⟨hT2.cell 0 rfl rfl, hT2.cell 0 rfl rfl, hT2.cell 0 rfl rfl, hT2.cell 4 rfl rfl, hT2.cell 5 rfl rfl, hT2.cell 6 rfl rfl⟩, ?_⟩
  clear hy hT1
  clear X1
  refine F9.next 22 (.bool true) fun a10 F10 => ?_
  clear F9 a9
  refine tr_make r3_8 (.bool true) _ (by kernel_rfl) rfl rfl ?_ ⟨hT2.cell 0 rfl rfl, hT2.cell 0 rfl rfl, hT2.cell 0 rfl rfl, hT2.cell 4 rfl rfl, hT2.cell 5 rfl rfl, hT2.cell 6 rfl rfl⟩ ?_; (focus (have hq := (show (fun W' : World => W'.cell? ⟨b, 0, none⟩ = some (vi a.side) ∧ W'.cell? ⟨b, 1, none⟩ = some (a.sP) ∧ W'.cell? ⟨b, 2, none⟩ = some (a.sL) ∧ W'.cell? ⟨p0, 0, none⟩ = some (iv 0) ∧ W'.cell? ⟨p1, 0, none⟩ = some (iv 1) ∧ W'.cell? ⟨p2, 0, none⟩ = some (iv 2)) X2 from ⟨hT2.cell 0 rfl rfl, hT2.cell 0 rfl rfl, hT2.cell 0 rfl rfl, hT2.cell 4 rfl rfl, hT2.cell 5 rfl rfl, hT2.cell 6 rfl rfl⟩); have e19 : a10.eval (.tmp 19) = (.bool true) := F10.ev 19 (by kernel_rfl); have e22 : a10.eval (.tmp 22) = (.bool true) := F10.ev 22 (by kernel_rfl); have ec : ∀ c, a10.eval (.const c) = c := fun _ => rfl; generalize a10.eval = ev at e19 e22 ec ⊢; simp [go_sem, mkO, r3_8, ec, e19, e22]; done))
  refine F10.next 23 (.bool true) fun a11 F11 => ?_
  clear F10 a10
  refine tr_make r3_9 (.bool true) _ (by kernel_rfl) rfl rfl ?_ ⟨hT2.cell 0 rfl rfl, hT2.cell 0 rfl rfl, hT2.cell 0 rfl rfl, hT2.cell 4 rfl rfl, hT2.cell 5 rfl rfl, hT2.cell 6 rfl rfl⟩ ?_; (focus (have hq := (show (fun W' : World => W'.cell? ⟨b, 0, none⟩ = some (vi a.side) ∧ W'.cell? ⟨b, 1, none⟩ = some (a.sP) ∧ W'.cell? ⟨b, 2, none⟩ = some (a.sL) ∧ W'.cell? ⟨p0, 0, none⟩ = some (iv 0) ∧ W'.cell? ⟨p1, 0, none⟩ = some (iv 1) ∧ W'.cell? ⟨p2, 0, none⟩ = some (iv 2)) X2 from ⟨hT2.cell 0 rfl rfl, hT2.cell 0 rfl rfl, hT2.cell 0 rfl rfl, hT2.cell 4 rfl rfl, hT2.cell 5 rfl rfl, hT2.cell 6 rfl rfl⟩); have e23 : a11.eval (.tmp 23) = (.bool true) := F11.ev 23 (by kernel_rfl); generalize a11.eval = ev at e23 ⊢; simp [go_sem, mkO, r3_9, e23]; done))
  refine F11.next 24 (.bool true) fun a12 F12 => ?_
  clear F11 a11
  refine tr_take r3_10t (.agg #[vi a.side, a.sP, a.sL]) (by kernel_rfl) rfl (F12.gd (by kernel_rfl)) (fun wq hq => ?_) ⟨hT2.cell 0 rfl rfl, hT2.cell 0 rfl rfl, hT2.cell 0 rfl rfl, hT2.cell 4 rfl rfl, hT2.cell 5 rfl rfl, hT2.cell 6 rfl rfl⟩ ?_; (focus (have e4 : a12.eval (.tmp 4) = (.pointer (some ⟨b, 0, none⟩)) := F12.ev 4 (by kernel_rfl); generalize a12.eval = ev at e4 ⊢; simp [go_sem, mkO, r3_10t, e4, hu68, hq.1, hq.2.1, hq.2.2.1]; done))
  refine F12.next 25 (.agg #[vi a.side, a.sP, a.sL]) fun a13 F13 => ?_
  clear F12 a12
  refine tr_make r3_11 (iv 2) _ (by kernel_rfl) rfl (F13.gd (by kernel_rfl)) ?_ ⟨hT2.cell 0 rfl rfl, hT2.cell 0 rfl rfl, hT2.cell 0 rfl rfl, hT2.cell 4 rfl rfl, hT2.cell 5 rfl rfl, hT2.cell 6 rfl rfl⟩ ?_; (focus (have hq := (show (fun W' : World => W'.cell? ⟨b, 0, none⟩ = some (vi a.side) ∧ W'.cell? ⟨b, 1, none⟩ = some (a.sP) ∧ W'.cell? ⟨b, 2, none⟩ = some (a.sL) ∧ W'.cell? ⟨p0, 0, none⟩ = some (iv 0) ∧ W'.cell? ⟨p1, 0, none⟩ = some (iv 1) ∧ W'.cell? ⟨p2, 0, none⟩ = some (iv 2)) X2 from ⟨hT2.cell 0 rfl rfl, hT2.cell 0 rfl rfl, hT2.cell 0 rfl rfl, hT2.cell 4 rfl rfl, hT2.cell 5 rfl rfl, hT2.cell 6 rfl rfl⟩); have e7 : a13.eval (.tmp 7) = (.pointer (some ⟨p2, 0, none⟩)) := F13.ev 7 (by kernel_rfl); generalize a13.eval = ev at e7 ⊢; simp [go_sem, mkO, r3_11, e7, hq.2.2.2.2.2]; done))
  refine F13.next 26 (iv 2) fun a14 F14 => ?_
  clear F13 a13
  refine tr_call r3_12 (f := 81) (args := #[.agg #[vi a.side, a.sP, a.sL], iv 2]) (by kernel_rfl) rfl (F14.gd (by kernel_rfl)) ?_ ?_
  · (have e25 : a14.eval (.tmp 25) = (.agg #[vi a.side, a.sP, a.sL]) := F14.ev 25 (by kernel_rfl); have e26 : a14.eval (.tmp 26) = (iv 2) := F14.ev 26 (by kernel_rfl); have ef : ∀ f, a14.eval (.func f) = .func (.func f) #[] #[] := fun _ => rfl; generalize a14.eval = ev at e25 e26 ef ⊢; simp [go_sem, mkO, r3_12, ef, e25, e26]; done)
  refine (isPeg81 a 2 (by omega) hp4 X2).mono ?_
  rintro e X3 ⟨rfl, hy⟩
  have hT3 := hT2.step hy
  refine .inl ⟨_, rfl, ⟨hT3.cell 0 rfl rfl, hT3.cell 0 rfl rfl, hT3.cell 0 rfl rfl, hT3.cell 4 rfl rfl, hT3.cell 5 rfl rfl, hT3.cell 6 rfl rfl⟩, ?_⟩
  clear hy hT2
  clear X2
  refine F14.next 27 (.bool true) fun a15 F15 => ?_
  clear F14 a14
  refine tr_make r3_13 (.bool true) _ (by kernel_rfl) rfl rfl ?_ ⟨hT3.cell 0 rfl rfl, hT3.cell 0 rfl rfl, hT3.cell 0 rfl rfl, hT3.cell 4 rfl rfl, hT3.cell 5 rfl rfl, hT3.cell 6 rfl rfl⟩ ?_; (focus (have hq := (show (fun W' : World => W'.cell? ⟨b, 0, none⟩ = some (vi a.side) ∧ W'.cell? ⟨b, 1, none⟩ = some (a.sP) ∧ W'.cell? ⟨b, 2, none⟩ = some (a.sL) ∧ W'.cell? ⟨p0, 0, none⟩ = some (iv 0) ∧ W'.cell? ⟨p1, 0, none⟩ = some (iv 1) ∧ W'.cell? ⟨p2, 0, none⟩ = some (iv 2)) X3 from ⟨hT3.cell 0 rfl rfl, hT3.cell 0 rfl rfl, hT3.cell 0 rfl rfl, hT3.cell 4 rfl rfl, hT3.cell 5 rfl rfl, hT3.cell 6 rfl rfl⟩); have e24 : a15.eval (.tmp 24) = (.bool true) := F15.ev 24 (by kernel_rfl); have e27 : a15.eval (.tmp 27) = (.bool true) := F15.ev 27 (by kernel_rfl); have ec : ∀ c, a15.eval (.const c) = c := fun _ => rfl; generalize a15.eval = ev at e24 e27 ec ⊢; simp [go_sem, mkO, r3_13, ec, e24, e27]; done))
  refine F15.next 28 (.bool true) fun a16 F16 => ?_
  clear F15 a15
  refine tr_make r3_14 (.bool true) _ (by kernel_rfl) rfl rfl ?_ ⟨hT3.cell 0 rfl rfl, hT3.cell 0 rfl rfl, hT3.cell 0 rfl rfl, hT3.cell 4 rfl rfl, hT3.cell 5 rfl rfl, hT3.cell 6 rfl rfl⟩ ?_; (focus (have hq := (show (fun W' : World => W'.cell? ⟨b, 0, none⟩ = some (vi a.side) ∧ W'.cell? ⟨b, 1, none⟩ = some (a.sP) ∧ W'.cell? ⟨b, 2, none⟩ = some (a.sL) ∧ W'.cell? ⟨p0, 0, none⟩ = some (iv 0) ∧ W'.cell? ⟨p1, 0, none⟩ = some (iv 1) ∧ W'.cell? ⟨p2, 0, none⟩ = some (iv 2)) X3 from ⟨hT3.cell 0 rfl rfl, hT3.cell 0 rfl rfl, hT3.cell 0 rfl rfl, hT3.cell 4 rfl rfl, hT3.cell 5 rfl rfl, hT3.cell 6 rfl rfl⟩); have e28 : a16.eval (.tmp 28) = (.bool true) := F16.ev 28 (by kernel_rfl); generalize a16.eval = ev at e28 ⊢; simp [go_sem, mkO, r3_14, e28]; done))
  refine F16.next 29 (.bool true) fun a17 F17 => ?_
  clear F16 a16
  refine tr_take r3_15t (iv 0) (by kernel_rfl) rfl (F17.gd (by kernel_rfl)) (fun wq hq => ?_) ⟨hT3.cell 0 rfl rfl, hT3.cell 0 rfl rfl, hT3.cell 0 rfl rfl, hT3.cell 4 rfl rfl, hT3.cell 5 rfl rfl, hT3.cell 6 rfl rfl⟩ ?_; (focus (have e5 : a17.eval (.tmp 5) = (.pointer (some ⟨p0, 0, none⟩)) := F17.ev 5 (by kernel_rfl); generalize a17.eval = ev at e5 ⊢; simp [go_sem, mkO, r3_15t, e5, hq.2.2.2.1]; done))
  refine F17.next 30 (iv 0) fun a18 F18 => ?_
  clear F17 a17
  refine tr_make r3_16 (iv 1) _ (by kernel_rfl) rfl (F18.gd (by kernel_rfl)) ?_ ⟨hT3.cell 0 rfl rfl, hT3.cell 0 rfl rfl, hT3.cell 0 rfl rfl, hT3.cell 4 rfl rfl, hT3.cell 5 rfl rfl, hT3.cell 6 rfl rfl⟩ ?_; (focus (have hq := (show (fun W' : World => W'.cell? ⟨b, 0, none⟩ = some (vi a.side) ∧ W'.cell? ⟨b, 1, none⟩ = some (a.sP) ∧ W'.cell? ⟨b, 2, none⟩ = some (a.sL) ∧ W'.cell? ⟨p0, 0, none⟩ = some (iv 0) ∧ W'.cell? ⟨p1, 0, none⟩ = some (iv 1) ∧ W'.cell? ⟨p2, 0, none⟩ = some (iv 2)) X3 from ⟨hT3.cell 0 rfl rfl, hT3.cell 0 rfl rfl, hT3.cell 0 rfl rfl, hT3.cell 4 rfl rfl, hT3.cell 5 rfl rfl, hT3.cell 6 rfl rfl⟩); have e6 : a18.eval (.tmp 6) = (.pointer (some ⟨p1, 0, none⟩)) := F18.ev 6 (by kernel_rfl); generalize a18.eval = ev at e6 ⊢; simp [go_sem, mkO, r3_16, e6, hq.2.2.2.2.1]; done))
  refine F18.next 31 (iv 1) fun a19 F19 => ?_
  clear F18 a18
  refine tr_make r3_17 (.bool true) _ (by kernel_rfl) rfl (F19.gd (by kernel_rfl)) ?_ ⟨hT3.cell 0 rfl rfl, hT3.cell 0 rfl rfl, hT3.cell 0 rfl rfl, hT3.cell 4 rfl rfl, hT3.cell 5 rfl rfl, hT3.cell 6 rfl rfl⟩ ?_; (focus (have hq := (show (fun W' : World => W'.cell? ⟨b, 0, none⟩ = some (vi a.side) ∧ W'.cell? ⟨b, 1, none⟩ = some (a.sP) ∧ W'.cell? ⟨b, 2, none⟩ = some (a.sL) ∧ W'.cell? ⟨p0, 0, none⟩ = some (iv 0) ∧ W'.cell? ⟨p1, 0, none⟩ = some (iv 1) ∧ W'.cell? ⟨p2, 0, none⟩ = some (iv 2)) X3 from ⟨hT3.cell 0 rfl rfl, hT3.cell 0 rfl rfl, hT3.cell 0 rfl rfl, hT3.cell 4 rfl rfl, hT3.cell 5 rfl rfl, hT3.cell 6 rfl rfl⟩); have e30 : a19.eval (.tmp 30) = (iv 0) := F19.ev 30 (by kernel_rfl); have e31 : a19.eval (.tmp 31) = (iv 1) := F19.ev 31 (by kernel_rfl); generalize a19.eval = ev at e30 e31 ⊢; simp [go_sem, mkO, r3_17, e30, e31]; done))
  refine F19.next 32 (.bool true) fun a20 F20 => ?_
  clear F19 a19
  refine tr_make r3_18 (.bool true) _ (by kernel_rfl) rfl rfl ?_ ⟨hT3.cell 0 rfl rfl, hT3.cell 0 rfl rfl, hT3.cell 0 rfl rfl, hT3.cell 4 rfl rfl, hT3.cell 5 rfl rfl, hT3.cell 6 rfl rfl⟩ ?_; (focus (have hq := (show (fun W' : World => W'.cell? ⟨b, 0, none⟩ = some (vi a.side) ∧ W'.cell? ⟨b, 1, none⟩ = some (a.sP) ∧ W'.cell? ⟨b, 2, none⟩ = some (a.sL) ∧ W'.cell? ⟨p0, 0, none⟩ = some (iv 0) ∧ W'.cell? ⟨p1, 0, none⟩ = some (iv 1) ∧ W'.cell? ⟨p2, 0, none⟩ = some (iv 2)) X3 from ⟨hT3.cell 0 rfl rfl, hT3.cell 0 rfl rfl, hT3.cell 0 rfl rfl, hT3.cell 4 rfl rfl, hT3.cell 5 rfl rfl, hT3.cell 6 rfl rfl⟩); have e29 : a20.eval (.tmp 29) = (.bool true) := F20.ev 29 (by kernel_rfl); have e32 : a20.eval (.tmp 32) = (.bool true) := F20.ev 32 (by kernel_rfl); have ec : ∀ c, a20.eval (.const c) = c := fun _ => rfl; generalize a20.eval = ev at e29 e32 ec ⊢; simp [go_sem, mkO, r3_18, ec, e29, e32]; done))
  refine F20.next 33 (.bool true) fun a21 F21 => ?_
  clear F20 a20
  refine tr_make r3_19 (.bool true) _ (by kernel_rfl) rfl rfl ?_ ⟨hT3.cell 0 rfl rfl, hT3.cell 0 rfl rfl, hT3.cell 0 rfl rfl, hT3.cell 4 rfl rfl, hT3.cell 5 rfl rfl, hT3.cell 6 rfl rfl⟩ ?_; (focus (have hq := (show (fun W' : World => W'.cell? ⟨b, 0, none⟩ = some (vi a.side) ∧ W'.cell? ⟨b, 1, none⟩ = some (a.sP) ∧ W'.cell? ⟨b, 2, none⟩ = some (a.sL) ∧ W'.cell? ⟨p0, 0, none⟩ = some (iv 0) ∧ W'.cell? ⟨p1, 0, none⟩ = some (iv 1) ∧ W'.cell? ⟨p2, 0, none⟩ = some (iv 2)) X3 from ⟨hT3.cell 0 rfl rfl, hT3.cell 0 rfl rfl, hT3.cell 0 rfl rfl, hT3.cell 4 rfl rfl, hT3.cell 5 rfl rfl, hT3.cell 6 rfl rfl⟩); have e33 : a21.eval (.tmp 33) = (.bool true) := F21.ev 33 (by kernel_rfl); generalize a21.eval = ev at e33 ⊢; simp [go_sem, mkO, r3_19, e33]; done))
  refine F21.next 34 (.bool true) fun a22 F22 => ?_
  clear F21 a21
  refine tr_take r3_20t (iv 0) (by kernel_rfl) rfl (F22.gd (by kernel_rfl)) (fun wq hq => ?_) ⟨hT3.cell 0 rfl rfl, hT3.cell 0 rfl rfl, hT3.cell 0 rfl rfl, hT3.cell 4 rfl rfl, hT3.cell 5 rfl rfl, hT3.cell 6 rfl rfl⟩ ?_; (focus (have e5 : a22.eval (.tmp 5) = (.pointer (some ⟨p0, 0, none⟩)) := F22.ev 5 (by kernel_rfl); generalize a22.eval = ev at e5 ⊢; simp [go_sem, mkO, r3_20t, e5, hq.2.2.2.1]; done))
  refine F22.next 35 (iv 0) fun a23 F23 => ?_
  clear F22 a22
  refine tr_make r3_21 (iv 2) _ (by kernel_rfl) rfl (F23.gd (by kernel_rfl)) ?_ ⟨hT3.cell 0 rfl rfl, hT3.cell 0 rfl rfl, hT3.cell 0 rfl rfl, hT3.cell 4 rfl rfl, hT3.cell 5 rfl rfl, hT3.cell 6 rfl rfl⟩ ?_; (focus (have hq := (show (fun W' : World => W'.cell? ⟨b, 0, none⟩ = some (vi a.side) ∧ W'.cell? ⟨b, 1, none⟩ = some (a.sP) ∧ W'.cell? ⟨b, 2, none⟩ = some (a.sL) ∧ W'.cell? ⟨p0, 0, none⟩ = some (iv 0) ∧ W'.cell? ⟨p1, 0, none⟩ = some (iv 1) ∧ W'.cell? ⟨p2, 0, none⟩ = some (iv 2)) X3 from ⟨hT3.cell 0 rfl rfl, hT3.cell 0 rfl rfl, hT3.cell 0 rfl rfl, hT3.cell 4 rfl rfl, hT3.cell 5 rfl rfl, hT3.cell 6 rfl rfl⟩); have e7 : a23.eval (.tmp 7) = (.pointer (some ⟨p2, 0, none⟩)) := F23.ev 7 (by kernel_rfl); generalize a23.eval = ev at e7 ⊢; simp [go_sem, mkO, r3_21, e7, hq.2.2.2.2.2]; done))
  refine F23.next 36 (iv 2) fun a24 F24 => ?_
  clear F23 a23
  refine tr_make r3_22 (.bool true) _ (by kernel_rfl) rfl (F24.gd (by kernel_rfl)) ?_ ⟨hT3.cell 0 rfl rfl, hT3.cell 0 rfl rfl, hT3.cell 0 rfl rfl, hT3.cell 4 rfl rfl, hT3.cell 5 rfl rfl, hT3.cell 6 rfl rfl⟩ ?_; (focus (have hq := (show (fun W' : World => W'.cell? ⟨b, 0, none⟩ = some (vi a.side) ∧ W'.cell? ⟨b, 1, none⟩ = some (a.sP) ∧ W'.cell? ⟨b, 2, none⟩ = some (a.sL) ∧ W'.cell? ⟨p0, 0, none⟩ = some (iv 0) ∧ W'.cell? ⟨p1, 0, none⟩ = some (iv 1) ∧ W'.cell? ⟨p2, 0, none⟩ = some (iv 2)) X3 from ⟨hT3.cell 0 rfl rfl, hT3.cell 0 rfl rfl, hT3.cell 0 rfl rfl, hT3.cell 4 rfl rfl, hT3.cell 5 rfl rfl, hT3.cell 6 rfl rfl⟩); have e35 : a24.eval (.tmp 35) = (iv 0) := F24.ev 35 (by kernel_rfl); have e36 : a24.eval (.tmp 36) = (iv 2) := F24.ev 36 (by kernel_rfl); generalize a24.eval = ev at e35 e36 ⊢; simp [go_sem, mkO, r3_22, e35, e36]; done))
  refine F24.next 37 (.bool true) fun a25 F25 => ?_
  clear F24 a24
  refine tr_make r3_23 (.bool true) _ (by kernel_rfl) rfl rfl ?_ ⟨hT3.cell 0 rfl rfl, hT3.cell 0 rfl rfl, hT3.cell 0 rfl rfl, hT3.cell 4 rfl rfl, hT3.cell 5 rfl rfl, hT3.cell 6 rfl rfl⟩ ?_; (focus (have hq := (show (fun W' : World => W'.cell? ⟨b, 0, none⟩ = some (vi a.side) ∧ W'.cell? ⟨b, 1, none⟩ = some (a.sP) ∧ W'.cell? ⟨b, 2, none⟩ = some (a.sL) ∧ W'.cell? ⟨p0, 0, none⟩ = some (iv 0) ∧ W'.cell? ⟨p1, 0, none⟩ = some (iv 1) ∧ W'.cell? ⟨p2, 0, none⟩ = some (iv 2)) X3 from ⟨hT3.cell 0 rfl rfl, hT3.cell 0 rfl rfl, hT3.cell 0 rfl rfl, hT3.cell 4 rfl rfl, hT3.cell 5 rfl rfl, hT3.cell 6 rfl rfl⟩); have e34 : a25.eval (.tmp 34) = (.bool true) := F25.ev 34 (by kernel_rfl); have e37 : a25.eval (.tmp 37) = (.bool true) := F25.ev 37 (by kernel_rfl); have ec : ∀ c, a25.eval (.const c) = c := fun _ => rfl; generalize a25.eval = ev at e34 e37 ec ⊢; simp [go_sem, mkO, r3_23, ec, e34, e37]; done))
  refine F25.next 38 (.bool true) fun a26 F26 => ?_
  clear F25 a25
  refine tr_make r3_24 (.bool true) _ (by kernel_rfl) rfl rfl ?_ ⟨hT3.cell 0 rfl rfl, hT3.cell 0 rfl rfl, hT3.cell 0 rfl rfl, hT3.cell 4 rfl rfl, hT3.cell 5 rfl rfl, hT3.cell 6 rfl rfl⟩ ?_; (focus (have hq := (show (fun W' : World => W'.cell? ⟨b, 0, none⟩ = some (vi a.side) ∧ W'.cell? ⟨b, 1, none⟩ = some (a.sP) ∧ W'.cell? ⟨b, 2, none⟩ = some (a.sL) ∧ W'.cell? ⟨p0, 0, none⟩ = some (iv 0) ∧ W'.cell? ⟨p1, 0, none⟩ = some (iv 1) ∧ W'.cell? ⟨p2, 0, none⟩ = some (iv 2)) X3 from ⟨hT3.cell 0 rfl rfl, hT3.cell 0 rfl rfl, hT3.cell 0 rfl rfl, hT3.cell 4 rfl rfl, hT3.cell 5 rfl rfl, hT3.cell 6 rfl rfl⟩); have e38 : a26.eval (.tmp 38) = (.bool true) := F26.ev 38 (by kernel_rfl); generalize a26.eval = ev at e38 ⊢; simp [go_sem, mkO, r3_24, e38]; done))
  refine F26.next 39 (.bool true) fun a27 F27 => ?_
  clear F26 a26
  refine tr_take r3_25t (iv 1) (by kernel_rfl) rfl (F27.gd (by kernel_rfl)) (fun wq hq => ?_) ⟨hT3.cell 0 rfl rfl, hT3.cell 0 rfl rfl, hT3.cell 0 rfl rfl, hT3.cell 4 rfl rfl, hT3.cell 5 rfl rfl, hT3.cell 6 rfl rfl⟩ ?_; (focus (have e6 : a27.eval (.tmp 6) = (.pointer (some ⟨p1, 0, none⟩)) := F27.ev 6 (by kernel_rfl); generalize a27.eval = ev at e6 ⊢; simp [go_sem, mkO, r3_25t, e6, hq.2.2.2.2.1]; done))
  refine F27.next 40 (iv 1) fun a28 F28 => ?_
  clear F27 a27
  refine tr_make r3_26 (iv 2) _ (by kernel_rfl) rfl (F28.gd (by kernel_rfl)) ?_ ⟨hT3.cell 0 rfl rfl, hT3.cell 0 rfl rfl, hT3.cell 0 rfl rfl, hT3.cell 4 rfl rfl, hT3.cell 5 rfl rfl, hT3.cell 6 rfl rfl⟩ ?_; (focus (have hq := (show (fun W' : World => W'.cell? ⟨b, 0, none⟩ = some (vi a.side) ∧ W'.cell? ⟨b, 1, none⟩ = some (a.sP) ∧ W'.cell? ⟨b, 2, none⟩ = some (a.sL) ∧ W'.cell? ⟨p0, 0, none⟩ = some (iv 0) ∧ W'.cell? ⟨p1, 0, none⟩ = some (iv 1) ∧ W'.cell? ⟨p2, 0, none⟩ = some (iv 2)) X3 from ⟨hT3.cell 0 rfl rfl, hT3.cell 0 rfl rfl, hT3.cell 0 rfl rfl, hT3.cell 4 rfl rfl, hT3.cell 5 rfl rfl, hT3.cell 6 rfl rfl⟩); have e7 : a28.eval (.tmp 7) = (.pointer (some ⟨p2, 0, none⟩)) := F28.ev 7 (by kernel_rfl); generalize a28.eval = ev at e7 ⊢; simp [go_sem, mkO, r3_26, e7, hq.2.2.2.2.2]; done))
  refine F28.next 41 (iv 2) fun a29 F29 => ?_
  clear F28 a28
  refine tr_make r3_27 (.bool true) _ (by kernel_rfl) rfl (F29.gd (by kernel_rfl)) ?_ ⟨hT3.cell 0 rfl rfl, hT3.cell 0 rfl rfl, hT3.cell 0 rfl rfl, hT3.cell 4 rfl rfl, hT3.cell 5 rfl rfl, hT3.cell 6 rfl rfl⟩ ?_; (focus (have hq := (show (fun W' : World => W'.cell? ⟨b, 0, none⟩ = some (vi a.side) ∧ W'.cell? ⟨b, 1, none⟩ = some (a.sP) ∧ W'.cell? ⟨b, 2, none⟩ = some (a.sL) ∧ W'.cell? ⟨p0, 0, none⟩ = some (iv 0) ∧ W'.cell? ⟨p1, 0, none⟩ = some (iv 1) ∧ W'.cell? ⟨p2, 0, none⟩ = some (iv 2)) X3 from ⟨hT3.cell 0 rfl rfl, hT3.cell 0 rfl rfl, hT3.cell 0 rfl rfl, hT3.cell 4 rfl rfl, hT3.cell 5 rfl rfl, hT3.cell 6 rfl rfl⟩); have e40 : a29.eval (.tmp 40) = (iv 1) := F29.ev 40 (by kernel_rfl); have e41 : a29.eval (.tmp 41) = (iv 2) := F29.ev 41 (by kernel_rfl); generalize a29.eval = ev at e40 e41 ⊢; simp [go_sem, mkO, r3_27, e40, e41]; done))
  refine F29.next 42 (.bool true) fun a30 F30 => ?_
  clear F29 a29
  refine tr_make r3_28 (.bool true) _ (by kernel_rfl) rfl rfl ?_ ⟨hT3.cell 0 rfl rfl, hT3.cell 0 rfl rfl, hT3.cell 0 rfl rfl, hT3.cell 4 rfl rfl, hT3.cell 5 rfl rfl, hT3.cell 6 rfl rfl⟩ ?_; (focus (have hq := (show (fun W' : World => W'.cell? ⟨b, 0, none⟩ = some (vi a.side) ∧ W'.cell? ⟨b, 1, none⟩ = some (a.sP) ∧ W'.cell? ⟨b, 2, none⟩ = some (a.sL) ∧ W'.cell? ⟨p0, 0, none⟩ = some (iv 0) ∧ W'.cell? ⟨p1, 0, none⟩ = some (iv 1) ∧ W'.cell? ⟨p2, 0, none⟩ = some (iv 2)) X3 from ⟨hT3.cell 0 rfl rfl, hT3.cell 0 rfl rfl, hT3.cell 0 rfl rfl, hT3.cell 4 rfl rfl, hT3.cell 5 rfl rfl, hT3.cell 6 rfl rfl⟩); have e39 : a30.eval (.tmp 39) = (.bool true) := F30.ev 39 (by kernel_rfl); have e42 : a30.eval (.tmp 42) = (.bool true) := F30.ev 42 (by kernel_rfl); have ec : ∀ c, a30.eval (.const c) = c := fun _ => rfl; generalize a30.eval = ev at e39 e42 ec ⊢; simp [go_sem, mkO, r3_28, ec, e39, e42]; done))
  refine F30.next 43 (.bool true) fun a31 F31 => ?_
  clear F30 a30
  refine tr_call r3_29 (f := 80) (args := #[.agg #[vi a.side, a.sP, a.sL], .bool true]) (by kernel_rfl) rfl rfl ?_ ?_
  · (have e15 : a31.eval (.tmp 15) = (.agg #[vi a.side, a.sP, a.sL]) := F31.ev 15 (by kernel_rfl); have e43 : a31.eval (.tmp 43) = (.bool true) := F31.ev 43 (by kernel_rfl); have ef : ∀ f, a31.eval (.func f) = .func (.func f) #[] #[] := fun _ => rfl; generalize a31.eval = ev at e15 e43 ef ⊢; simp [go_sem, mkO, r3_29, ef, e15, e43]; done)
  refine (open80 a ho X3 (ha.below hT3.below)).mono ?_
  rintro e X4 ⟨pb, A, c, ms, ⟨rfl, hO⟩, hbn, hy⟩
  have hT4 := hT3.step hy
  have hm0 := hT3.lt _ (List.mem_of_getElem? (i := 1) rfl)
  simp only at hm0
  have hys := hy.size
  have hbm : pb ≠ m0 ∧ (∀ ad, A = some ad → ad.block ≠ m0 ∧ ad.block < X4.heap.size) ∧ ∀ m ∈ ms, m ≠ m0 := ⟨by have := hbn.1; omega, fun ad e => ⟨by have := (hbn.2.1 ad e).1; omega, (hbn.2.1 ad e).2⟩, fun m hm => by have := hbn.2.2 m hm; omega⟩
  clear hbn hm0 hys
  refine .inl ⟨_, rfl, ⟨hT4.cell 0 rfl rfl, hT4.cell 0 rfl rfl, hT4.cell 0 rfl rfl, hT4.cell 4 rfl rfl, hT4.cell 5 rfl rfl, hT4.cell 6 rfl rfl⟩, ?_⟩
  clear hy hT3
  clear X3
  refine F31.next 44 (.pointer (some ⟨pb, 0, none⟩)) fun a32 F32 => ?_
  clear F31 a31
  refine tr_call r3_32 (f := 82) (args := #[.pointer (some ⟨pb, 0, none⟩), .iface 111 (.pointer (some ⟨m0, 0, none⟩))]) (by kernel_rfl) rfl rfl ?_ ?_
  · (have e44 : a32.eval (.tmp 44) = (.pointer (some ⟨pb, 0, none⟩)) := F32.ev 44 (by kernel_rfl); have e46 : a32.eval (.tmp 46) = (.iface 111 (.pointer (some ⟨m0, 0, none⟩))) := F32.ev 46 (by kernel_rfl); have ef : ∀ f, a32.eval (.func f) = .func (.func f) #[] #[] := fun _ => rfl; generalize a32.eval = ev at e44 e46 ef ⊢; simp [go_sem, mkO, r3_32, ef, e44, e46]; done)
  refine (area_ask ho X4 hO (ha.below hT4.below).l hAL (hT4.lt _ (List.mem_of_getElem? (i := 1) rfl)) hbm.1 hbm.2.1 hbm.2.2 (hT4.below.size) (hT4.ge _ (List.mem_of_getElem? (i := 1) rfl)) hn0 hn1 hn2 (hT4.at_ _ (List.mem_of_getElem? (i := 1) rfl)) (hT4.at_ _ (List.mem_of_getElem? (i := 4) rfl)) (hT4.at_ _ (List.mem_of_getElem? (i := 5) rfl)) (hT4.at_ _ (List.mem_of_getElem? (i := 6) rfl)) hpos).mono ?_
  rintro e X5 ⟨rfl, hM, hg⟩
  have hbk := hT4.at_ _ (List.mem_of_getElem? (i := 1) rfl)
  have hTa := hT4.put (Y := X5) (hT4.below.grown hg hT4.below.size (fun q e => by cases e; exact hT4.ge _ (List.mem_of_getElem? (i := 1) rfl))) (hT4.keep.grown hg fun j o e ho => by cases e; rw [hbk] at ho; cases ho; rfl) (i := 1) rfl (hT4.ge _ (List.mem_of_getElem? (i := 1) rfl)) (.inl rfl) (fun p hp hne => (hg.block _ (hT4.lt p hp) (by simp; exact hne)).trans (hT4.at_ p hp)) hM
  have hT5 : Tr w W X5 [(b, .cells #[vi a.side, a.sP, a.sL] 68 (0, 0)), (m0, .cells #[vi (areaL a).2.1, vi (areaL a).2.2, .bool (areaL a).1, fn79 p0 p1 p2] 121 (0, 0)), (eb, .cells #[vi 0] 29 (0, 0)), (r8, .cells #[vi 0, vi 0] 28 (0, 0)), (p0, .cells #[iv 0] 3 (0, 0)), (p1, .cells #[iv 1] 3 (0, 0)), (p2, .cells #[iv 2] 3 (0, 0))] := hTa
  refine .inl ⟨_, rfl, ⟨hT5.cell 0 rfl rfl, hT5.cell 0 rfl rfl, hT5.cell 0 rfl rfl, hT5.cell 4 rfl rfl, hT5.cell 5 rfl rfl, hT5.cell 6 rfl rfl⟩, ?_⟩
  clear hTa hM hg hbk hO hbm hT4
  clear X4
  refine F32.next 47 (.tuple #[]) fun a33 F33 => ?_
  clear F32 a32
  exact F33.out hQn hT5.keep ⟨hT5.again, (F33.fin [15, 16, 17, 18, 19, 20, 21, 22, 23, 24, 25, 26, 27, 28, 29, 30, 31, 32, 33, 34, 35, 36, 37, 38, 39, 40, 41, 42, 43, 44, 45, 46, 47] (by kernel_rfl))⟩
end Go.Proofs.Ytafmgmaelnpehaa.Tp
end

section
namespace Go.Proofs.Ytafmgmaelnpehaa.Tp
open Go.RowKit Go.TL Go.Shelf
attribute [local go_sem] Oper.semAt_some
attribute [local go_sem] run_store_func
theorem span83 (lo hi : Int) (s : Bool) (w : World) : Calls Try.prog 83 #[.agg #[vi lo, vi hi, .bool s]] w fun e w' => e = .returned (.agg #[vi lo, vi hi]) ∧ Below w.heap.size w w' := by
  have hu28 := Try.underlying28
  have hu119 := Try.underlying119
  refine calls_of_exec Try.func83 rfl ?_
  simp only [Try.ntmps83, List.size_toArray, List.length_cons, List.length_nil, Nat.reduceAdd, Nat.reduceSub, Array.replicate_succ, Array.replicate_zero, List.push_toArray, List.append_toArray, List.nil_append, List.cons_append]
  refine exec_seq (exec_region_o fun ds => ?_)
  gi_wp2
  refine eq_mk (((Keep.refl w).alloc _).alloc _) ?_
  show Exec _ _ _ _ ((w.alloc (.cells #[vi lo, vi hi, .bool s] 119)).alloc (.cells #[.int .i64 0, .int .i64 0] 28)) _
  have hB := ((Below.refl w.heap.size w).alloc (Nat.le_refl _) (.cells #[vi lo, vi hi, .bool s] 119)).alloc (by simp) (.cells #[.int .i64 0, .int .i64 0] 28)
  have h1 : ((w.alloc (.cells #[vi lo, vi hi, .bool s] 119)).alloc (.cells #[.int .i64 0, .int .i64 0] 28)).heap[w.heap.size]? = some (.cells #[vi lo, vi hi, .bool s] 119 (0, 0)) := heap_next (World.alloc_heap_new _ _) _
  have h0 : ((w.alloc (.cells #[vi lo, vi hi, .bool s] 119)).alloc (.cells #[.int .i64 0, .int .i64 0] 28)).heap[w.heap.size + 1]? = some (.cells #[.int .i64 0, .int .i64 0] 28 (0, 0)) := by
    have := World.alloc_heap_new (w.alloc (.cells #[vi lo, vi hi, .bool s] 119)) (.cells #[.int .i64 0, .int .i64 0] 28)
    rwa [World.size_alloc] at this
  generalize (w.alloc (.cells #[vi lo, vi hi, .bool s] 119)).alloc (.cells #[.int .i64 0, .int .i64 0] 28) = X at *
  have c0 := cells_get (cs := [_, _, _]) (k := 0) h1 rfl
  have c1 := cells_get (cs := [_, _, _]) (k := 1) h1 rfl
  have s1 := box_set X (w.heap.size + 1) 0 [_, _] 28 (vi lo) h0
  have s2 := box_set _ (w.heap.size + 1) 1 [_, _] 28 (vi hi) s1
  have g0 := cells_get (cs := [_, _]) (k := 0) h0 rfl
  have g1 := cells_get (cs := [_, _]) (k := 1) s1 rfl
  have f0 : X.frozen? ⟨w.heap.size + 1, 0, none⟩ = false := frozen_cells h0
  have f1 : (X.setCell ⟨w.heap.size + 1, 0, none⟩ (vi lo)).frozen? ⟨w.heap.size + 1, 1, none⟩ = false := frozen_cells s1
  refine exec_seq (exec_region_o fun ds => ?_)
  gi_wp2
  refine eq_mk (((Keep.refl _).setCell _ _).setCell _ _) ?_
  have hge : w.heap.size ≤ w.heap.size + 1 := Nat.le_succ _
  have hB2 := (hB.setCell (p := ⟨w.heap.size + 1, 0, none⟩) hge (vi lo)).setCell (p := ⟨w.heap.size + 1, 1, none⟩) hge (vi hi)
  refine exec_ret ⟨.inr rfl, fun W' hG => ?_⟩
  have g2 := hG.same _ _ s2 (.inr rfl)
  have k0 := cells_get (cs := [_, _]) (k := 0) g2 rfl
  have k1 := cells_get (cs := [_, _]) (k := 1) g2 rfl
  exact ⟨.agg #[vi lo, vi hi], by simp [results, Try.f83, go_sem, hu28, k0, k1], rfl, hB2.trans (hG.below (Nat.le_refl _) hB2.size)⟩
set_option maxRecDepth 100000 in
set_option maxHeartbeats 2000000 in
theorem Area42 (a : Pg) (ho : a.Ok) (hP : 2 < a.P.length) (w : World) (ha : a.At w) (hAL : ∀ ad, a.AL = some ad → ad.block < w.heap.size) (hpos : 0 < (truthsL a).length) : Calls Try.prog 42 #[a.val, iv 0, iv 1, iv 2] w fun e w' => e = .returned (.tuple #[.agg #[vi (areaL a).2.1, vi (areaL a).2.2], vi 0]) ∧ Below w.heap.size w w' := by
  have hmf : ∀ fn first cap w, (Instr.makeFunc fn first cap).run Try.prog w = .ok (.func fn first cap) w := fun _ _ _ _ => rfl
  have hu68 := Try.underlying68
  have hu121 := Try.underlying121
  have hu119 := Try.underlying119
  have hu28 := Try.underlying28
  refine (callsIn_wide (n := 0)).1 (callsIn_of_wp_marks Try.func42 rfl trivial ?_)
  simp only [Try.ntmps42, List.size_toArray, List.length_cons, List.length_nil, Nat.reduceAdd, Nat.reduceSub, Array.replicate_succ, Array.replicate_zero, List.push_toArray, List.append_toArray, List.nil_append, List.cons_append]
  simp only [Pg.val]
  refine split_rest fun rest hR => ?_
  gi_wp2
  have hT : Tr w w ((((((w.alloc (.cells #[vi a.side, a.sP, a.sL] 68)).alloc (.cells #[iv 0] 3)).alloc (.cells #[iv 1] 3)).alloc (.cells #[iv 2] 3)).alloc (.cells #[.int .i64 0, .int .i64 0] 28)).alloc (.cells #[.int .i64 0] 29)) [(w.heap.size + 1 + 1 + 1 + 1 + 1, .cells #[.int .i64 0] 29 (0, 0)), (w.heap.size + 1 + 1 + 1 + 1, .cells #[.int .i64 0, .int .i64 0] 28 (0, 0)), (w.heap.size + 1 + 1 + 1, .cells #[iv 2] 3 (0, 0)), (w.heap.size + 1 + 1, .cells #[iv 1] 3 (0, 0)), (w.heap.size + 1, .cells #[iv 0] 3 (0, 0)), (w.heap.size, .cells #[vi a.side, a.sP, a.sL] 68 (0, 0))] := by
    have h := (((((((Tr.start (Below.refl _ w)).alloc (.cells #[vi a.side, a.sP, a.sL] 68)).alloc (.cells #[iv 0] 3)).alloc (.cells #[iv 1] 3)).alloc (.cells #[iv 2] 3)).alloc (.cells #[.int .i64 0, .int .i64 0] 28)).alloc (.cells #[.int .i64 0] 29))
    simpa only [World.size_alloc] using h
  have hsz : ((((((w.alloc (.cells #[vi a.side, a.sP, a.sL] 68)).alloc (.cells #[iv 0] 3)).alloc (.cells #[iv 1] 3)).alloc (.cells #[iv 2] 3)).alloc (.cells #[.int .i64 0, .int .i64 0] 28)).alloc (.cells #[.int .i64 0] 29)).heap.size = w.heap.size + 1 + 1 + 1 + 1 + 1 + 1 := by simp
  refine guard_rest (lo := w.heap.size) (T := 148) (b := w.heap.size + 1 + 1 + 1 + 1 + 1) catches77 ⟨_, _, rfl⟩ (fun W => by simp [go_sem]) hT.below.size ?_
  subst hR
  generalize ((((((w.alloc (.cells #[vi a.side, a.sP, a.sL] 68)).alloc (.cells #[iv 0] 3)).alloc (.cells #[iv 1] 3)).alloc (.cells #[iv 2] 3)).alloc (.cells #[.int .i64 0, .int .i64 0] 28)).alloc (.cells #[.int .i64 0] 29)) = V at *
  refine exec_seq (exec_region_o fun ds => ?_)
  gi_wp2
  refine eq_mk ((Keep.refl _).alloc _) ?_
  clear hmf
  show Exec _ _ (Code.seq _ _) _ (V.alloc (.cells #[.int .i64 0, .int .i64 0, .bool false, fn79 (w.heap.size + 1) (w.heap.size + 1 + 1) (w.heap.size + 1 + 1 + 1)] 121)) _
  have hT1 := hT.alloc (.cells #[.int .i64 0, .int .i64 0, .bool false, fn79 (w.heap.size + 1) (w.heap.size + 1 + 1) (w.heap.size + 1 + 1 + 1)] 121)
  rw [hsz] at hT1
  try rw [hsz]
  clear hT hsz
  generalize V.alloc (.cells #[.int .i64 0, .int .i64 0, .bool false, fn79 (w.heap.size + 1) (w.heap.size + 1 + 1) (w.heap.size + 1 + 1 + 1)] 121) = X at *
  have hT2 : Tr w X X [(w.heap.size, .cells #[vi a.side, a.sP, a.sL] 68 (0, 0)), (w.heap.size + 1 + 1 + 1 + 1 + 1 + 1, .cells #[.int .i64 0, .int .i64 0, .bool false, fn79 (w.heap.size + 1) (w.heap.size + 1 + 1) (w.heap.size + 1 + 1 + 1)] 121 (0, 0)), (w.heap.size + 1 + 1 + 1 + 1 + 1, .cells #[vi 0] 29 (0, 0)), (w.heap.size + 1 + 1 + 1 + 1, .cells #[vi 0, vi 0] 28 (0, 0)), (w.heap.size + 1, .cells #[iv 0] 3 (0, 0)), (w.heap.size + 1 + 1, .cells #[iv 1] 3 (0, 0)), (w.heap.size + 1 + 1 + 1, .cells #[iv 2] 3 (0, 0))] := (hT1.pick [6, 0, 1, 2, 5, 4, 3] rfl rfl rfl).again
  clear hT1
  clear V
  refine exec_seq ((area_r3 (w := w) (W := X) (a := a) (b := w.heap.size) (m0 := w.heap.size + 1 + 1 + 1 + 1 + 1 + 1) (eb := w.heap.size + 1 + 1 + 1 + 1 + 1) (r8 := w.heap.size + 1 + 1 + 1 + 1) (p0 := w.heap.size + 1) (p1 := w.heap.size + 1 + 1) (p2 := w.heap.size + 1 + 1 + 1) ho ha hP hAL hpos (by omega) (by omega) (by omega) hT2 (by simp [Slots, Fits])).mono ?_)
  intro e t Z hh
  obtain ⟨rfl, hT, hSl⟩ := only_normal hh
  clear hh hT2
  clear X
  generalize areaL a = E at *
  obtain ⟨es, lo, hi⟩ := E
  simp only at hT ⊢
  have c0 := hT.cell 1 rfl (j := 0) rfl
  have c1 := hT.cell 1 rfl (j := 1) rfl
  have c2 := hT.cell 1 rfl (j := 2) rfl
  have z8 := hT.get 3 rfl
  have z9 := hT.get 2 rfl
  have hBZ := hT.below
  clear hT
  obtain ⟨x, hx⟩ := Slots.open_ hSl; simp only [fill, Nat.reduceAdd] at hx; subst hx; clear hSl
  show Exec _ _ (Code.seq _ _) _ _ _
  refine exec_seq (exec_region_o fun ds => ?_)
  gi_wp2_with fail
  refine ⟨trivial, rfl, (callsIn_wide.2 (span83 lo hi es Z)).mono ?_⟩
  rintro e U ⟨rfl, hu⟩
  have hBU := hBZ.trans (hu.mono hBZ.size)
  have u8 := (hu.block _ (heap_lt z8)).trans z8
  have u9 := (hu.block _ (heap_lt z9)).trans z9
  clear c0 c1 c2 z8 z9 hBZ
  have a1 := box_set U (w.heap.size + 1 + 1 + 1 + 1) 0 [_, _] 28 (vi lo) u8
  have a2 := box_set _ (w.heap.size + 1 + 1 + 1 + 1) 1 [_, _] 28 (vi hi) a1
  have g0 := cells_get (cs := [_, _]) (k := 0) u8 rfl
  have g1 := cells_get (cs := [_, _]) (k := 1) a1 rfl
  have f0 : U.frozen? ⟨w.heap.size + 1 + 1 + 1 + 1, 0, none⟩ = false := frozen_cells u8
  have f1 : (U.setCell ⟨w.heap.size + 1 + 1 + 1 + 1, 0, none⟩ (vi lo)).frozen? ⟨w.heap.size + 1 + 1 + 1 + 1, 1, none⟩ = false := frozen_cells a1
  have e9 := box_far _ (w.heap.size + 1 + 1 + 1 + 1) 1 (w.heap.size + 1 + 1 + 1 + 1 + 1) (vi hi) _ (box_far U (w.heap.size + 1 + 1 + 1 + 1) 0 (w.heap.size + 1 + 1 + 1 + 1 + 1) (vi lo) _ u9 (by omega)) (by omega)
  have g9 := cells_get (cs := [_]) (k := 0) e9 rfl
  have f9 : ((U.setCell ⟨w.heap.size + 1 + 1 + 1 + 1, 0, none⟩ (vi lo)).setCell ⟨w.heap.size + 1 + 1 + 1 + 1, 1, none⟩ (vi hi)).frozen? ⟨w.heap.size + 1 + 1 + 1 + 1 + 1, 0, none⟩ = false := frozen_cells e9
  have a9 := box_set _ (w.heap.size + 1 + 1 + 1 + 1 + 1) 0 [_] 29 (vi 0) e9
  have a8 := box_far _ (w.heap.size + 1 + 1 + 1 + 1 + 1) 0 (w.heap.size + 1 + 1 + 1 + 1) (vi 0) _ a2 (by omega)
  have hB5 := ((hBU.setCell (p := ⟨w.heap.size + 1 + 1 + 1 + 1, 0, none⟩) (by show w.heap.size ≤ w.heap.size + 1 + 1 + 1 + 1; omega) (vi lo)).setCell (p := ⟨w.heap.size + 1 + 1 + 1 + 1, 1, none⟩) (by show w.heap.size ≤ w.heap.size + 1 + 1 + 1 + 1; omega) (vi hi)).setCell (p := ⟨w.heap.size + 1 + 1 + 1 + 1 + 1, 0, none⟩) (by show w.heap.size ≤ w.heap.size + 1 + 1 + 1 + 1 + 1; omega) (vi 0)
  gi_wp2
  refine eq_mk ((((Keep.of_below hu).setCell _ _).setCell _ _).setCell _ _) ?_
  clear g0 g1 f0 f1 e9 g9 f9 a1 a2 u8 u9 hu
  show Exec _ _ Code.ret _ _ _
  refine exec_ret (.inl ⟨.inr rfl, heap_lt a9, fun W' hG => ?_⟩)
  have k8 := hG.same _ _ a8 (.inr rfl)
  have k9 := hG.same _ _ a9 (.inr rfl)
  have q0 := cells_get (cs := [_, _]) (k := 0) k8 rfl
  have q1 := cells_get (cs := [_, _]) (k := 1) k8 rfl
  have q9 := cells_get (cs := [_]) (k := 0) k9 rfl
  exact ⟨.tuple #[.agg #[vi lo, vi hi], vi 0], by simp [results, Try.f42, go_sem, hu28, q0, q1, q9], rfl, hB5.trans (hG.below (Nat.le_refl _) hB5.size)⟩
end Go.Proofs.Ytafmgmaelnpehaa.Tp
end

section
namespace Go.Proofs.Ytafmgmaelnpehaa.Tp
open Go.RowKit Go.TL Go.Shelf
attribute [local go_sem] Oper.semAt_some
attribute [local go_sem] run_store_func
def pgF (A A2 : Option Addr) (c c2 : Nat) : Pg := ⟨12, A, c, [(0, 0, 0, 0), (4, 5, 0, 0), (0, 0, 3, 3)], A2, c2, [(0, 1, 7, 7), (0, 2, 3, 3), (1, 2, 7, 8)]⟩
theorem pgF_ok (A A2 : Option Addr) (c c2 : Nat) : (pgF A A2 c c2).Ok where
  s0 := (by decide : (0 : Int) ≤ 12)
  s1 := (by decide : (12 : Int) ≤ 15)
  pl := (by decide : 3 ≤ 4)
  ll := (by decide : 3 ≤ 6)
  ps p hp := by
    show okP 12 p
    simp only [pgF, List.mem_cons, List.not_mem_nil, or_false] at hp
    rcases hp with rfl | rfl | rfl <;> exact ⟨by decide, by decide, by decide, by decide, by decide, by decide, by decide, by decide⟩
  ls p hp := by
    show okL 3 p
    simp only [pgF, List.mem_cons, List.not_mem_nil, or_false] at hp
    rcases hp with rfl | rfl | rfl <;> exact ⟨by decide, by decide, by decide, by decide, by decide, by decide, by decide, by decide⟩
theorem onL_congr {a b : Pg} (h1 : a.side = b.side) (h2 : a.P = b.P) (h3 : a.L = b.L) : ∀ (r peg : Nat) (T : List Int), onL a r peg T = onL b r peg T
  | 0, _, _ => rfl
  | r + 1, peg, T => by
    have ih := onL_congr h1 h2 h3 r
    have ih' : onL a r = onL b r := by funext peg T; exact ih peg T
    unfold onL
    rw [h1, h2, ih']
    have hs : stepL a = stepL b := by
      funext rec T peg p x y
      unfold stepL
      rw [h3]
    rw [hs]
set_option maxRecDepth 100000 in
theorem areaF0 : (areaL (pgF none none 0 0) == (true, 21, 21)) = true := by kernel_rfl
theorem areaF (A A2 : Option Addr) (c c2 : Nat) : areaL (pgF A A2 c c2) = (true, 21, 21) ∧ 0 < (truthsL (pgF A A2 c c2)).length := by
  have e : truthsL (pgF A A2 c c2) = truthsL (pgF none none 0 0) := onL_congr rfl rfl rfl _ _ _
  have h0 := areaF0
  rw [beq_iff_eq] at h0
  have e2 : areaL (pgF A A2 c c2) = areaL (pgF none none 0 0) := by
    unfold areaL
    rw [e]
  refine ⟨e2.trans h0, ?_⟩
  rw [e]
  cases h : truthsL (pgF none none 0 0) with
  | nil =>
    unfold areaL at h0
    rw [h] at h0
    cases h0
  | cons x y => simp
end Go.Proofs.Ytafmgmaelnpehaa.Tp
end

section
namespace Go.Proofs.Ytafmgmaelnpehaa.Tp
open Go.RowKit Go.TL Go.Shelf
attribute [local go_sem] Oper.semAt_some
attribute [local go_sem] run_store_func
theorem at103 (a b c d : Int) (w : World) : Calls Try.prog 103 #[vi a, vi b, vi c, vi d] w fun e w' => e = .returned (.agg #[vi a, vi b, vi c, vi d]) ∧ Below w.heap.size w w' := by
  have hu28 := Try.underlying28
  have hu70 := Try.underlying70
  refine calls_of_exec Try.func103 rfl ?_
  simp only [Try.ntmps103, List.size_toArray, List.length_cons, List.length_nil, Nat.reduceAdd, Nat.reduceSub, Array.replicate_succ, Array.replicate_zero, List.push_toArray, List.append_toArray, List.nil_append, List.cons_append]
  refine exec_seq (exec_region_o fun ds => ?_)
  gi_wp2
  refine eq_mk ((Keep.refl w).alloc _) ?_
  show Exec _ _ _ _ (w.alloc (.cells #[.int .i64 0, .int .i64 0, .int .i64 0, .int .i64 0] 70)) _
  have hB := (Below.refl w.heap.size w).alloc (Nat.le_refl _) (.cells #[.int .i64 0, .int .i64 0, .int .i64 0, .int .i64 0] 70)
  have h0 : (w.alloc (.cells #[.int .i64 0, .int .i64 0, .int .i64 0, .int .i64 0] 70)).heap[w.heap.size]? = some (.cells #[.int .i64 0, .int .i64 0, .int .i64 0, .int .i64 0] 70 (0, 0)) := World.alloc_heap_new _ _
  generalize w.alloc (.cells #[.int .i64 0, .int .i64 0, .int .i64 0, .int .i64 0] 70) = X at *
  refine exec_seq (exec_region_o fun ds => ?_)
  gi_wp2_with fail
  refine ⟨trivial, rfl, (callsIn_wide.2 (span41 a b X)).mono ?_⟩
  rintro e Z ⟨rfl, hz⟩
  gi_wp2_with fail
  refine ⟨trivial, rfl, (callsIn_wide.2 (span41 c d Z)).mono ?_⟩
  rintro e Z2 ⟨rfl, hz2⟩
  have h2 := (hz2.block _ (heap_lt ((hz.block _ (heap_lt h0)).trans h0))).trans ((hz.block _ (heap_lt h0)).trans h0)
  have hB2 := (hB.trans (hz.mono hB.size)).trans (hz2.mono (Nat.le_trans hB.size hz.size))
  have s1 := box_set Z2 w.heap.size 0 [_, _, _, _] 70 (vi a) h2
  have s2 := box_set _ w.heap.size 1 [_, _, _, _] 70 (vi b) s1
  have s3 := box_set _ w.heap.size 2 [_, _, _, _] 70 (vi c) s2
  have s4 := box_set _ w.heap.size 3 [_, _, _, _] 70 (vi d) s3
  have g0 := cells_get (cs := [_, _, _, _]) (k := 0) h2 rfl
  have g1 := cells_get (cs := [_, _, _, _]) (k := 1) s1 rfl
  have g2 := cells_get (cs := [_, _, _, _]) (k := 2) s2 rfl
  have g3 := cells_get (cs := [_, _, _, _]) (k := 3) s3 rfl
  have f0 := frozen_cells (o := 0) h2
  have f1 := frozen_cells (o := 1) s1
  have f2 := frozen_cells (o := 2) s2
  have f3 := frozen_cells (o := 3) s3
  have hn : w.heap.size ≤ w.heap.size := Nat.le_refl _
  have hB6 := (((hB2.setCell (p := ⟨w.heap.size, 0, none⟩) hn (vi a)).setCell (p := ⟨w.heap.size, 1, none⟩) hn (vi b)).setCell (p := ⟨w.heap.size, 2, none⟩) hn (vi c)).setCell (p := ⟨w.heap.size, 3, none⟩) hn (vi d)
  gi_wp2
  refine eq_mk ((((((Keep.of_below hz).trans (Keep.of_below hz2)).setCell _ _).setCell _ _).setCell _ _).setCell _ _) ?_
  refine exec_ret ⟨.inr rfl, fun W' hG => ?_⟩
  have k := hG.same _ _ s4 (.inr rfl)
  have k0 := cells_get (cs := [_, _, _, _]) (k := 0) k rfl
  have k1 := cells_get (cs := [_, _, _, _]) (k := 1) k rfl
  have k2 := cells_get (cs := [_, _, _, _]) (k := 2) k rfl
  have k3 := cells_get (cs := [_, _, _, _]) (k := 3) k rfl
  exact ⟨.agg #[vi a, vi b, vi c, vi d], by simp [results, Try.f103, go_sem, hu70, k0, k1, k2, k3], rfl, hB6.trans (hG.below (Nat.le_refl _) hB6.size)⟩
theorem rowQ_three {W : World} {g t : Nat} {a0 a1 a2 a3 b0 b1 b2 b3 c0 c1 c2 c3 : Int} (h : W.heap[g]? = some (.cells #[vi a0, vi a1, vi a2, vi a3, vi b0, vi b1, vi b2, vi b3, vi c0, vi c1, vi c2, vi c3] t (0, 0))) : RowQ W (some ⟨g, 0, none⟩) [(a0, a1, a2, a3), (b0, b1, b2, b3), (c0, c1, c2, c3)] := fun i p hp => by
  have cg := fun k v (hv : [vi a0, vi a1, vi a2, vi a3, vi b0, vi b1, vi b2, vi b3, vi c0, vi c1, vi c2, vi c3][k]? = some v) => cells_get (cs := [vi a0, vi a1, vi a2, vi a3, vi b0, vi b1, vi b2, vi b3, vi c0, vi c1, vi c2, vi c3]) (k := k) h hv
  refine ⟨_, rfl, ?_⟩
  rw [addr_at]
  match i, hp with
  | 0, hp => cases hp; exact ⟨cg 0 _ rfl, cg 1 _ rfl, cg 2 _ rfl, cg 3 _ rfl⟩
  | 1, hp => cases hp; exact ⟨cg 4 _ rfl, cg 5 _ rfl, cg 6 _ rfl, cg 7 _ rfl⟩
  | 2, hp => cases hp; exact ⟨cg 8 _ rfl, cg 9 _ rfl, cg 10 _ rfl, cg 11 _ rfl⟩
  | i + 3, hp => simp at hp
set_option maxRecDepth 100000 in
set_option maxHeartbeats 2000000 in
theorem pegs86 (w : World) : Calls Try.prog 86 #[] w fun e w' => ∃ A A2 c c2, e = .returned (pgF A A2 c c2).val ∧ (pgF A A2 c c2).At w' ∧ (∀ ad, A2 = some ad → ad.block < w'.heap.size) ∧ Below w.heap.size w w' := by
  have hu68 := Try.underlying68
  have hu65 := Try.underlying65
  have hu66 := Try.underlying66
  have hu70 := Try.underlying70
  have hu166 := Try.underlying166
  refine calls_of_exec Try.func86 rfl ?_
  simp only [Try.ntmps86, List.size_toArray, List.length_cons, List.length_nil, Nat.reduceAdd, Nat.reduceSub, Array.replicate_succ, Array.replicate_zero, List.push_toArray, List.append_toArray, List.nil_append, List.cons_append]
  refine exec_seq (exec_region_o fun ds => ?_)
  gi_wp2
  refine eq_mk ((Keep.refl w).alloc _) ?_
  show Exec _ _ (Code.seq _ _) _ (w.alloc (.cells #[.int .i64 0, .slice none 0 0, .slice none 0 0] 68)) _
  have hb0 := (Below.refl w.heap.size w).alloc (Nat.le_refl _) (.cells #[.int .i64 0, .slice none 0 0, .slice none 0 0] 68)
  have h0 : (w.alloc (.cells #[.int .i64 0, .slice none 0 0, .slice none 0 0] 68)).heap[w.heap.size]? = some (.cells #[.int .i64 0, .slice none 0 0, .slice none 0 0] 68 (0, 0)) := World.alloc_heap_new _ _
  generalize w.alloc (.cells #[.int .i64 0, .slice none 0 0, .slice none 0 0] 68) = X at *
  refine exec_seq (exec_region_o fun ds => ?_)
  gi_wp2
  refine eq_mk (Keep.refl _) ?_
  show Exec _ _ (Code.seq _ _) _ _ _
  refine exec_seq (exec_region_o fun ds => ?_)
  gi_wp2_with fail
  refine ⟨trivial, rfl, (callsIn_wide.2 (at103 0 0 0 0 X)).mono ?_⟩
  rintro e Y1 ⟨rfl, hy1⟩
  have hb1 := hb0.trans (hy1.mono hb0.size)
  gi_wp2_with fail
  refine ⟨trivial, rfl, (callsIn_wide.2 (at103 4 5 0 0 Y1)).mono ?_⟩
  rintro e Y2 ⟨rfl, hy2⟩
  have hb2 := hb1.trans (hy2.mono hb1.size)
  gi_wp2_with fail
  refine ⟨trivial, rfl, (callsIn_wide.2 (at103 0 0 3 3 Y2)).mono ?_⟩
  rintro e Y3 ⟨rfl, hy3⟩
  have hb3 := hb2.trans (hy3.mono hb2.size)
  have a1 : (Y3.alloc (.cells #[vi 0, vi 0, vi 0, vi 0, vi 4, vi 5, vi 0, vi 0, vi 0, vi 0, vi 3, vi 3] 70)).heap[Y3.heap.size]? = some (.cells #[vi 0, vi 0, vi 0, vi 0, vi 4, vi 5, vi 0, vi 0, vi 0, vi 0, vi 3, vi 3] 70 (0, 0)) := World.alloc_heap_new _ _
  have ha := hb3.alloc hb3.size (.cells #[vi 0, vi 0, vi 0, vi 0, vi 4, vi 5, vi 0, vi 0, vi 0, vi 0, vi 3, vi 3] 70)
  gi_wp2_with fail
  refine ⟨trivial, rfl, (callsIn_wide.2 (span41 7 7 (Y3.alloc (.cells #[vi 0, vi 0, vi 0, vi 0, vi 4, vi 5, vi 0, vi 0, vi 0, vi 0, vi 3, vi 3] 70)))).mono ?_⟩
  rintro e Y4 ⟨rfl, hy4⟩
  have hb4 := ha.trans (hy4.mono ha.size)
  gi_wp2_with fail
  refine ⟨trivial, rfl, (callsIn_wide.2 (span41 3 3 Y4)).mono ?_⟩
  rintro e Y5 ⟨rfl, hy5⟩
  have hb5 := hb4.trans (hy5.mono hb4.size)
  gi_wp2_with fail
  refine ⟨trivial, rfl, (callsIn_wide.2 (span41 7 8 Y5)).mono ?_⟩
  rintro e Y6 ⟨rfl, hy6⟩
  have hb6 := hb5.trans (hy6.mono hb5.size)
  have h1 := (hy1.block _ (heap_lt h0)).trans h0
  have h2 := (hy2.block _ (heap_lt h1)).trans h1
  have h3 := heap_next ((hy3.block _ (heap_lt h2)).trans h2) (.cells #[vi 0, vi 0, vi 0, vi 0, vi 4, vi 5, vi 0, vi 0, vi 0, vi 0, vi 3, vi 3] 70)
  have h4 := (hy4.block _ (heap_lt h3)).trans h3
  have h5 := (hy5.block _ (heap_lt h4)).trans h4
  have h6 := heap_next ((hy6.block _ (heap_lt h5)).trans h5) (.cells #[vi 0, vi 1, vi 7, vi 7, vi 0, vi 2, vi 3, vi 3, vi 1, vi 2, vi 7, vi 8] 166)
  have a4 := (hy4.block _ (heap_lt a1)).trans a1
  have a5 := (hy5.block _ (heap_lt a4)).trans a4
  have a6 := heap_next ((hy6.block _ (heap_lt a5)).trans a5) (.cells #[vi 0, vi 1, vi 7, vi 7, vi 0, vi 2, vi 3, vi 3, vi 1, vi 2, vi 7, vi 8] 166)
  have l6 : (Y6.alloc (.cells #[vi 0, vi 1, vi 7, vi 7, vi 0, vi 2, vi 3, vi 3, vi 1, vi 2, vi 7, vi 8] 166)).heap[Y6.heap.size]? = some (.cells #[vi 0, vi 1, vi 7, vi 7, vi 0, vi 2, vi 3, vi 3, vi 1, vi 2, vi 7, vi 8] 166 (0, 0)) := World.alloc_heap_new _ _
  have hB7 := hb6.alloc hb6.size (.cells #[vi 0, vi 1, vi 7, vi 7, vi 0, vi 2, vi 3, vi 3, vi 1, vi 2, vi 7, vi 8] 166)
  have hK := ((((((Keep.of_below hy1).trans (Keep.of_below hy2)).trans (Keep.of_below hy3)).alloc (.cells #[vi 0, vi 0, vi 0, vi 0, vi 4, vi 5, vi 0, vi 0, vi 0, vi 0, vi 3, vi 3] 70)).trans (((Keep.of_below hy4).trans (Keep.of_below hy5)).trans (Keep.of_below hy6)))).alloc (.cells #[vi 0, vi 1, vi 7, vi 7, vi 0, vi 2, vi 3, vi 3, vi 1, vi 2, vi 7, vi 8] 166)
  have hY3 : w.heap.size ≠ Y3.heap.size := by have := heap_lt ((hy3.block _ (heap_lt h2)).trans h2); omega
  have hY6 : w.heap.size ≠ Y6.heap.size := by have := heap_lt ((hy6.block _ (heap_lt h5)).trans h5); omega
  have s1 := box_set _ w.heap.size 0 [_, _, _] 68 (vi 12) h6
  have s2 := box_set _ w.heap.size 1 [_, _, _] 68 (.slice (some ⟨Y3.heap.size, 0, none⟩) 3 3) s1
  have s3 := box_set _ w.heap.size 2 [_, _, _] 68 (.slice (some ⟨Y6.heap.size, 0, none⟩) 3 3) s2
  have g0 := cells_get (cs := [_, _, _]) (k := 0) h6 rfl
  have g1 := cells_get (cs := [_, _, _]) (k := 1) s1 rfl
  have g2 := cells_get (cs := [_, _, _]) (k := 2) s2 rfl
  have f0 := frozen_cells (o := 0) h6
  have f1 := frozen_cells (o := 1) s1
  have f2 := frozen_cells (o := 2) s2
  have r1 := box_far _ w.heap.size 2 _ (.slice (some ⟨Y6.heap.size, 0, none⟩) 3 3) _ (box_far _ w.heap.size 1 _ (.slice (some ⟨Y3.heap.size, 0, none⟩) 3 3) _ (box_far _ w.heap.size 0 _ (vi 12) _ a6 hY3.symm) hY3.symm) hY3.symm
  have r2 := box_far _ w.heap.size 2 _ (.slice (some ⟨Y6.heap.size, 0, none⟩) 3 3) _ (box_far _ w.heap.size 1 _ (.slice (some ⟨Y3.heap.size, 0, none⟩) 3 3) _ (box_far _ w.heap.size 0 _ (vi 12) _ l6 hY6.symm) hY6.symm) hY6.symm
  have hn : w.heap.size ≤ w.heap.size := Nat.le_refl _
  have hB10 := ((hB7.setCell (p := ⟨w.heap.size, 0, none⟩) hn (vi 12)).setCell (p := ⟨w.heap.size, 1, none⟩) hn (.slice (some ⟨Y3.heap.size, 0, none⟩) 3 3)).setCell (p := ⟨w.heap.size, 2, none⟩) hn (.slice (some ⟨Y6.heap.size, 0, none⟩) 3 3)
  gi_wp2
  refine eq_mk (((hK.setCell _ _).setCell _ _).setCell _ _) ?_
  show Exec _ _ Code.ret _ _ _
  refine exec_ret ⟨.inr rfl, fun W' hG => ?_⟩
  have k := hG.same _ _ s3 (.inr rfl)
  have k0 := cells_get (cs := [_, _, _]) (k := 0) k rfl
  have k1 := cells_get (cs := [_, _, _]) (k := 1) k rfl
  have k2 := cells_get (cs := [_, _, _]) (k := 2) k rfl
  have m1 := hG.same _ _ r1 (.inr rfl)
  have m2 := hG.same _ _ r2 (.inr rfl)
  exact ⟨.agg #[vi 12, .slice (some ⟨Y3.heap.size, 0, none⟩) 3 3, .slice (some ⟨Y6.heap.size, 0, none⟩) 3 3], by simp [results, Try.f86, go_sem, hu68, k0, k1, k2], some ⟨Y3.heap.size, 0, none⟩, some ⟨Y6.heap.size, 0, none⟩, 3, 3, rfl, ⟨rowQ_three m1, rowQ_three m2⟩, (fun ad e => by cases e; exact heap_lt m2), hB10.trans (hG.below (Nat.le_refl _) hB10.size)⟩
end Go.Proofs.Ytafmgmaelnpehaa.Tp
end

section
namespace Go.Proofs.Ytafmgmaelnpehaa
open Go.RowKit Go.TL Go.Shelf Go.Fu
set_option maxHeartbeats 400000 in
theorem need_yes (e : Int) (w : World) : Calls Try.prog 87 #[.bool true, .int .i64 e] w fun r w' => r = .returned (.tuple #[]) ∧ w = w' := by
  go_enter Try.func87, Try.ntmps87
  go_wp2
  go_end0
  exact ⟨rfl, rfl⟩
set_option maxHeartbeats 400000 in
theorem need_no (e : Int) (w : World) : Calls Try.prog 87 #[.bool false, .int .i64 e] w fun r w' => r = .panicked [{ v := .iface 132 (.agg #[.int .i64 e]), recovered := false }] ∧ w = w' := by
  go_enter Try.func87, Try.ntmps87
  go_wp2
  exact ⟨rfl, rfl, rfl⟩
set_option maxRecDepth 100000 in
theorem caught_nil (b : Nat) (w : World) : Calls Try.prog 46 #[.nilIface, .pointer (some ⟨b, 0, none⟩)] w fun r w' => r = .returned (.tuple #[]) ∧ Below w.heap.size w w' := by
  refine calls_of_exec Try.func46 rfl ?_
  simp only [Try.ntmps46, List.size_toArray, List.length_cons, List.length_nil, Nat.reduceAdd, Nat.reduceSub, Array.replicate_succ, Array.replicate_zero, List.push_toArray, List.append_toArray, List.nil_append, List.cons_append]
  refine exec_seq (exec_seq (exec_region_o fun ds => ?_))
  gi_wp2
  refine eq_mk (Keep.refl _) ?_
  refine exec_cond (b := true) rfl (fun _ => ?_) (fun h => by cases h)
  refine exec_ret ⟨.inr rfl, fun W' hG => ⟨.tuple #[], by simp [results, Try.f46, go_sem], rfl, hG.below (Nat.le_refl _) (Nat.le_refl _)⟩⟩
theorem assert132 (v : Value) (w : World) : (Instr.typeAssert (.iface 132 v) 20 132 true).run Try.prog w = .ok (.tuple #[v, .bool true]) w := by
  simp [Instr.typeAssert, run_underlying Try.underlying132]
set_option maxRecDepth 100000 in
theorem caught_some (b : Nat) (t : TypeId) (code x : Int) (w : World) (h : Boxed w b t (.int .i64 x)) : Calls Try.prog 46 #[.iface 132 (.agg #[.int .i64 code]), .pointer (some ⟨b, 0, none⟩)] w fun r w' => r = .returned (.tuple #[]) ∧ ∃ W1, Below w.heap.size w W1 ∧ w' = W1.setCell ⟨b, 0, none⟩ (.int .i64 code) := by
  have h1 := h.cell
  have h2 := h.frozen
  have h4 := (Grow.alloc 0 w (.cells #[.int .i64 code] 132)).boxed h
  have h5 := h4.cell
  have h6 := h4.frozen
  have hA := assert132 (.agg #[.int .i64 code]) w
  go_enter Try.func46, Try.ntmps46
  go_wp2
  exact bodyPost_end (results_none rfl _ _ _) rfl ⟨rfl, _, (Below.refl _ w).alloc (Nat.le_refl _) _, rfl⟩

theorem catches45 : Catches Try.prog 45 (fun b => #[.pointer (some ⟨b, 0, none⟩)]) 132 where
  calm b W hb := by
    refine callsDIn_of_wpSIn Try.func45 rfl trivial fun c₀ cs hu => ?_
    refine wpSIn_recover_first rfl rfl rfl rfl (fun _ _ => trivial) rfl (v := .nilIface) (cs' := c₀ :: cs) (.inr ⟨by simp [recoverD, hu], rfl, rfl⟩) ?_
    refine opsIn_call (f := 46) (args := #[.nilIface, .pointer (some ⟨b, 0, none⟩)]) rfl rfl (fun _ h => by cases h) (by simp [go_sem, Try.ntmps45]) ((caught_nil b W).mono ?_)
    rintro e w' ⟨rfl, h⟩
    exact ⟨_, rfl, rfl, .returning, by rw [← hu], _, results_none rfl _ _ _, ⟨_, rfl⟩, rfl, h⟩
  caught b t x code W h := by
    refine callsDIn_of_wpSIn Try.func45 rfl trivial fun c₀ cs hu => ?_
    refine wpSIn_recover_first rfl rfl rfl rfl (fun _ _ => trivial) rfl (v := .iface 132 (.agg #[.int .i64 code])) (cs' := { c₀ with mode := .panicking [{ v := .iface 132 (.agg #[.int .i64 code]), recovered := true }] } :: cs) (.inl (by simp [recoverD, hu])) ?_
    refine opsIn_call (f := 46) (args := #[.iface 132 (.agg #[.int .i64 code]), .pointer (some ⟨b, 0, none⟩)]) rfl rfl (fun _ h => by cases h) (by simp [go_sem, Try.ntmps45]) ((caught_some b t code x W h).mono ?_)
    rintro e w' ⟨rfl, h⟩
    exact ⟨_, rfl, rfl, _, rfl, _, results_none rfl _ _ _, ⟨_, rfl⟩, rfl, h⟩
theorem catches52 : Catches Try.prog 52 (fun b => #[.pointer (some ⟨b, 0, none⟩)]) 132 where
  calm b W hb := by
    refine callsDIn_of_wpSIn Try.func52 rfl trivial fun c₀ cs hu => ?_
    refine wpSIn_recover_first rfl rfl rfl rfl (fun _ _ => trivial) rfl (v := .nilIface) (cs' := c₀ :: cs) (.inr ⟨by simp [recoverD, hu], rfl, rfl⟩) ?_
    refine opsIn_call (f := 46) (args := #[.nilIface, .pointer (some ⟨b, 0, none⟩)]) rfl rfl (fun _ h => by cases h) (by simp [go_sem, Try.ntmps52]) ((caught_nil b W).mono ?_)
    rintro e w' ⟨rfl, h⟩
    exact ⟨_, rfl, rfl, .returning, by rw [← hu], _, results_none rfl _ _ _, ⟨_, rfl⟩, rfl, h⟩
  caught b t x code W h := by
    refine callsDIn_of_wpSIn Try.func52 rfl trivial fun c₀ cs hu => ?_
    refine wpSIn_recover_first rfl rfl rfl rfl (fun _ _ => trivial) rfl (v := .iface 132 (.agg #[.int .i64 code])) (cs' := { c₀ with mode := .panicking [{ v := .iface 132 (.agg #[.int .i64 code]), recovered := true }] } :: cs) (.inl (by simp [recoverD, hu])) ?_
    refine opsIn_call (f := 46) (args := #[.iface 132 (.agg #[.int .i64 code]), .pointer (some ⟨b, 0, none⟩)]) rfl rfl (fun _ h => by cases h) (by simp [go_sem, Try.ntmps52]) ((caught_some b t code x W h).mono ?_)
    rintro e w' ⟨rfl, h⟩
    exact ⟨_, rfl, rfl, _, rfl, _, results_none rfl _ _ _, ⟨_, rfl⟩, rfl, h⟩
end Go.Proofs.Ytafmgmaelnpehaa
end

section
namespace Go.Proofs.Ytafmgmaelnpehaa
open Go.RowKit Go.TL Go.Shelf Go.Fu
attribute [local go_sem] Oper.semAt_some
set_option maxHeartbeats 400000 in
theorem all_any (a b : Int) (w : World) : Calls Try.prog 57 #[.agg #[.int .i64 a, .int .i64 b]] w fun e w' => e = .returned (.func (.func 93) #[] #[.pointer (some ⟨w.heap.size, 0, none⟩)]) ∧ w' = w.alloc (.cells #[.int .i64 a, .int .i64 b] 89) := by
  have hmf : ∀ (fn : Fn) (first cap : Array Value) (w : World), (Instr.makeFunc fn first cap).run Try.prog w = .ok (.func fn first cap) w := fun _ _ _ _ => rfl
  go_enter Try.func57, Try.ntmps57
  go_wp2

  go_ret
  exact ⟨rfl, rfl⟩

set_option maxRecDepth 100000 in
set_option maxHeartbeats 1000000 in
theorem all1_iter (B : Nat) (lo hi : Int) (n : Nat) (hn : hi + 1 - lo = n) (h1 : -1000000 ≤ lo) (h2 : hi ≤ 1000000) (w : World) (hb : Box2 w B 89 lo hi) :
    Iter Try.prog 93 #[.pointer (some ⟨B, 0, none⟩)] (fun x : Int => #[.int .i64 x]) (ints lo n) (fun k => k = B) w := by
  intro l J Jx W hW hJ hJx hY h0
  rw [ints_len] at *
  have hbW : Box2 W B 89 lo hi := (hW B rfl).trans hb
  clear hb hW
  refine callsIn_of_wp Try.func93 rfl trivial ?_ rfl
  simp only [Try.ntmps93, List.size_toArray, List.length_cons, List.length_nil, Nat.reduceAdd, Nat.reduceSub, Array.replicate_succ, Array.replicate_zero, List.push_toArray, List.append_toArray, List.nil_append, List.cons_append]
  have c0 := hbW.cell0
  gi_wp2

  gi_loopw [3] (fun v wr => ∃ k : Nat, k ≤ n ∧ v = .int .i64 (lo + k) ∧ Box2 wr B 89 lo hi ∧ J k wr) (fun v _ => (hi + 1 - intOf v).toNat)
  case atStart => exact ⟨0, Nat.zero_le _, by simp, hbW, h0⟩
  case round =>
    obtain ⟨k, hk, rfl, hbx, hj⟩ := hrel
    have c1 := hbx.cell1
    by_cases hlt : k < n
    · obtain ⟨fn, tmps, assign, body, hy, hR⟩ := hY k (by rw [ints_len]; exact hlt) wr hj
      rw [ints_get] at hy
      have ht : lo + (k : Int) ≤ hi := by omega
      gi_wp2
      refine ⟨rfl, ?_⟩
      refine hR.mono ?_
      rintro e W3 (⟨rfl, hJ3, hk3⟩ | ⟨rfl, hJx3⟩)
      · gi_wp2
        go_roundw
        case rel => exact ⟨k + 1, by omega, by rw [show lo + (k : Int) + 1 = lo + ((k + 1 : Nat) : Int) from by omega], (hk3 B rfl).trans hbx, hJ3⟩
        case measure => simp [intOf]; omega
      · gi_wp2
        refine bodyPost_ret (results_none rfl _ _ _) rfl ?_
        exact ⟨⟨_, rfl⟩, .inr hJx3⟩
    · obtain rfl : k = n := by omega
      have ht : ¬ lo + (k : Int) ≤ hi := by omega
      gi_wp2
      go_end0
      exact ⟨⟨_, rfl⟩, .inl hj⟩
end Go.Proofs.Ytafmgmaelnpehaa
end

section
namespace Go.Proofs.Ytafmgmaelnpehaa
open Go.RowKit Go.TL Go.Shelf Go.Fu
attribute [local go_sem] Oper.semAt_some
set_option maxHeartbeats 400000 in
theorem bend_any (a b c : Int) (w : World) (ha : -1000 ≤ a ∧ a ≤ 1000) (hb : -1000 ≤ b ∧ b ≤ 1000) (hc : -1000 ≤ c ∧ c ≤ 1000) : Calls Try.prog 89 #[.agg #[.int .i64 a, .int .i64 b], .int .i64 c] w fun e w' => e = .returned (.int .i64 (bendI a b c)) ∧ w' = w.alloc (.cells #[.int .i64 a, .int .i64 b] 137) := by
  obtain ⟨ha1, ha2⟩ := ha
  obtain ⟨hb1, hb2⟩ := hb
  obtain ⟨hc1, hc2⟩ := hc
  go_enter Try.func89, Try.ntmps89
  go_wp2
  all_goals
    go_ret
    exact ⟨congrArg (fun x => Ending.returned (.int .i64 x)) (by unfold bendI; split <;> omega), rfl⟩

def Spans (W : World) (A : Option Addr) (l : List (Int × Int)) : Prop :=
  l = [] ∨ ∃ g off, A = some ⟨g, off, none⟩ ∧ ∀ i (h : i < l.length), W.cell? ⟨g, off + i * 2, none⟩ = some (.int .i64 (l[i]'h).1) ∧ W.cell? ⟨g, off + i * 2 + 1, none⟩ = some (.int .i64 (l[i]'h).2)
theorem Spans.grow {B : Nat} {W W' : World} {A : Option Addr} {l : List (Int × Int)} (h : Spans W A l) (hg : Grow B W W') : Spans W' A l :=
  h.imp id fun ⟨g, off, e, hc⟩ => ⟨g, off, e, fun i hi => ⟨hg.cell (hc i hi).1, hg.cell (hc i hi).2⟩⟩
theorem Spans.stab (B : Nat) (A : Option Addr) (l : List (Int × Int)) : Stab B (fun W => Spans W A l) := fun _ _ h hg => h.grow hg
theorem Spans.at_ {W : World} {A : Option Addr} {l : List (Int × Int)} (h : Spans W A l) (hp : 0 < l.length) : ∃ g off, A = some ⟨g, off, none⟩ ∧ ∀ i (h : i < l.length), W.cell? ⟨g, off + i * 2, none⟩ = some (.int .i64 (l[i]'h).1) ∧ W.cell? ⟨g, off + i * 2 + 1, none⟩ = some (.int .i64 (l[i]'h).2) := by
  rcases h with rfl | h
  · simp at hp
  · exact h

theorem all_iter (W : World) (s : Int × Int) (h : okSpan s) : Iter Try.prog 93 #[.pointer (some ⟨W.heap.size, 0, none⟩)] (fun x : Int => #[.int .i64 x]) (spanL s) (fun k => k = W.heap.size) (W.alloc (.cells #[.int .i64 s.1, .int .i64 s.2] 89)) := by
  obtain ⟨h1, h2, h3⟩ := h
  exact all1_iter W.heap.size s.1 s.2 _ (by omega) (by omega) (by omega) _ (Box2.new W 89 s.1 s.2)

structure AtB (B0 : Nat) (A : Option Addr) (n c : Nat) (s : Nat) (st : Bool × Int × Int) (w W : World) : Prop where
  f : Boxed W B0 79 (.slice A n c)
  s : Boxed W (B0 + 1) 3 (.int .i64 s)
  o : Box2 W (B0 + 2) 28 st.2.1 st.2.2
  b : Boxed W (B0 + 3) 4 (.bool st.1)
  below : Below B0 w W
theorem AtB.stab {B B0 : Nat} {A : Option Addr} {n c s : Nat} {st : Bool × Int × Int} {w : World} (h : B0 ≤ B) (hw : B0 ≤ w.heap.size) : Stab B (fun W => AtB B0 A n c s st w W) := fun W W' h1 hg =>
  ⟨hg.boxed h1.f, hg.boxed h1.s, hg.same _ _ h1.o (.inr rfl), hg.boxed h1.b, h1.below.trans (hg.below h (Nat.le_trans hw h1.below.size))⟩

set_option maxRecDepth 100000 in
set_option maxHeartbeats 2000000 in
theorem at_any (A : Option Addr) (c : Nat) (l : List (Int × Int)) (s : Nat) (hs : 1 ≤ s) (hs2 : s + 1 < l.length) (hl : l.length ≤ 8) (hok : ∀ x ∈ l, okSpan x) (w : World) (hf : Spans w A l) :
    Calls Try.prog 48 #[.slice A l.length c, .int .i64 s] w fun e w' => e = .returned (.agg #[.int .i64 (atF l s).1, .int .i64 (atF l s).2]) ∧ Below w.heap.size w w' := by
  obtain ⟨g, off, rfl, hf2⟩ := hf.at_ (by omega)
  replace hf := hf2
  clear hf2
  have h1 : (s : Int) ≤ 8 := by omega
  have h2 : (1 : Int) ≤ s := by omega
  have h3 : l.length ≤ 100 := by omega
  have eA : l.getD (s - 1) (0, 0) = l[s - 1]'(by omega) := by simp [List.getD_eq_getElem?_getD, show s - 1 < l.length by omega]
  have eB : l.getD s (0, 0) = l[s]'(by omega) := by simp [List.getD_eq_getElem?_getD, show s < l.length by omega]
  have eC : l.getD (s + 1) (0, 0) = l[s + 1]'(by omega) := by simp [List.getD_eq_getElem?_getD, show s + 1 < l.length by omega]
  have fA := hf (s - 1) (by omega)
  have fB := hf s (by omega)
  have fC := hf (s + 1) (by omega)
  have oA := hok _ (List.getElem_mem (show s - 1 < l.length by omega))
  have oB := hok _ (List.getElem_mem (show s < l.length by omega))
  have oC := hok _ (List.getElem_mem (show s + 1 < l.length by omega))
  unfold atF
  rw [eA, eB, eC]
  clear eA eB eC
  generalize l[s - 1]'(by omega) = sA at *
  generalize l[s]'(by omega) = sB at *
  generalize l[s + 1]'(by omega) = sC at *
  have hg : g < w.heap.size := World.block_lt_of_cell? w _ fA.1
  clear hf hok
  refine calls_of_exec Try.func48 rfl ?_
  simp only [Try.ntmps48, List.size_toArray, List.length_cons, List.length_nil, Nat.reduceAdd, Nat.reduceSub, Array.replicate_succ, Array.replicate_zero, List.push_toArray, List.append_toArray, List.nil_append, List.cons_append]
  refine exec_seq (exec_region_o fun ds => ?_)
  gi_wp2
  refine eq_mk (((Keep.refl w).alloc _).alloc _ |>.alloc _) ?_
  show Exec _ _ _ _ _ _
  refine exec_seq (exec_region_o fun ds => ?_)
  gi_wp2
  refine eq_mk ((Keep.refl _).alloc _) ?_
  show Exec _ _ _ _ _ _
  refine exec_world (fun W => AtB w.heap.size (some ⟨g, off, none⟩) l.length c s (false, 0, 0) w W) ⟨?_, ?_, ?_, ?_, ?_⟩ ?_
  · (simp only [Boxed, Box2, heap_alloc_at, heap_set_at, World.size_alloc, World.size_setCell]; repeat (first | rfl | rw [if_pos (by omega)] | rw [if_neg (by omega)]))
  · (simp only [Boxed, Box2, heap_alloc_at, heap_set_at, World.size_alloc, World.size_setCell]; repeat (first | rfl | rw [if_pos (by omega)] | rw [if_neg (by omega)]))
  · (simp only [Boxed, Box2, heap_alloc_at, heap_set_at, World.size_alloc, World.size_setCell]; repeat (first | rfl | rw [if_pos (by omega)] | rw [if_neg (by omega)]))
  · (simp only [Boxed, Box2, heap_alloc_at, heap_set_at, World.size_alloc, World.size_setCell]; repeat (first | rfl | rw [if_pos (by omega)] | rw [if_neg (by omega)]))
  · exact ((((Below.refl _ w).alloc (Nat.le_refl _) _).alloc (by simp) _).alloc (by simp; omega) _).alloc (by simp; omega) _
  intro W hW
  have gA := hW.below.cell (p := ⟨g, off + (s - 1) * 2, none⟩) hg
  have gA2 := hW.below.cell (p := ⟨g, off + (s - 1) * 2 + 1, none⟩) hg
  rw [fA.1] at gA
  rw [fA.2] at gA2
  have k1 := hW.f.cell
  have k2 := hW.s.cell
  refine exec_seq (exec_seq (exec_region_o fun ds => ?_))
  gi_wp2_with fail
  refine ⟨trivial, rfl, (callsIn_wide.2 (all_any _ _ _)).mono ?_⟩
  rintro e w' ⟨rfl, rfl⟩
  gi_wp2_with fail
  refine eq_mk ((Keep.refl _).alloc _) ?_
  show Exec _ _ _ _ _ _
  refine exec_block ?_
  have hs0 := hW.below.size
  have stab : ∀ (st : Bool × Int × Int) (B : Nat), w.heap.size ≤ B → Stab B (fun V => AtB w.heap.size (some ⟨g, off, none⟩) l.length c s st w V) := fun st B hB => AtB.stab hB (Nat.le_refl _)
  have itA := all_iter W sA oA
  have hW0 : AtB w.heap.size (some ⟨g, off, none⟩) l.length c s (false, 0, 0) w (W.alloc (.cells #[.int .i64 sA.1, .int .i64 sA.2] 89)) := stab _ (W.heap.size) hs0 _ _ hW (Grow.alloc _ _ _)
  have bxA := Box2.new W 89 sA.1 sA.2
  have b3 := hW.b.lt
  have hszA : (W.alloc (.cells #[.int .i64 sA.1, .int .i64 sA.2] 89)).heap.size = W.heap.size + 1 := by simp
  generalize hWA : W.alloc (.cells #[.int .i64 sA.1, .int .i64 sA.2] 89) = WA at *
  clear hWA
  generalize hBa : W.heap.size = Ba at *
  clear hBa gA gA2 k1 k2 hW
  refine exec_range (L := spanL sA) rfl (enters_of Try.func93 (by kernel_rfl) rfl) itA (fun k hk => by omega) (fun _ => rfl)
    (fun k V => AtB w.heap.size (some ⟨g, off, none⟩) l.length c s (stA ((spanL sA).take k) (spanL sB) (spanL sC) (false, 0, 0)) w V ∧ Box2 V Ba 89 sA.1 sA.2)
    (fun _ _ => False)
    (fun k => Stab.and (stab _ _ (by omega)) (Stab.box2 _ _ _ _ _)) (fun _ => Stab.pure _ _)
    ⟨hW0, bxA⟩ ?roundA ?doneA (fun _ h => h.elim) (fun _ _ h => h.elim)
  case roundA =>
    rintro l1 k hk V hV ⟨hi, bxV⟩
    have bA := spanL_get sA oA k hk
    have st1 : stA ((spanL sA).take (k + 1)) (spanL sB) (spanL sC) (false, 0, 0) = stB ((spanL sA)[k]'hk) (spanL sB) (spanL sC) (stA ((spanL sA).take k) (spanL sB) (spanL sC) (false, 0, 0)) := foldl_take _ _ _ _ hk
    rw [st1]
    clear st1
    generalize stA ((spanL sA).take k) (spanL sB) (spanL sC) (false, 0, 0) = stk at *
    generalize (spanL sA)[k]'hk = a at *
    refine exec_region_r fun ds => ?_
    gi_wp2
    refine eq_mk ((Keep.refl _).alloc _) ⟨rfl, Same.of_below ((Below.refl _ V).alloc (Nat.le_refl _) _) (fun k hk => by omega), ?_⟩
    intro V1 hG hsz1
    have bV := hG.boxed (Boxed.new V 3 (.int .i64 a))
    have hV1 := stab _ _ (by omega) _ _ (stab _ WA.heap.size (by omega) _ _ hi (Grow.alloc _ V (.cells #[.int .i64 a] 3))) hG
    have bx1 := hG.box2 ((Grow.alloc WA.heap.size V (.cells #[.int .i64 a] 3)).box2 bxV)
    rw [World.size_alloc] at hsz1
    generalize hVs : V.heap.size = Va at *
    have hlt1 : Va < V1.heap.size := by omega
    clear hG hi bxV hVs hsz1
    clear V
    -- the second loop
    refine exec_block ?_
    have gB := hV1.below.cell (p := ⟨g, off + s * 2, none⟩) hg
    have gB2 := hV1.below.cell (p := ⟨g, off + s * 2 + 1, none⟩) hg
    rw [fB.1] at gB
    rw [fB.2] at gB2
    have m1 := hV1.f.cell
    have m2 := hV1.s.cell
    refine exec_seq (exec_region_r fun ds => ?_)
    gi_wp2_with fail
    refine ⟨trivial, rfl, (CallsIn.inRound l1 (callsIn_wide.2 (all_any _ _ _))).mono ?_⟩
    rintro e w' ⟨rfl, rfl⟩
    gi_wp2_with fail
    refine eq_mk ((Keep.refl _).alloc _) ?_
    show Exec _ _ _ _ _ _
    refine exec_block ?_
    have itB := all_iter V1 sB oB
    have hW1 := stab _ V1.heap.size (by omega) _ _ hV1 (Grow.alloc _ V1 (.cells #[.int .i64 sB.1, .int .i64 sB.2] 89))
    have bx2 := (Grow.alloc V1.heap.size V1 (.cells #[.int .i64 sB.1, .int .i64 sB.2] 89)).box2 bx1
    have bV2 := (Grow.alloc V1.heap.size V1 (.cells #[.int .i64 sB.1, .int .i64 sB.2] 89)).boxed bV
    have bxB := Box2.new V1 89 sB.1 sB.2
    have hszB : (V1.alloc (.cells #[.int .i64 sB.1, .int .i64 sB.2] 89)).heap.size = V1.heap.size + 1 := by simp
    generalize hWB : V1.alloc (.cells #[.int .i64 sB.1, .int .i64 sB.2] 89) = WB at *
    clear hWB
    generalize hBb : V1.heap.size = Bb at *
    clear gB gB2 m1 m2 hV1 bV
    refine exec_range (L := spanL sB) rfl (enters_of Try.func93 (by kernel_rfl) rfl) itB (fun k hk => by omega) (fun _ => rfl)
      (fun k V => AtB w.heap.size (some ⟨g, off, none⟩) l.length c s (stB a ((spanL sB).take k) (spanL sC) stk) w V ∧ Box2 V Ba 89 sA.1 sA.2 ∧ Boxed V Va 3 (.int .i64 a) ∧ Box2 V Bb 89 sB.1 sB.2)
      (fun _ _ => False)
      (fun k => Stab.and (stab _ _ (by omega)) (Stab.and (Stab.box2 _ _ _ _ _) (Stab.and (Stab.boxed _ _ _ _) (Stab.box2 _ _ _ _ _)))) (fun _ => Stab.pure _ _)
      ⟨hW1, bx2, bV2, bxB⟩ ?roundB ?doneB (fun _ h => h.elim) (fun _ _ h => h.elim)
    case doneB =>
      rintro V2 ⟨h1, h2, h3, h4⟩
      rw [List.take_length] at h1
      exact ⟨fun k hk => by rw [hk, show V2.heap[Ba]? = _ from h2, show V1.heap[Ba]? = _ from bx1], h1, h2⟩
    rintro l2 k hk V hV ⟨hi, bxV, bVV, bxVB⟩
    have bB := spanL_get sB oB k hk
    have st1 : stB a ((spanL sB).take (k + 1)) (spanL sC) stk = stC a ((spanL sB)[k]'hk) (spanL sC) (stB a ((spanL sB).take k) (spanL sC) stk) := foldl_take _ _ _ _ hk
    rw [st1]
    clear st1
    generalize stB a ((spanL sB).take k) (spanL sC) stk = stk2 at *
    generalize (spanL sB)[k]'hk = b at *
    refine exec_region_r fun ds => ?_
    gi_wp2
    refine eq_mk ((Keep.refl _).alloc _) ⟨rfl, Same.of_below ((Below.refl _ V).alloc (Nat.le_refl _) _) (fun k hk => by omega), ?_⟩
    intro V2 hG hsz2
    have bV2 := hG.boxed (Boxed.new V 3 (.int .i64 b))
    have gr := Grow.alloc WB.heap.size V (.cells #[.int .i64 b] 3)
    have hV2 := stab _ _ (by omega) _ _ (stab _ WB.heap.size (by omega) _ _ hi gr) hG
    have by1 := hG.box2 (gr.box2 bxV)
    have by2 := hG.boxed (gr.boxed bVV)
    have by3 := hG.box2 (gr.box2 bxVB)
    rw [World.size_alloc] at hsz2
    generalize hVs : V.heap.size = Vb at *
    have hlt2 : Vb < V2.heap.size := by omega
    clear hG hi bxV bVV bxVB hVs hsz2 gr
    clear V
    -- the third loop
    refine exec_block ?_
    have gC := hV2.below.cell (p := ⟨g, off + (s + 1) * 2, none⟩) hg
    have gC2 := hV2.below.cell (p := ⟨g, off + (s + 1) * 2 + 1, none⟩) hg
    rw [fC.1] at gC
    rw [fC.2] at gC2
    have m1 := hV2.f.cell
    have m2 := hV2.s.cell
    refine exec_seq (exec_region_r fun ds => ?_)
    gi_wp2_with fail
    refine ⟨trivial, rfl, (CallsIn.inRound l2 (callsIn_wide.2 (all_any _ _ _))).mono ?_⟩
    rintro e w' ⟨rfl, rfl⟩
    gi_wp2_with fail
    refine eq_mk ((Keep.refl _).alloc _) ?_
    show Exec _ _ _ _ _ _
    refine exec_block ?_
    have itC := all_iter V2 sC oC
    have gr := Grow.alloc V2.heap.size V2 (.cells #[.int .i64 sC.1, .int .i64 sC.2] 89)
    have hW2 := stab _ V2.heap.size (by omega) _ _ hV2 gr
    have bz1 := gr.box2 by1
    have bz2 := gr.boxed by2
    have bz3 := gr.box2 by3
    have bz4 := gr.boxed bV2
    have bxC := Box2.new V2 89 sC.1 sC.2
    have hszC : (V2.alloc (.cells #[.int .i64 sC.1, .int .i64 sC.2] 89)).heap.size = V2.heap.size + 1 := by simp
    have hltC := by2.lt
    have hltC2 := bV2.lt
    generalize hWC : V2.alloc (.cells #[.int .i64 sC.1, .int .i64 sC.2] 89) = WC at *
    clear hWC
    generalize hBc : V2.heap.size = Bc at *
    clear gC gC2 m1 m2 hV2 gr
    refine exec_range (L := spanL sC) rfl (enters_of Try.func93 (by kernel_rfl) rfl) itC (fun k hk => by omega) (fun _ => rfl)
      (fun k V => AtB w.heap.size (some ⟨g, off, none⟩) l.length c s (stC a b ((spanL sC).take k) stk2) w V ∧ Box2 V Ba 89 sA.1 sA.2 ∧ Boxed V Va 3 (.int .i64 a) ∧ Box2 V Bb 89 sB.1 sB.2 ∧ Boxed V Vb 3 (.int .i64 b) ∧ Box2 V Bc 89 sC.1 sC.2)
      (fun _ _ => False)
      (fun k => Stab.and (stab _ _ (by omega)) (Stab.and (Stab.box2 _ _ _ _ _) (Stab.and (Stab.boxed _ _ _ _) (Stab.and (Stab.box2 _ _ _ _ _) (Stab.and (Stab.boxed _ _ _ _) (Stab.box2 _ _ _ _ _)))))) (fun _ => Stab.pure _ _)
      ⟨hW2, bz1, bz2, bz3, bz4, bxC⟩ ?roundC ?doneC (fun _ h => h.elim) (fun _ _ h => h.elim)
    case doneC =>
      rintro V3 ⟨h1, h2, h3, h4, h5, h6⟩
      rw [List.take_length] at h1
      exact ⟨fun k hk => by rw [hk, show V3.heap[Bb]? = _ from h4, show V2.heap[Bb]? = _ from by3], h1, h2, h3, h4⟩
    rintro l3 k hk V hV ⟨hi, c1, c2, c3, c4, c5⟩
    have bC := spanL_get sC oC k hk
    have st1 : stC a b ((spanL sC).take (k + 1)) stk2 = step1 (stC a b ((spanL sC).take k) stk2) (bendI a b ((spanL sC)[k]'hk)) := foldl_take _ _ _ _ hk
    rw [st1]
    clear st1
    generalize stC a b ((spanL sC).take k) stk2 = stk3 at *
    generalize (spanL sC)[k]'hk = cc at *
    refine exec_region_r fun ds => ?_
    gi_wp2
    refine eq_mk (Keep.refl _) ⟨rfl, Same.refl _ _, ?_⟩
    intro V3 hG hsz3
    have d0 := stab _ _ (by omega) _ _ hi hG
    have d1 := hG.box2 c1
    have d2 := hG.boxed c2
    have d3 := hG.box2 c3
    have d4 := hG.boxed c4
    have d5 := hG.box2 c5
    clear hi c1 c2 c3 c4 c5 hG
    have e2 := d2.cell
    have e4 := d4.cell
    have hlt5 := d5.lt
    refine exec_block (exec_seq (exec_region_r fun ds => ?_))
    gi_wp2_with fail
    refine ⟨trivial, rfl, (CallsIn.inRound l3 (callsIn_wide.2 (bend_any _ _ _ _ bA bB bC))).mono ?_⟩
    rintro e w' ⟨rfl, rfl⟩
    gi_wp2_with fail
    refine eq_mk ((Keep.refl _).alloc _) ?_
    show Exec _ _ _ _ _ _
    have gr := Grow.alloc V3.heap.size V3 (.cells #[.int .i64 a, .int .i64 b] 137)
    have f0 := stab _ V3.heap.size (by omega) _ _ d0 gr
    have f1 := gr.box2 d1
    have f2 := gr.boxed d2
    have f3 := gr.box2 d3
    have f4 := gr.boxed d4
    have f5 := gr.box2 d5
    have hszD : (V3.alloc (.cells #[.int .i64 a, .int .i64 b] 137)).heap.size = V3.heap.size + 1 := by simp
    have same3 : ∀ V4 : World, Box2 V4 Bc 89 sC.1 sC.2 → Same (fun k => k = Bc) V3 V4 := fun V4 h k hk => by rw [hk, show V4.heap[Bc]? = _ from h, show V3.heap[Bc]? = _ from d5]
    generalize hWD : V3.alloc (.cells #[.int .i64 a, .int .i64 b] 137) = WD at *
    have hltD : Bc < WD.heap.size := by omega
    clear hWD hszD gr d0 d1 d2 d3 d4 d5 e2 e4
    obtain ⟨bo, lo, hi0⟩ := stk3
    obtain ⟨g1, g2, g3, g4, g5⟩ := f0
    simp only at g3 g4
    have q1 := g4.cell
    have q2 := g4.frozen
    have q3 := g3.cell0
    have q4 := g3.cell1
    have q5 := g3.frozen 0
    have q6 := g3.frozen 1
    have g4l := g4.lt
    have fin : ∀ (W4 : World) (lo' hi' x y : Int), AtB w.heap.size (some ⟨g, off, none⟩) l.length c s (true, lo', hi') w W4 → Box2 W4 Ba 89 sA.1 sA.2 → Boxed W4 Va 3 (.int .i64 a) → Box2 W4 Bb 89 sB.1 sB.2 → Boxed W4 Vb 3 (.int .i64 b) → Box2 W4 Bc 89 sC.1 sC.2 →
        step1 (bo, lo, hi0) (bendI a b cc) = (true, x, y) →
        bodyEnd (fun k => k = Bc) (fun V => AtB w.heap.size (some { block := g, off := off }) l.length c s (step1 (bo, lo, hi0) (bendI a b cc)) w V ∧ Box2 V Ba 89 sA.1 sA.2 ∧ Boxed V Va 3 (.int .i64 a) ∧ Box2 V Bb 89 sB.1 sB.2 ∧ Boxed V Vb 3 (.int .i64 b) ∧ Box2 V Bc 89 sC.1 sC.2) (fun _ _ => False) V3 .normal #[] ((W4.setCell ⟨w.heap.size + 1 + 1, 0, none⟩ (.int .i64 x)).setCell ⟨w.heap.size + 1 + 1, 1, none⟩ (.int .i64 y)) := by
      intro W4 lo' hi' x y ⟨u1, u2, u3, u4, u5⟩ o1 o2 o3 o4 o5 hst
      rw [hst]
      simp only at u3 u4
      refine ⟨same3 _ ?_, ⟨?_, ?_, ?_, ?_, ?_⟩, ?_, ?_, ?_, ?_, ?_⟩
      · (simp only [Boxed, Box2, heap_alloc_at, heap_set_at, World.size_alloc, World.size_setCell]; repeat (first | rfl | exact o5 | rw [if_pos (by omega)] | rw [if_neg (by omega)] | rw [show _ = _ from o5]))
      · (simp only [Boxed, Box2, heap_alloc_at, heap_set_at, World.size_alloc, World.size_setCell]; repeat (first | rfl | exact u1 | rw [if_pos (by omega)] | rw [if_neg (by omega)] | rw [show _ = _ from u1]))
      · (simp only [Boxed, Box2, heap_alloc_at, heap_set_at, World.size_alloc, World.size_setCell]; repeat (first | rfl | exact u2 | rw [if_pos (by omega)] | rw [if_neg (by omega)] | rw [show _ = _ from u2]))
      · (simp only [Boxed, Box2, heap_alloc_at, heap_set_at, World.size_alloc, World.size_setCell]; repeat (first | rfl | exact u3 | rw [if_pos (by omega)] | rw [if_neg (by omega)] | rw [show _ = _ from u3]))
      · (simp only [Boxed, Box2, heap_alloc_at, heap_set_at, World.size_alloc, World.size_setCell]; repeat (first | rfl | exact u4 | rw [if_pos (by omega)] | rw [if_neg (by omega)] | rw [show _ = _ from u4]))
      · exact (u5.setCell (by simp; omega) _).setCell (by simp; omega) _
      · (simp only [Boxed, Box2, heap_alloc_at, heap_set_at, World.size_alloc, World.size_setCell]; repeat (first | rfl | exact o1 | rw [if_pos (by omega)] | rw [if_neg (by omega)] | rw [show _ = _ from o1]))
      · (simp only [Boxed, Box2, heap_alloc_at, heap_set_at, World.size_alloc, World.size_setCell]; repeat (first | rfl | exact o2 | rw [if_pos (by omega)] | rw [if_neg (by omega)] | rw [show _ = _ from o2]))
      · (simp only [Boxed, Box2, heap_alloc_at, heap_set_at, World.size_alloc, World.size_setCell]; repeat (first | rfl | exact o3 | rw [if_pos (by omega)] | rw [if_neg (by omega)] | rw [show _ = _ from o3]))
      · (simp only [Boxed, Box2, heap_alloc_at, heap_set_at, World.size_alloc, World.size_setCell]; repeat (first | rfl | exact o4 | rw [if_pos (by omega)] | rw [if_neg (by omega)] | rw [show _ = _ from o4]))
      · (simp only [Boxed, Box2, heap_alloc_at, heap_set_at, World.size_alloc, World.size_setCell]; repeat (first | rfl | exact o5 | rw [if_pos (by omega)] | rw [if_neg (by omega)] | rw [show _ = _ from o5]))
    cases bo with
    | false =>
      refine exec_seq (exec_seq (exec_region_r fun ds => ?_))
      gi_wp2
      refine eq_mk (Keep.refl _) ?_
      refine exec_cond (b := true) rfl (fun _ => ?_) (fun h => by cases h)
      refine exec_region_r fun ds => ?_
      gi_wp2
      refine eq_mk (((Keep.refl _).setCell _ _).setCell _ _ |>.setCell _ _) ?_
      show Exec _ _ _ _ _ _
      refine exec_world (fun W => AtB w.heap.size (some ⟨g, off, none⟩) l.length c s (true, bendI a b cc, bendI a b cc) w W ∧ Box2 W Ba 89 sA.1 sA.2 ∧ Boxed W Va 3 (.int .i64 a) ∧ Box2 W Bb 89 sB.1 sB.2 ∧ Boxed W Vb 3 (.int .i64 b) ∧ Box2 W Bc 89 sC.1 sC.2) ⟨⟨?_, ?_, ?_, ?_, ?_⟩, ?_, ?_, ?_, ?_, ?_⟩ ?_
      · (simp only [Boxed, Box2, heap_alloc_at, heap_set_at, World.size_alloc, World.size_setCell]; repeat (first | rfl | exact g1 | rw [if_pos (by omega)] | rw [if_neg (by omega)] | rw [show _ = _ from g1]))
      · (simp only [Boxed, Box2, heap_alloc_at, heap_set_at, World.size_alloc, World.size_setCell]; repeat (first | rfl | exact g2 | rw [if_pos (by omega)] | rw [if_neg (by omega)] | rw [show _ = _ from g2]))
      · (simp only [Boxed, Box2, heap_alloc_at, heap_set_at, World.size_alloc, World.size_setCell]; repeat (first | rfl | exact g3 | rw [if_pos (by omega)] | rw [if_neg (by omega)] | rw [show _ = _ from g3]))
      · (simp only [Boxed, Box2, heap_alloc_at, heap_set_at, World.size_alloc, World.size_setCell]; repeat (first | rfl | exact g4 | rw [if_pos (by omega)] | rw [if_neg (by omega)] | rw [show _ = _ from g4]))
      · exact ((g5.setCell (by simp; omega) _).setCell (by simp; omega) _).setCell (by simp; omega) _
      · (simp only [Boxed, Box2, heap_alloc_at, heap_set_at, World.size_alloc, World.size_setCell]; repeat (first | rfl | exact f1 | rw [if_pos (by omega)] | rw [if_neg (by omega)] | rw [show _ = _ from f1]))
      · (simp only [Boxed, Box2, heap_alloc_at, heap_set_at, World.size_alloc, World.size_setCell]; repeat (first | rfl | exact f2 | rw [if_pos (by omega)] | rw [if_neg (by omega)] | rw [show _ = _ from f2]))
      · (simp only [Boxed, Box2, heap_alloc_at, heap_set_at, World.size_alloc, World.size_setCell]; repeat (first | rfl | exact f3 | rw [if_pos (by omega)] | rw [if_neg (by omega)] | rw [show _ = _ from f3]))
      · (simp only [Boxed, Box2, heap_alloc_at, heap_set_at, World.size_alloc, World.size_setCell]; repeat (first | rfl | exact f4 | rw [if_pos (by omega)] | rw [if_neg (by omega)] | rw [show _ = _ from f4]))
      · (simp only [Boxed, Box2, heap_alloc_at, heap_set_at, World.size_alloc, World.size_setCell]; repeat (first | rfl | exact f5 | rw [if_pos (by omega)] | rw [if_neg (by omega)] | rw [show _ = _ from f5]))
      rintro W4 ⟨o0, o1, o2, o3, o4, o5⟩
      have r3 := o0.o.cell0
      have r4 := o0.o.cell1
      have r5 := o0.o.frozen 0
      have r6 := o0.o.frozen 1
      refine exec_region_r fun ds => ?_
      gi_wp2
      refine eq_mk ((Keep.refl _).setCell _ _ |>.setCell _ _) ?_
      exact fin _ _ _ _ _ o0 o1 o2 o3 o4 o5 rfl
    | true =>
      refine exec_seq (exec_seq (exec_region_r fun ds => ?_))
      gi_wp2
      refine eq_mk (Keep.refl _) ?_
      refine exec_cond (b := false) rfl (fun h => by cases h) (fun _ => ?_)
      refine exec_skip ?_
      show Exec _ _ _ _ _ _
      refine exec_region_r fun ds => ?_
      gi_wp2
      all_goals
        refine eq_mk ((Keep.refl _).setCell _ _ |>.setCell _ _) ?_
        refine fin _ _ _ _ _ ⟨g1, g2, g3, g4, g5⟩ f1 f2 f3 f4 f5 ?_
        simp only [step1, if_true, Prod.mk.injEq, true_and]
        exact ⟨by split <;> omega, by split <;> omega⟩
  case doneA =>
    rintro V2 ⟨hi, h2⟩
    rw [List.take_length] at hi
    generalize stA (spanL sA) (spanL sB) (spanL sC) (false, 0, 0) = st at *
    have r3 := hi.o.cell0
    have r4 := hi.o.cell1
    have r5 := hi.o.frozen 0
    have r6 := hi.o.frozen 1
    have hb := hi.below
    have hlt := hi.o.lt
    have ho := hi.o
    show Exec _ _ _ _ _ _
    refine exec_seq (exec_region_o fun ds => ?_)
    gi_wp2
    refine eq_mk ((Keep.refl _).setCell _ _ |>.setCell _ _) ?_
    refine exec_ret ⟨.inr rfl, fun W' hG => ?_⟩
    have hb2 : Box2 W' (w.heap.size + 2) 28 st.2.1 st.2.2 := hG.box2 (by (simp only [Boxed, Box2, heap_alloc_at, heap_set_at, World.size_alloc, World.size_setCell]; repeat (first | rfl | exact ho | rw [if_pos (by omega)] | rw [if_neg (by omega)] | rw [show _ = _ from ho])))
    have c0 := hb2.cell0
    have c1 := hb2.cell1
    refine ⟨.agg #[.int .i64 st.2.1, .int .i64 st.2.2], ?_, rfl, ((hb.setCell (by simp; omega) _).setCell (by simp; omega) _).trans (hG.below (Nat.le_refl _) (by simp; omega))⟩
    simp [results, Try.f48, go_sem, c0, c1]
end Go.Proofs.Ytafmgmaelnpehaa
end

section
namespace Go.Proofs.Ytafmgmaelnpehaa.PFurrowAsks
open Go.RowKit Go.Proofs.YtafmgmaelnpehaaW.PrintWords Go.Proofs.YtafmgmaelnpehaaW.PrintLast Go.Proofs.YtafmgmaelnpehaaW.PrintMore
attribute [local go_sem] max2_int min2_int max_two min_two max_three min_three max_four min_four   -- for this text's walks alone



def errW : Option Int → Value
  | none => .nilIface
  | some c => .iface 0 (.int .i64 c)
theorem errW_none : errW none = .nilIface := rfl
theorem errW_some (c : Int) : errW (some c) = .iface 0 (.int .i64 c) := rfl

theorem info28 : (Try.prog.info? 28).map (fun i => (i.zero, i.size, i.bytes)) = some (some (.agg #[(.int .i64 0), (.int .i64 0)]), 2, 16) := by kernel_rfl
-- the values' own types
/-! #### struct type 28 -/
structure S28 where
  f0 : Int
  f1 : Int
def z28 : S28 := ⟨(0 : Int), (0 : Int)⟩
def k28 : Kd S28 := Kd.iso (Kd.pair (Kd.int .i64) (Kd.int .i64)) (fun x : S28 => (x.f0, x.f1))
theorem k28_open {w : World} {x : S28} {cs : List Value} (h : k28.K w x cs) : cs = [.int .i64 x.f0, .int .i64 x.f1] := by
  obtain ⟨_, _, rfl, rfl, rfl⟩ := h
  exact rfl
theorem k28_mk (w : World) (x : S28)  : k28.K w x [.int .i64 x.f0, .int .i64 x.f1] := ⟨[.int .i64 x.f0], [.int .i64 x.f1], rfl, rfl, rfl⟩
theorem k28_mkM (w : World) (base : Nat) (ok : Nat → Prop) (x : S28)  : k28.M w base ok x [.int .i64 x.f0, .int .i64 x.f1] := ⟨[.int .i64 x.f0], [.int .i64 x.f1], rfl, rfl, rfl⟩
def rd_T28 (xs : List S28) (i : Int) : S28 := xs.getD i.toNat z28
theorem at_T28 {w : World} {A : Option Addr} {n : Nat} {xs : List S28} (h : Kd.C k28 w A n xs) (i : Int) (h0 : 0 ≤ i) (h1 : i < n) : ∃ ad , A = some ad ∧ w.cell? (ad.add (i.toNat * 2)) = some (.int .i64 (rd_T28 xs i).f0) ∧ w.cell? ⟨(ad.add (i.toNat * 2)).block, (ad.add (i.toNat * 2)).off + 1, none⟩ = some (.int .i64 (rd_T28 xs i).f1) := by
  obtain ⟨ad, c, e, _, hK, hc0⟩ := Kd.C_get h z28 i h0 h1
  have hc : ∀ j u, c[j]? = some u → w.cell? (ad.add (i.toNat * 2 + j)) = some u := hc0
  obtain rfl := k28_open hK
  exact ⟨ad, e, hc 0 _ rfl, by rw [← add_field _ _ 1 (by omega)]; exact hc 1 _ rfl⟩

end Go.Proofs.Ytafmgmaelnpehaa.PFurrowAsks
end

section
namespace Go.Proofs.Ytafmgmaelnpehaa.PFurrowAsks
open Go.RowKit Go.Proofs.YtafmgmaelnpehaaW.PrintWords Go.Proofs.YtafmgmaelnpehaaW.PrintLast Go.Proofs.YtafmgmaelnpehaaW.PrintMore
attribute [local go_sem] max2_int min2_int max_two min_two max_three min_three max_four min_four   -- for this text's walks alone

/-! ### furrow_isInner: function 53 -/
def furrow_isInner.f (l0_0 : List (S28)) (l0_1 : List (S28)) (l0_2 : List (S28)) (a1 : Int) : Option (Bool) := if 0 < a1 then (some (decide (a1 < (wrap64 ((l0_0.length : Int) - 1))))) else (some false)
set_option maxHeartbeats 8000000 in
set_option maxRecDepth 100000 in
theorem furrow_isInner.calls (A0_0 : Option Addr) (c0_0 : Nat) (l0_0 : List (S28)) (A0_1 : Option Addr) (c0_1 : Nat) (l0_1 : List (S28)) (A0_2 : Option Addr) (c0_2 : Nat) (l0_2 : List (S28)) (a1 : Int) (r : Bool) (w : World) (hr0_0 : Kd.C k28 w A0_0 l0_0.length l0_0) (hc0_0 : l0_0.length ≤ c0_0) (hr0_1 : Kd.C k28 w A0_1 l0_1.length l0_1) (hc0_1 : l0_1.length ≤ c0_1) (hr0_2 : Kd.C k28 w A0_2 l0_2.length l0_2) (hc0_2 : l0_2.length ≤ c0_2) (h : furrow_isInner.f l0_0 l0_1 l0_2 a1 = some r) :
    Calls Try.prog 53 #[.agg #[.slice A0_0 l0_0.length c0_0, .slice A0_1 l0_1.length c0_1, .slice A0_2 l0_2.length c0_2], .int .i64 a1] w fun e w' => e = .returned (.bool r) ∧ Below w.heap.size w w' := by
  have hu24 := Try.underlying24
  have HR0_0 := Aside0.mk hr0_0
  have HC0_0 := Aside0.mk hc0_0
  clear hr0_0 hc0_0
  have HR0_1 := Aside0.mk hr0_1
  have HC0_1 := Aside0.mk hc0_1
  clear hr0_1 hc0_1
  have HR0_2 := Aside0.mk hr0_2
  have HC0_2 := Aside0.mk hc0_2
  clear hr0_2 hc0_2
  have HB := Aside0.mk (Below.refl w.heap.size w)
  have H : (if 0 < a1 then (some (decide (a1 < (wrap64 ((l0_0.length : Int) - 1))))) else (some false)) = some r := h
  clear h
  by_cases c3 : 0 < a1
  · rw [if_pos c3] at H
    have c3b0 : decide (0 < a1) = true := decide_eq_true c3
    clear c3
    obtain rfl := Option.some.inj H
    go_enter Try.func53, Try.ntmps53
    go_wp2_with (first | ((with_reducible refine gate_dst (N := 2) rfl ?_); (try (refine gate_guard (by rfl) ?_; dsimp only)); refine box_event ?hg (N := 2) ?hd (cs := #[.slice A0_0 l0_0.length c0_0, .slice A0_1 l0_1.length c0_1, .slice A0_2 l0_2.length c0_2]) (t := 24) ?hr ?_; (case hd => rfl); (case hg => rfl); (case hr => first | (go_simp; done) | (go_simp; rfl)); intro gb123 hg w4 hbox hb; have n0_ := Aside0.mk (below_step (by repeat (first | (with_reducible first | exact HB.out | apply below_alloc | apply pw_below_drewN | apply below_drew1) | exact HB.out)) hb); have n1_ := Aside0.mk (hbox); have n2_ := Aside0.mk ((by rw [hg]; exact (below_size (by repeat (first | (with_reducible first | exact HB.out | apply below_alloc | apply pw_below_drewN | apply below_drew1) | exact HB.out))) : w.heap.size ≤ gb123)); have n3_ := Aside0.mk ((by rw [hg]; exact (below_size (by repeat (first | (with_reducible first | exact HB.out | apply below_alloc | apply pw_below_drewN | apply below_drew1) | exact HB.out))) : w.heap.size ≤ gb123)); clear HB; have HB := n0_; have BK123 := n1_; have GW123 := n2_; have GE123 := n3_; clear n0_ n1_ n2_ n3_; clear hb hbox hg; have hcz5_0 : w4.cell? ⟨gb123, 0, none⟩ = some (.slice A0_0 l0_0.length c0_0) := (blk_cell BK123.out 0).trans rfl; have hcz5_1 : w4.cell? ⟨gb123, 1, none⟩ = some (.slice A0_1 l0_1.length c0_1) := (blk_cell BK123.out 1).trans rfl; have hcz5_2 : w4.cell? ⟨gb123, 2, none⟩ = some (.slice A0_2 l0_2.length c0_2) := (blk_cell BK123.out 2).trans rfl; have hfz5_0 := blk_frozen BK123.out 0; have hfz5_1 := blk_frozen BK123.out 1; have hfz5_2 := blk_frozen BK123.out 2))
    go_ret
    exact ⟨by first | rfl | (simp [errW_none, errW_some] <;> rfl) | (simp [*, errW_none, errW_some] <;> rfl), by repeat (first | (with_reducible first | exact HB.out | apply below_alloc | apply pw_below_drewN | apply below_drew1 | refine below_set ?_ GE123.out) | exact HB.out)⟩
  · rw [if_neg c3] at H
    have c3b0 : decide (0 < a1) = false := decide_eq_false c3
    clear c3
    obtain rfl := Option.some.inj H
    go_enter Try.func53, Try.ntmps53
    go_wp2_with (first | ((with_reducible refine gate_dst (N := 2) rfl ?_); (try (refine gate_guard (by rfl) ?_; dsimp only)); refine box_event ?hg (N := 2) ?hd (cs := #[.slice A0_0 l0_0.length c0_0, .slice A0_1 l0_1.length c0_1, .slice A0_2 l0_2.length c0_2]) (t := 24) ?hr ?_; (case hd => rfl); (case hg => rfl); (case hr => first | (go_simp; done) | (go_simp; rfl)); intro gb123 hg w6 hbox hb; have n0_ := Aside0.mk (below_step (by repeat (first | (with_reducible first | exact HB.out | apply below_alloc | apply pw_below_drewN | apply below_drew1) | exact HB.out)) hb); have n1_ := Aside0.mk (hbox); have n2_ := Aside0.mk ((by rw [hg]; exact (below_size (by repeat (first | (with_reducible first | exact HB.out | apply below_alloc | apply pw_below_drewN | apply below_drew1) | exact HB.out))) : w.heap.size ≤ gb123)); have n3_ := Aside0.mk ((by rw [hg]; exact (below_size (by repeat (first | (with_reducible first | exact HB.out | apply below_alloc | apply pw_below_drewN | apply below_drew1) | exact HB.out))) : w.heap.size ≤ gb123)); clear HB; have HB := n0_; have BK123 := n1_; have GW123 := n2_; have GE123 := n3_; clear n0_ n1_ n2_ n3_; clear hb hbox hg))
    go_ret
    exact ⟨by first | rfl | (simp [errW_none, errW_some] <;> rfl) | (simp [*, errW_none, errW_some] <;> rfl), by repeat (first | (with_reducible first | exact HB.out | apply below_alloc | apply pw_below_drewN | apply below_drew1 | refine below_set ?_ GE123.out) | exact HB.out)⟩

end Go.Proofs.Ytafmgmaelnpehaa.PFurrowAsks
end

section
namespace Go.Proofs.Ytafmgmaelnpehaa.PFurrowAsks
open Go.RowKit Go.Proofs.YtafmgmaelnpehaaW.PrintWords Go.Proofs.YtafmgmaelnpehaaW.PrintLast Go.Proofs.YtafmgmaelnpehaaW.PrintMore
attribute [local go_sem] max2_int min2_int max_two min_two max_three min_three max_four min_four   -- for this text's walks alone

/-! ### bits_OnesCount64: function 96 -/
def bits_OnesCount64.f (a0 : Int) : Option (Int) := some (Go.bits .and .i64 (wrap64 (IntKind.u64.wrap ((IntKind.u64.wrap ((IntKind.u64.wrap ((Go.bits .and .u64 (IntKind.u64.wrap (((IntKind.u64.wrap ((Go.bits .and .u64 ((IntKind.u64.wrap ((Go.bits .and .u64 (a0 / 2) 6148914691236517205) + (Go.bits .and .u64 a0 6148914691236517205))) / 4) 3689348814741910323) + (Go.bits .and .u64 (IntKind.u64.wrap ((Go.bits .and .u64 (a0 / 2) 6148914691236517205) + (Go.bits .and .u64 a0 6148914691236517205))) 3689348814741910323))) / 16) + (IntKind.u64.wrap ((Go.bits .and .u64 ((IntKind.u64.wrap ((Go.bits .and .u64 (a0 / 2) 6148914691236517205) + (Go.bits .and .u64 a0 6148914691236517205))) / 4) 3689348814741910323) + (Go.bits .and .u64 (IntKind.u64.wrap ((Go.bits .and .u64 (a0 / 2) 6148914691236517205) + (Go.bits .and .u64 a0 6148914691236517205))) 3689348814741910323))))) 1085102592571150095) + ((Go.bits .and .u64 (IntKind.u64.wrap (((IntKind.u64.wrap ((Go.bits .and .u64 ((IntKind.u64.wrap ((Go.bits .and .u64 (a0 / 2) 6148914691236517205) + (Go.bits .and .u64 a0 6148914691236517205))) / 4) 3689348814741910323) + (Go.bits .and .u64 (IntKind.u64.wrap ((Go.bits .and .u64 (a0 / 2) 6148914691236517205) + (Go.bits .and .u64 a0 6148914691236517205))) 3689348814741910323))) / 16) + (IntKind.u64.wrap ((Go.bits .and .u64 ((IntKind.u64.wrap ((Go.bits .and .u64 (a0 / 2) 6148914691236517205) + (Go.bits .and .u64 a0 6148914691236517205))) / 4) 3689348814741910323) + (Go.bits .and .u64 (IntKind.u64.wrap ((Go.bits .and .u64 (a0 / 2) 6148914691236517205) + (Go.bits .and .u64 a0 6148914691236517205))) 3689348814741910323))))) 1085102592571150095) / 256))) + ((IntKind.u64.wrap ((Go.bits .and .u64 (IntKind.u64.wrap (((IntKind.u64.wrap ((Go.bits .and .u64 ((IntKind.u64.wrap ((Go.bits .and .u64 (a0 / 2) 6148914691236517205) + (Go.bits .and .u64 a0 6148914691236517205))) / 4) 3689348814741910323) + (Go.bits .and .u64 (IntKind.u64.wrap ((Go.bits .and .u64 (a0 / 2) 6148914691236517205) + (Go.bits .and .u64 a0 6148914691236517205))) 3689348814741910323))) / 16) + (IntKind.u64.wrap ((Go.bits .and .u64 ((IntKind.u64.wrap ((Go.bits .and .u64 (a0 / 2) 6148914691236517205) + (Go.bits .and .u64 a0 6148914691236517205))) / 4) 3689348814741910323) + (Go.bits .and .u64 (IntKind.u64.wrap ((Go.bits .and .u64 (a0 / 2) 6148914691236517205) + (Go.bits .and .u64 a0 6148914691236517205))) 3689348814741910323))))) 1085102592571150095) + ((Go.bits .and .u64 (IntKind.u64.wrap (((IntKind.u64.wrap ((Go.bits .and .u64 ((IntKind.u64.wrap ((Go.bits .and .u64 (a0 / 2) 6148914691236517205) + (Go.bits .and .u64 a0 6148914691236517205))) / 4) 3689348814741910323) + (Go.bits .and .u64 (IntKind.u64.wrap ((Go.bits .and .u64 (a0 / 2) 6148914691236517205) + (Go.bits .and .u64 a0 6148914691236517205))) 3689348814741910323))) / 16) + (IntKind.u64.wrap ((Go.bits .and .u64 ((IntKind.u64.wrap ((Go.bits .and .u64 (a0 / 2) 6148914691236517205) + (Go.bits .and .u64 a0 6148914691236517205))) / 4) 3689348814741910323) + (Go.bits .and .u64 (IntKind.u64.wrap ((Go.bits .and .u64 (a0 / 2) 6148914691236517205) + (Go.bits .and .u64 a0 6148914691236517205))) 3689348814741910323))))) 1085102592571150095) / 256))) / 65536))) + ((IntKind.u64.wrap ((IntKind.u64.wrap ((Go.bits .and .u64 (IntKind.u64.wrap (((IntKind.u64.wrap ((Go.bits .and .u64 ((IntKind.u64.wrap ((Go.bits .and .u64 (a0 / 2) 6148914691236517205) + (Go.bits .and .u64 a0 6148914691236517205))) / 4) 3689348814741910323) + (Go.bits .and .u64 (IntKind.u64.wrap ((Go.bits .and .u64 (a0 / 2) 6148914691236517205) + (Go.bits .and .u64 a0 6148914691236517205))) 3689348814741910323))) / 16) + (IntKind.u64.wrap ((Go.bits .and .u64 ((IntKind.u64.wrap ((Go.bits .and .u64 (a0 / 2) 6148914691236517205) + (Go.bits .and .u64 a0 6148914691236517205))) / 4) 3689348814741910323) + (Go.bits .and .u64 (IntKind.u64.wrap ((Go.bits .and .u64 (a0 / 2) 6148914691236517205) + (Go.bits .and .u64 a0 6148914691236517205))) 3689348814741910323))))) 1085102592571150095) + ((Go.bits .and .u64 (IntKind.u64.wrap (((IntKind.u64.wrap ((Go.bits .and .u64 ((IntKind.u64.wrap ((Go.bits .and .u64 (a0 / 2) 6148914691236517205) + (Go.bits .and .u64 a0 6148914691236517205))) / 4) 3689348814741910323) + (Go.bits .and .u64 (IntKind.u64.wrap ((Go.bits .and .u64 (a0 / 2) 6148914691236517205) + (Go.bits .and .u64 a0 6148914691236517205))) 3689348814741910323))) / 16) + (IntKind.u64.wrap ((Go.bits .and .u64 ((IntKind.u64.wrap ((Go.bits .and .u64 (a0 / 2) 6148914691236517205) + (Go.bits .and .u64 a0 6148914691236517205))) / 4) 3689348814741910323) + (Go.bits .and .u64 (IntKind.u64.wrap ((Go.bits .and .u64 (a0 / 2) 6148914691236517205) + (Go.bits .and .u64 a0 6148914691236517205))) 3689348814741910323))))) 1085102592571150095) / 256))) + ((IntKind.u64.wrap ((Go.bits .and .u64 (IntKind.u64.wrap (((IntKind.u64.wrap ((Go.bits .and .u64 ((IntKind.u64.wrap ((Go.bits .and .u64 (a0 / 2) 6148914691236517205) + (Go.bits .and .u64 a0 6148914691236517205))) / 4) 3689348814741910323) + (Go.bits .and .u64 (IntKind.u64.wrap ((Go.bits .and .u64 (a0 / 2) 6148914691236517205) + (Go.bits .and .u64 a0 6148914691236517205))) 3689348814741910323))) / 16) + (IntKind.u64.wrap ((Go.bits .and .u64 ((IntKind.u64.wrap ((Go.bits .and .u64 (a0 / 2) 6148914691236517205) + (Go.bits .and .u64 a0 6148914691236517205))) / 4) 3689348814741910323) + (Go.bits .and .u64 (IntKind.u64.wrap ((Go.bits .and .u64 (a0 / 2) 6148914691236517205) + (Go.bits .and .u64 a0 6148914691236517205))) 3689348814741910323))))) 1085102592571150095) + ((Go.bits .and .u64 (IntKind.u64.wrap (((IntKind.u64.wrap ((Go.bits .and .u64 ((IntKind.u64.wrap ((Go.bits .and .u64 (a0 / 2) 6148914691236517205) + (Go.bits .and .u64 a0 6148914691236517205))) / 4) 3689348814741910323) + (Go.bits .and .u64 (IntKind.u64.wrap ((Go.bits .and .u64 (a0 / 2) 6148914691236517205) + (Go.bits .and .u64 a0 6148914691236517205))) 3689348814741910323))) / 16) + (IntKind.u64.wrap ((Go.bits .and .u64 ((IntKind.u64.wrap ((Go.bits .and .u64 (a0 / 2) 6148914691236517205) + (Go.bits .and .u64 a0 6148914691236517205))) / 4) 3689348814741910323) + (Go.bits .and .u64 (IntKind.u64.wrap ((Go.bits .and .u64 (a0 / 2) 6148914691236517205) + (Go.bits .and .u64 a0 6148914691236517205))) 3689348814741910323))))) 1085102592571150095) / 256))) / 65536))) / 4294967296)))) 127)
set_option maxHeartbeats 8000000 in
set_option maxRecDepth 100000 in
theorem bits_OnesCount64.calls (a0 : Int) (r : Int) (w : World) (h : bits_OnesCount64.f a0 = some r) :
    Calls Try.prog 96 #[.int .u64 a0] w fun e w' => e = .returned (.int .i64 r) ∧ Drawn0 w w' := by
  have H : (some (Go.bits .and .i64 (wrap64 (IntKind.u64.wrap ((IntKind.u64.wrap ((IntKind.u64.wrap ((Go.bits .and .u64 (IntKind.u64.wrap (((IntKind.u64.wrap ((Go.bits .and .u64 ((IntKind.u64.wrap ((Go.bits .and .u64 (a0 / 2) 6148914691236517205) + (Go.bits .and .u64 a0 6148914691236517205))) / 4) 3689348814741910323) + (Go.bits .and .u64 (IntKind.u64.wrap ((Go.bits .and .u64 (a0 / 2) 6148914691236517205) + (Go.bits .and .u64 a0 6148914691236517205))) 3689348814741910323))) / 16) + (IntKind.u64.wrap ((Go.bits .and .u64 ((IntKind.u64.wrap ((Go.bits .and .u64 (a0 / 2) 6148914691236517205) + (Go.bits .and .u64 a0 6148914691236517205))) / 4) 3689348814741910323) + (Go.bits .and .u64 (IntKind.u64.wrap ((Go.bits .and .u64 (a0 / 2) 6148914691236517205) + (Go.bits .and .u64 a0 6148914691236517205))) 3689348814741910323))))) 1085102592571150095) + ((Go.bits .and .u64 (IntKind.u64.wrap (((IntKind.u64.wrap ((Go.bits .and .u64 ((IntKind.u64.wrap ((Go.bits .and .u64 (a0 / 2) 6148914691236517205) + (Go.bits .and .u64 a0 6148914691236517205))) / 4) 3689348814741910323) + (Go.bits .and .u64 (IntKind.u64.wrap ((Go.bits .and .u64 (a0 / 2) 6148914691236517205) + (Go.bits .and .u64 a0 6148914691236517205))) 3689348814741910323))) / 16) + (IntKind.u64.wrap ((Go.bits .and .u64 ((IntKind.u64.wrap ((Go.bits .and .u64 (a0 / 2) 6148914691236517205) + (Go.bits .and .u64 a0 6148914691236517205))) / 4) 3689348814741910323) + (Go.bits .and .u64 (IntKind.u64.wrap ((Go.bits .and .u64 (a0 / 2) 6148914691236517205) + (Go.bits .and .u64 a0 6148914691236517205))) 3689348814741910323))))) 1085102592571150095) / 256))) + ((IntKind.u64.wrap ((Go.bits .and .u64 (IntKind.u64.wrap (((IntKind.u64.wrap ((Go.bits .and .u64 ((IntKind.u64.wrap ((Go.bits .and .u64 (a0 / 2) 6148914691236517205) + (Go.bits .and .u64 a0 6148914691236517205))) / 4) 3689348814741910323) + (Go.bits .and .u64 (IntKind.u64.wrap ((Go.bits .and .u64 (a0 / 2) 6148914691236517205) + (Go.bits .and .u64 a0 6148914691236517205))) 3689348814741910323))) / 16) + (IntKind.u64.wrap ((Go.bits .and .u64 ((IntKind.u64.wrap ((Go.bits .and .u64 (a0 / 2) 6148914691236517205) + (Go.bits .and .u64 a0 6148914691236517205))) / 4) 3689348814741910323) + (Go.bits .and .u64 (IntKind.u64.wrap ((Go.bits .and .u64 (a0 / 2) 6148914691236517205) + (Go.bits .and .u64 a0 6148914691236517205))) 3689348814741910323))))) 1085102592571150095) + ((Go.bits .and .u64 (IntKind.u64.wrap (((IntKind.u64.wrap ((Go.bits .and .u64 ((IntKind.u64.wrap ((Go.bits .and .u64 (a0 / 2) 6148914691236517205) + (Go.bits .and .u64 a0 6148914691236517205))) / 4) 3689348814741910323) + (Go.bits .and .u64 (IntKind.u64.wrap ((Go.bits .and .u64 (a0 / 2) 6148914691236517205) + (Go.bits .and .u64 a0 6148914691236517205))) 3689348814741910323))) / 16) + (IntKind.u64.wrap ((Go.bits .and .u64 ((IntKind.u64.wrap ((Go.bits .and .u64 (a0 / 2) 6148914691236517205) + (Go.bits .and .u64 a0 6148914691236517205))) / 4) 3689348814741910323) + (Go.bits .and .u64 (IntKind.u64.wrap ((Go.bits .and .u64 (a0 / 2) 6148914691236517205) + (Go.bits .and .u64 a0 6148914691236517205))) 3689348814741910323))))) 1085102592571150095) / 256))) / 65536))) + ((IntKind.u64.wrap ((IntKind.u64.wrap ((Go.bits .and .u64 (IntKind.u64.wrap (((IntKind.u64.wrap ((Go.bits .and .u64 ((IntKind.u64.wrap ((Go.bits .and .u64 (a0 / 2) 6148914691236517205) + (Go.bits .and .u64 a0 6148914691236517205))) / 4) 3689348814741910323) + (Go.bits .and .u64 (IntKind.u64.wrap ((Go.bits .and .u64 (a0 / 2) 6148914691236517205) + (Go.bits .and .u64 a0 6148914691236517205))) 3689348814741910323))) / 16) + (IntKind.u64.wrap ((Go.bits .and .u64 ((IntKind.u64.wrap ((Go.bits .and .u64 (a0 / 2) 6148914691236517205) + (Go.bits .and .u64 a0 6148914691236517205))) / 4) 3689348814741910323) + (Go.bits .and .u64 (IntKind.u64.wrap ((Go.bits .and .u64 (a0 / 2) 6148914691236517205) + (Go.bits .and .u64 a0 6148914691236517205))) 3689348814741910323))))) 1085102592571150095) + ((Go.bits .and .u64 (IntKind.u64.wrap (((IntKind.u64.wrap ((Go.bits .and .u64 ((IntKind.u64.wrap ((Go.bits .and .u64 (a0 / 2) 6148914691236517205) + (Go.bits .and .u64 a0 6148914691236517205))) / 4) 3689348814741910323) + (Go.bits .and .u64 (IntKind.u64.wrap ((Go.bits .and .u64 (a0 / 2) 6148914691236517205) + (Go.bits .and .u64 a0 6148914691236517205))) 3689348814741910323))) / 16) + (IntKind.u64.wrap ((Go.bits .and .u64 ((IntKind.u64.wrap ((Go.bits .and .u64 (a0 / 2) 6148914691236517205) + (Go.bits .and .u64 a0 6148914691236517205))) / 4) 3689348814741910323) + (Go.bits .and .u64 (IntKind.u64.wrap ((Go.bits .and .u64 (a0 / 2) 6148914691236517205) + (Go.bits .and .u64 a0 6148914691236517205))) 3689348814741910323))))) 1085102592571150095) / 256))) + ((IntKind.u64.wrap ((Go.bits .and .u64 (IntKind.u64.wrap (((IntKind.u64.wrap ((Go.bits .and .u64 ((IntKind.u64.wrap ((Go.bits .and .u64 (a0 / 2) 6148914691236517205) + (Go.bits .and .u64 a0 6148914691236517205))) / 4) 3689348814741910323) + (Go.bits .and .u64 (IntKind.u64.wrap ((Go.bits .and .u64 (a0 / 2) 6148914691236517205) + (Go.bits .and .u64 a0 6148914691236517205))) 3689348814741910323))) / 16) + (IntKind.u64.wrap ((Go.bits .and .u64 ((IntKind.u64.wrap ((Go.bits .and .u64 (a0 / 2) 6148914691236517205) + (Go.bits .and .u64 a0 6148914691236517205))) / 4) 3689348814741910323) + (Go.bits .and .u64 (IntKind.u64.wrap ((Go.bits .and .u64 (a0 / 2) 6148914691236517205) + (Go.bits .and .u64 a0 6148914691236517205))) 3689348814741910323))))) 1085102592571150095) + ((Go.bits .and .u64 (IntKind.u64.wrap (((IntKind.u64.wrap ((Go.bits .and .u64 ((IntKind.u64.wrap ((Go.bits .and .u64 (a0 / 2) 6148914691236517205) + (Go.bits .and .u64 a0 6148914691236517205))) / 4) 3689348814741910323) + (Go.bits .and .u64 (IntKind.u64.wrap ((Go.bits .and .u64 (a0 / 2) 6148914691236517205) + (Go.bits .and .u64 a0 6148914691236517205))) 3689348814741910323))) / 16) + (IntKind.u64.wrap ((Go.bits .and .u64 ((IntKind.u64.wrap ((Go.bits .and .u64 (a0 / 2) 6148914691236517205) + (Go.bits .and .u64 a0 6148914691236517205))) / 4) 3689348814741910323) + (Go.bits .and .u64 (IntKind.u64.wrap ((Go.bits .and .u64 (a0 / 2) 6148914691236517205) + (Go.bits .and .u64 a0 6148914691236517205))) 3689348814741910323))))) 1085102592571150095) / 256))) / 65536))) / 4294967296)))) 127)) = some r := h
  clear h
  obtain rfl := Option.some.inj H
  go_enter Try.func96, Try.ntmps96
  go_wp2
  go_ret
  exact ⟨by first | rfl | (simp; done) | (simp [*]; done), by repeat (first | exact Drawn0.refl _ | apply Drawn0.step)⟩

end Go.Proofs.Ytafmgmaelnpehaa.PFurrowAsks
end

section
namespace Go.Proofs.Ytafmgmaelnpehaa.PFurrowAsks
open Go.RowKit Go.Proofs.YtafmgmaelnpehaaW.PrintWords Go.Proofs.YtafmgmaelnpehaaW.PrintLast Go.Proofs.YtafmgmaelnpehaaW.PrintMore
attribute [local go_sem] max2_int min2_int max_two min_two max_three min_three max_four min_four   -- for this text's walks alone

/-! ### bits_OnesCount: function 65 -/
def bits_OnesCount.f (a0 : Int) : Option (Int) := (bits_OnesCount64.f a0).bind fun t126 => (some t126)
set_option maxHeartbeats 8000000 in
set_option maxRecDepth 100000 in
theorem bits_OnesCount.calls (a0 : Int) (r : Int) (w : World) (h : bits_OnesCount.f a0 = some r) :
    Calls Try.prog 65 #[.int .u64 a0] w fun e w' => e = .returned (.int .i64 r) ∧ Drawn0 w w' := by
  have H : ((bits_OnesCount64.f a0).bind fun t126 => (some t126)) = some r := h
  clear h
  replace H := Option.bind_eq_some_iff.mp H
  obtain ⟨t126, A20, H⟩ := H
  replace H : (some t126) = some r := H
  have A2 := Aside0.mk A20
  clear A20
  obtain rfl := Option.some.inj H
  go_enter Try.func65, Try.ntmps65
  go_wp2_with (first | ((with_reducible refine gate_callee (f := 96) rfl ?_); refine goesL_ (some 7) rfl rfl Try.func96 (by kernel_rfl) rfl #[.int .u64 a0] rfl (by (try simp only [List.map_toArray, List.map_cons, List.map_nil]); first | done | rfl | (simp only [List.length_drop, List.length_take]; rfl)) ?_; (with_reducible refine (bits_OnesCount64.calls a0 t126 _ A2.out).mono ?_); rintro e w' ⟨rfl, ⟨nd, rfl⟩⟩; refine ⟨_, rfl, ?_⟩))
  go_ret
  exact ⟨by first | rfl | (simp; done) | (simp [*]; done), by repeat (first | exact Drawn0.refl _ | apply Drawn0.step)⟩

end Go.Proofs.Ytafmgmaelnpehaa.PFurrowAsks
end

section
namespace Go.Proofs.Ytafmgmaelnpehaa.PFurrowAsks
open Go.RowKit Go.Proofs.YtafmgmaelnpehaaW.PrintWords Go.Proofs.YtafmgmaelnpehaaW.PrintLast Go.Proofs.YtafmgmaelnpehaaW.PrintMore
attribute [local go_sem] max2_int min2_int max_two min_two max_three min_three max_four min_four   -- for this text's walks alone

/-! ### furrow_span_within: function 104 -/
def furrow_span_within.f (a0_0 : Int) (a0_1 : Int) (a1 : Int) (a2 : Int) : Option (Bool) := if a1 ≤ a0_0 then (if a0_0 ≤ a0_1 then (some (decide (a0_1 ≤ a2))) else (some false)) else (some false)
set_option maxHeartbeats 8000000 in
set_option maxRecDepth 100000 in
theorem furrow_span_within.calls (a0_0 : Int) (a0_1 : Int) (a1 : Int) (a2 : Int) (r : Bool) (w : World) (h : furrow_span_within.f a0_0 a0_1 a1 a2 = some r) :
    Calls Try.prog 104 #[.agg #[.int .i64 a0_0, .int .i64 a0_1], .int .i64 a1, .int .i64 a2] w fun e w' => e = .returned (.bool r) ∧ Below w.heap.size w w' := by
  have hu89 := Try.underlying89
  have HB := Aside0.mk (Below.refl w.heap.size w)
  have H : (if a1 ≤ a0_0 then (if a0_0 ≤ a0_1 then (some (decide (a0_1 ≤ a2))) else (some false)) else (some false)) = some r := h
  clear h
  by_cases c4 : a1 ≤ a0_0
  · rw [if_pos c4] at H
    have c4b0 : decide (a1 ≤ a0_0) = true := decide_eq_true c4
    clear c4
    by_cases c5 : a0_0 ≤ a0_1
    · rw [if_pos c5] at H
      have c5b0 : decide (a0_0 ≤ a0_1) = true := decide_eq_true c5
      clear c5
      obtain rfl := Option.some.inj H
      go_enter Try.func104, Try.ntmps104
      go_wp2_with (first | ((with_reducible refine gate_dst (N := 3) rfl ?_); refine box_event ?hg (N := 3) ?hd (cs := #[.int .i64 a0_0, .int .i64 a0_1]) (t := 89) ?hr ?_; (case hd => rfl); (case hg => rfl); (case hr => first | (go_simp; done) | (go_simp; rfl)); intro gb110 hg w6 hbox hb; have n0_ := Aside0.mk (below_step (by repeat (first | (with_reducible first | exact HB.out | apply below_alloc | apply pw_below_drewN | apply below_drew1) | exact HB.out)) hb); have n1_ := Aside0.mk (hbox); have n2_ := Aside0.mk ((by rw [hg]; exact (below_size (by repeat (first | (with_reducible first | exact HB.out | apply below_alloc | apply pw_below_drewN | apply below_drew1) | exact HB.out))) : w.heap.size ≤ gb110)); have n3_ := Aside0.mk ((by rw [hg]; exact (below_size (by repeat (first | (with_reducible first | exact HB.out | apply below_alloc | apply pw_below_drewN | apply below_drew1) | exact HB.out))) : w.heap.size ≤ gb110)); clear HB; have HB := n0_; have BK110 := n1_; have GW110 := n2_; have GE110 := n3_; clear n0_ n1_ n2_ n3_; clear hb hbox hg; have hcz7_0 : w6.cell? ⟨gb110, 0, none⟩ = some (.int .i64 a0_0) := (blk_cell BK110.out 0).trans rfl; have hcz7_1 : w6.cell? ⟨gb110, 1, none⟩ = some (.int .i64 a0_1) := (blk_cell BK110.out 1).trans rfl; have hfz7_0 := blk_frozen BK110.out 0; have hfz7_1 := blk_frozen BK110.out 1))
      go_ret
      exact ⟨by first | rfl | (simp [errW_none, errW_some] <;> rfl) | (simp [*, errW_none, errW_some] <;> rfl), by repeat (first | (with_reducible first | exact HB.out | apply below_alloc | apply pw_below_drewN | apply below_drew1 | refine below_set ?_ GE110.out) | exact HB.out)⟩
    · rw [if_neg c5] at H
      have c5b0 : decide (a0_0 ≤ a0_1) = false := decide_eq_false c5
      clear c5
      obtain rfl := Option.some.inj H
      go_enter Try.func104, Try.ntmps104
      go_wp2_with (first | ((with_reducible refine gate_dst (N := 3) rfl ?_); refine box_event ?hg (N := 3) ?hd (cs := #[.int .i64 a0_0, .int .i64 a0_1]) (t := 89) ?hr ?_; (case hd => rfl); (case hg => rfl); (case hr => first | (go_simp; done) | (go_simp; rfl)); intro gb110 hg w8 hbox hb; have n0_ := Aside0.mk (below_step (by repeat (first | (with_reducible first | exact HB.out | apply below_alloc | apply pw_below_drewN | apply below_drew1) | exact HB.out)) hb); have n1_ := Aside0.mk (hbox); have n2_ := Aside0.mk ((by rw [hg]; exact (below_size (by repeat (first | (with_reducible first | exact HB.out | apply below_alloc | apply pw_below_drewN | apply below_drew1) | exact HB.out))) : w.heap.size ≤ gb110)); have n3_ := Aside0.mk ((by rw [hg]; exact (below_size (by repeat (first | (with_reducible first | exact HB.out | apply below_alloc | apply pw_below_drewN | apply below_drew1) | exact HB.out))) : w.heap.size ≤ gb110)); clear HB; have HB := n0_; have BK110 := n1_; have GW110 := n2_; have GE110 := n3_; clear n0_ n1_ n2_ n3_; clear hb hbox hg; have hcz9_0 : w8.cell? ⟨gb110, 0, none⟩ = some (.int .i64 a0_0) := (blk_cell BK110.out 0).trans rfl; have hcz9_1 : w8.cell? ⟨gb110, 1, none⟩ = some (.int .i64 a0_1) := (blk_cell BK110.out 1).trans rfl; have hfz9_0 := blk_frozen BK110.out 0; have hfz9_1 := blk_frozen BK110.out 1))
      go_ret
      exact ⟨by first | rfl | (simp [errW_none, errW_some] <;> rfl) | (simp [*, errW_none, errW_some] <;> rfl), by repeat (first | (with_reducible first | exact HB.out | apply below_alloc | apply pw_below_drewN | apply below_drew1 | refine below_set ?_ GE110.out) | exact HB.out)⟩
  · rw [if_neg c4] at H
    have c4b0 : decide (a1 ≤ a0_0) = false := decide_eq_false c4
    clear c4
    obtain rfl := Option.some.inj H
    go_enter Try.func104, Try.ntmps104
    go_wp2_with (first | ((with_reducible refine gate_dst (N := 3) rfl ?_); refine box_event ?hg (N := 3) ?hd (cs := #[.int .i64 a0_0, .int .i64 a0_1]) (t := 89) ?hr ?_; (case hd => rfl); (case hg => rfl); (case hr => first | (go_simp; done) | (go_simp; rfl)); intro gb110 hg w10 hbox hb; have n0_ := Aside0.mk (below_step (by repeat (first | (with_reducible first | exact HB.out | apply below_alloc | apply pw_below_drewN | apply below_drew1) | exact HB.out)) hb); have n1_ := Aside0.mk (hbox); have n2_ := Aside0.mk ((by rw [hg]; exact (below_size (by repeat (first | (with_reducible first | exact HB.out | apply below_alloc | apply pw_below_drewN | apply below_drew1) | exact HB.out))) : w.heap.size ≤ gb110)); have n3_ := Aside0.mk ((by rw [hg]; exact (below_size (by repeat (first | (with_reducible first | exact HB.out | apply below_alloc | apply pw_below_drewN | apply below_drew1) | exact HB.out))) : w.heap.size ≤ gb110)); clear HB; have HB := n0_; have BK110 := n1_; have GW110 := n2_; have GE110 := n3_; clear n0_ n1_ n2_ n3_; clear hb hbox hg; have hcz11_0 : w10.cell? ⟨gb110, 0, none⟩ = some (.int .i64 a0_0) := (blk_cell BK110.out 0).trans rfl; have hcz11_1 : w10.cell? ⟨gb110, 1, none⟩ = some (.int .i64 a0_1) := (blk_cell BK110.out 1).trans rfl; have hfz11_0 := blk_frozen BK110.out 0; have hfz11_1 := blk_frozen BK110.out 1))
    go_ret
    exact ⟨by first | rfl | (simp [errW_none, errW_some] <;> rfl) | (simp [*, errW_none, errW_some] <;> rfl), by repeat (first | (with_reducible first | exact HB.out | apply below_alloc | apply pw_below_drewN | apply below_drew1 | refine below_set ?_ GE110.out) | exact HB.out)⟩

end Go.Proofs.Ytafmgmaelnpehaa.PFurrowAsks
end

section
namespace Go.Proofs.Ytafmgmaelnpehaa.PFurrowAsks
open Go.RowKit Go.Proofs.YtafmgmaelnpehaaW.PrintWords Go.Proofs.YtafmgmaelnpehaaW.PrintLast Go.Proofs.YtafmgmaelnpehaaW.PrintMore
attribute [local go_sem] max2_int min2_int max_two min_two max_three min_three max_four min_four   -- for this text's walks alone

/-! ### furrowworksref04_span: function 76 -/
def furrowworksref04_span.f (a0_0 : Int) (a0_1 : Int) (a1 : Int) (a2 : Int) : Option (Bool) := if a1 ≤ a0_0 then (if a0_0 ≤ a0_1 then (some (decide (a0_1 ≤ a2))) else (some false)) else (some false)
set_option maxHeartbeats 8000000 in
set_option maxRecDepth 100000 in
theorem furrowworksref04_span.calls (a0_0 : Int) (a0_1 : Int) (a1 : Int) (a2 : Int) (r : Bool) (w : World) (h : furrowworksref04_span.f a0_0 a0_1 a1 a2 = some r) :
    Calls Try.prog 76 #[.agg #[.int .i64 a0_0, .int .i64 a0_1], .int .i64 a1, .int .i64 a2] w fun e w' => e = .returned (.bool r) ∧ Below w.heap.size w w' := by
  have hu28 := Try.underlying28
  have HB := Aside0.mk (Below.refl w.heap.size w)
  have H : (if a1 ≤ a0_0 then (if a0_0 ≤ a0_1 then (some (decide (a0_1 ≤ a2))) else (some false)) else (some false)) = some r := h
  clear h
  by_cases c4 : a1 ≤ a0_0
  · rw [if_pos c4] at H
    have c4b0 : decide (a1 ≤ a0_0) = true := decide_eq_true c4
    clear c4
    by_cases c5 : a0_0 ≤ a0_1
    · rw [if_pos c5] at H
      have c5b0 : decide (a0_0 ≤ a0_1) = true := decide_eq_true c5
      clear c5
      obtain rfl := Option.some.inj H
      go_enter Try.func76, Try.ntmps76
      go_wp2_with (first | ((with_reducible refine gate_dst (N := 3) rfl ?_); refine box_event ?hg (N := 3) ?hd (cs := #[.int .i64 a0_0, .int .i64 a0_1]) (t := 28) ?hr ?_; (case hd => rfl); (case hg => rfl); (case hr => first | (go_simp; done) | (go_simp; rfl)); intro gb101 hg w6 hbox hb; have n0_ := Aside0.mk (below_step (by repeat (first | (with_reducible first | exact HB.out | apply below_alloc | apply pw_below_drewN | apply below_drew1) | exact HB.out)) hb); have n1_ := Aside0.mk (hbox); have n2_ := Aside0.mk ((by rw [hg]; exact (below_size (by repeat (first | (with_reducible first | exact HB.out | apply below_alloc | apply pw_below_drewN | apply below_drew1) | exact HB.out))) : w.heap.size ≤ gb101)); have n3_ := Aside0.mk ((by rw [hg]; exact (below_size (by repeat (first | (with_reducible first | exact HB.out | apply below_alloc | apply pw_below_drewN | apply below_drew1) | exact HB.out))) : w.heap.size ≤ gb101)); clear HB; have HB := n0_; have BK101 := n1_; have GW101 := n2_; have GE101 := n3_; clear n0_ n1_ n2_ n3_; clear hb hbox hg; have hcz7_0 : w6.cell? ⟨gb101, 0, none⟩ = some (.int .i64 a0_0) := (blk_cell BK101.out 0).trans rfl; have hcz7_1 : w6.cell? ⟨gb101, 1, none⟩ = some (.int .i64 a0_1) := (blk_cell BK101.out 1).trans rfl; have hfz7_0 := blk_frozen BK101.out 0; have hfz7_1 := blk_frozen BK101.out 1))
      go_ret
      exact ⟨by first | rfl | (simp [errW_none, errW_some] <;> rfl) | (simp [*, errW_none, errW_some] <;> rfl), by repeat (first | (with_reducible first | exact HB.out | apply below_alloc | apply pw_below_drewN | apply below_drew1 | refine below_set ?_ GE101.out) | exact HB.out)⟩
    · rw [if_neg c5] at H
      have c5b0 : decide (a0_0 ≤ a0_1) = false := decide_eq_false c5
      clear c5
      obtain rfl := Option.some.inj H
      go_enter Try.func76, Try.ntmps76
      go_wp2_with (first | ((with_reducible refine gate_dst (N := 3) rfl ?_); refine box_event ?hg (N := 3) ?hd (cs := #[.int .i64 a0_0, .int .i64 a0_1]) (t := 28) ?hr ?_; (case hd => rfl); (case hg => rfl); (case hr => first | (go_simp; done) | (go_simp; rfl)); intro gb101 hg w8 hbox hb; have n0_ := Aside0.mk (below_step (by repeat (first | (with_reducible first | exact HB.out | apply below_alloc | apply pw_below_drewN | apply below_drew1) | exact HB.out)) hb); have n1_ := Aside0.mk (hbox); have n2_ := Aside0.mk ((by rw [hg]; exact (below_size (by repeat (first | (with_reducible first | exact HB.out | apply below_alloc | apply pw_below_drewN | apply below_drew1) | exact HB.out))) : w.heap.size ≤ gb101)); have n3_ := Aside0.mk ((by rw [hg]; exact (below_size (by repeat (first | (with_reducible first | exact HB.out | apply below_alloc | apply pw_below_drewN | apply below_drew1) | exact HB.out))) : w.heap.size ≤ gb101)); clear HB; have HB := n0_; have BK101 := n1_; have GW101 := n2_; have GE101 := n3_; clear n0_ n1_ n2_ n3_; clear hb hbox hg; have hcz9_0 : w8.cell? ⟨gb101, 0, none⟩ = some (.int .i64 a0_0) := (blk_cell BK101.out 0).trans rfl; have hcz9_1 : w8.cell? ⟨gb101, 1, none⟩ = some (.int .i64 a0_1) := (blk_cell BK101.out 1).trans rfl; have hfz9_0 := blk_frozen BK101.out 0; have hfz9_1 := blk_frozen BK101.out 1))
      go_ret
      exact ⟨by first | rfl | (simp [errW_none, errW_some] <;> rfl) | (simp [*, errW_none, errW_some] <;> rfl), by repeat (first | (with_reducible first | exact HB.out | apply below_alloc | apply pw_below_drewN | apply below_drew1 | refine below_set ?_ GE101.out) | exact HB.out)⟩
  · rw [if_neg c4] at H
    have c4b0 : decide (a1 ≤ a0_0) = false := decide_eq_false c4
    clear c4
    obtain rfl := Option.some.inj H
    go_enter Try.func76, Try.ntmps76
    go_wp2_with (first | ((with_reducible refine gate_dst (N := 3) rfl ?_); refine box_event ?hg (N := 3) ?hd (cs := #[.int .i64 a0_0, .int .i64 a0_1]) (t := 28) ?hr ?_; (case hd => rfl); (case hg => rfl); (case hr => first | (go_simp; done) | (go_simp; rfl)); intro gb101 hg w10 hbox hb; have n0_ := Aside0.mk (below_step (by repeat (first | (with_reducible first | exact HB.out | apply below_alloc | apply pw_below_drewN | apply below_drew1) | exact HB.out)) hb); have n1_ := Aside0.mk (hbox); have n2_ := Aside0.mk ((by rw [hg]; exact (below_size (by repeat (first | (with_reducible first | exact HB.out | apply below_alloc | apply pw_below_drewN | apply below_drew1) | exact HB.out))) : w.heap.size ≤ gb101)); have n3_ := Aside0.mk ((by rw [hg]; exact (below_size (by repeat (first | (with_reducible first | exact HB.out | apply below_alloc | apply pw_below_drewN | apply below_drew1) | exact HB.out))) : w.heap.size ≤ gb101)); clear HB; have HB := n0_; have BK101 := n1_; have GW101 := n2_; have GE101 := n3_; clear n0_ n1_ n2_ n3_; clear hb hbox hg; have hcz11_0 : w10.cell? ⟨gb101, 0, none⟩ = some (.int .i64 a0_0) := (blk_cell BK101.out 0).trans rfl; have hcz11_1 : w10.cell? ⟨gb101, 1, none⟩ = some (.int .i64 a0_1) := (blk_cell BK101.out 1).trans rfl; have hfz11_0 := blk_frozen BK101.out 0; have hfz11_1 := blk_frozen BK101.out 1))
    go_ret
    exact ⟨by first | rfl | (simp [errW_none, errW_some] <;> rfl) | (simp [*, errW_none, errW_some] <;> rfl), by repeat (first | (with_reducible first | exact HB.out | apply below_alloc | apply pw_below_drewN | apply below_drew1 | refine below_set ?_ GE101.out) | exact HB.out)⟩

end Go.Proofs.Ytafmgmaelnpehaa.PFurrowAsks
end

section
namespace Go.Proofs.Ytafmgmaelnpehaa.PFurrowAsks
open Go.RowKit Go.Proofs.YtafmgmaelnpehaaW.PrintWords Go.Proofs.YtafmgmaelnpehaaW.PrintLast Go.Proofs.YtafmgmaelnpehaaW.PrintMore
attribute [local go_sem] max2_int min2_int max_two min_two max_three min_three max_four min_four   -- for this text's walks alone

/-! ### furrowworksref04_Furrow: function 36 -/
mutual
def furrowworksref04_Furrow.j0 : Nat → Int → Bool → List (S28) → List (S28) → List (S28) → Option (Bool)
  | 0, _, _, _, _, _ => none
  | k + 1, x3, x24, x103000, x103001, x103002 => if x24 = true then (some false) else (furrowworksref04_Furrow.l0 k x3 0 x103000 x103001 x103002)
def furrowworksref04_Furrow.l0 : Nat → Int → Int → List (S28) → List (S28) → List (S28) → Option (Bool)
  | 0, _, _, _, _, _ => none
  | k + 1, x3, x4, x103000, x103001, x103002 => if x4 < x3 then (if 0 ≤ x4 then (if x4 < (x103000.length : Int) then ((furrowworksref04_span.f ((rd_T28 x103000 x4).f0) ((rd_T28 x103000 x4).f1) (-12) 12).bind fun t105 => (if t105 = true then (if (wrap64 (((rd_T28 x103000 x4).f1) - ((rd_T28 x103000 x4).f0))) > 6 then (some false) else (if x4 < (x103001.length : Int) then ((furrowworksref04_span.f ((rd_T28 x103001 x4).f0) ((rd_T28 x103001 x4).f1) 1 60).bind fun t107 => (if t107 = true then (if x4 < (x103002.length : Int) then ((furrowworksref04_span.f ((rd_T28 x103002 x4).f0) ((rd_T28 x103002 x4).f1) 0 40).bind fun t109 => (if t109 = true then (furrowworksref04_Furrow.l0 k x3 (wrap64 (x4 + 1)) x103000 x103001 x103002) else (some false))) else (none)) else (some false))) else (none))) else (some false))) else (none)) else (none)) else (some true)
end
def furrowworksref04_Furrow.f (k : Nat) (l0_0 : List (S28)) (l0_1 : List (S28)) (l0_2 : List (S28)) : Option (Bool) := if (l0_0.length : Int) > 8 then (furrowworksref04_Furrow.j0 k (l0_0.length : Int) true l0_0 l0_1 l0_2) else (if (l0_1.length : Int) = (l0_0.length : Int) then (furrowworksref04_Furrow.j0 k (l0_0.length : Int) ((l0_2.length : Int) != (l0_0.length : Int)) l0_0 l0_1 l0_2) else (furrowworksref04_Furrow.j0 k (l0_0.length : Int) true l0_0 l0_1 l0_2))
theorem furrowworksref04_Furrow.mono_l : ∀ k, (∀ y0 y1 y2 y3 y4, LeO (furrowworksref04_Furrow.j0 k y0 y1 y2 y3 y4) (furrowworksref04_Furrow.j0 (k + 1) y0 y1 y2 y3 y4)) ∧ (∀ y0 y1 y2 y3 y4, LeO (furrowworksref04_Furrow.l0 k y0 y1 y2 y3 y4) (furrowworksref04_Furrow.l0 (k + 1) y0 y1 y2 y3 y4))
  | 0 => ⟨fun _ _ _ _ _ r h => by simp [furrowworksref04_Furrow.j0] at h, fun _ _ _ _ _ r h => by simp [furrowworksref04_Furrow.l0] at h⟩
  | k + 1 => by
    obtain ⟨ih0, ih1⟩ := furrowworksref04_Furrow.mono_l k
    refine ⟨?_, ?_⟩
    · intro y0 y1 y2 y3 y4
      unfold furrowworksref04_Furrow.j0
      repeat' first
      | (with_reducible exact ih0 _ _ _ _ _)
      | (with_reducible exact ih1 _ _ _ _ _)
      | (with_reducible exact LeO.refl _)
      | (with_reducible exact LeO.none _)
      | (with_reducible refine LeO.ite ?_ ?_)
      | (with_reducible refine LeO.bind ?_ (fun _ => ?_))
      | exact ih0 _ _ _ _ _
      | exact ih1 _ _ _ _ _
      | exact LeO.none _
      | refine LeO.ite ?_ ?_
      | refine LeO.bind ?_ (fun _ => ?_)
    · intro y0 y1 y2 y3 y4
      unfold furrowworksref04_Furrow.l0
      repeat' first
      | (with_reducible exact ih0 _ _ _ _ _)
      | (with_reducible exact ih1 _ _ _ _ _)
      | (with_reducible exact LeO.refl _)
      | (with_reducible exact LeO.none _)
      | (with_reducible refine LeO.ite ?_ ?_)
      | (with_reducible refine LeO.bind ?_ (fun _ => ?_))
      | exact ih0 _ _ _ _ _
      | exact ih1 _ _ _ _ _
      | exact LeO.none _
      | refine LeO.ite ?_ ?_
      | refine LeO.bind ?_ (fun _ => ?_)
theorem furrowworksref04_Furrow.mono : ∀ a0 a1 a2 k, LeO (furrowworksref04_Furrow.f k a0 a1 a2) (furrowworksref04_Furrow.f (k + 1) a0 a1 a2) := by
  intro a0 a1 a2 k
  obtain ⟨ih0, ih1⟩ := furrowworksref04_Furrow.mono_l k
  unfold furrowworksref04_Furrow.f
  repeat' first
      | (with_reducible exact ih0 _ _ _ _ _)
      | (with_reducible exact ih1 _ _ _ _ _)
      | (with_reducible exact LeO.refl _)
      | (with_reducible exact LeO.none _)
      | (with_reducible refine LeO.ite ?_ ?_)
      | (with_reducible refine LeO.bind ?_ (fun _ => ?_))
      | exact ih0 _ _ _ _ _
      | exact ih1 _ _ _ _ _
      | exact LeO.none _
      | refine LeO.ite ?_ ?_
      | refine LeO.bind ?_ (fun _ => ?_)
set_option maxHeartbeats 8000000 in
set_option maxRecDepth 100000 in
theorem furrowworksref04_Furrow.calls (k : Nat) (A0_0 : Option Addr) (c0_0 : Nat) (l0_0 : List (S28)) (A0_1 : Option Addr) (c0_1 : Nat) (l0_1 : List (S28)) (A0_2 : Option Addr) (c0_2 : Nat) (l0_2 : List (S28)) (r : Bool) (w : World) (hr0_0 : Kd.C k28 w A0_0 l0_0.length l0_0) (hc0_0 : l0_0.length ≤ c0_0) (hr0_1 : Kd.C k28 w A0_1 l0_1.length l0_1) (hc0_1 : l0_1.length ≤ c0_1) (hr0_2 : Kd.C k28 w A0_2 l0_2.length l0_2) (hc0_2 : l0_2.length ≤ c0_2) (h : furrowworksref04_Furrow.f k l0_0 l0_1 l0_2 = some r) :
    Calls Try.prog 36 #[.agg #[.slice A0_0 l0_0.length c0_0, .slice A0_1 l0_1.length c0_1, .slice A0_2 l0_2.length c0_2]] w fun e w' => e = .returned (.bool r) ∧ Below w.heap.size w w' := by
  have hu24 := Try.underlying24
  have hu28 := Try.underlying28
  have HR0_0 := Aside0.mk hr0_0
  have HC0_0 := Aside0.mk hc0_0
  clear hr0_0 hc0_0
  have HR0_1 := Aside0.mk hr0_1
  have HC0_1 := Aside0.mk hc0_1
  clear hr0_1 hc0_1
  have HR0_2 := Aside0.mk hr0_2
  have HC0_2 := Aside0.mk hc0_2
  clear hr0_2 hc0_2
  have HB := Aside0.mk (Below.refl w.heap.size w)
  have H : (if (l0_0.length : Int) > 8 then (furrowworksref04_Furrow.j0 k (l0_0.length : Int) true l0_0 l0_1 l0_2) else (if (l0_1.length : Int) = (l0_0.length : Int) then (furrowworksref04_Furrow.j0 k (l0_0.length : Int) ((l0_2.length : Int) != (l0_0.length : Int)) l0_0 l0_1 l0_2) else (furrowworksref04_Furrow.j0 k (l0_0.length : Int) true l0_0 l0_1 l0_2))) = some r := h
  clear h
  have HC2 := Aside0.mk H
  clear H
  go_enter Try.func36, Try.ntmps36
  go_upto_region 2 with (first | ((with_reducible refine gate_dst (N := 1) rfl ?_); (try (refine gate_guard (by rfl) ?_; dsimp only)); refine box_event ?hg (N := 1) ?hd (cs := #[.slice A0_0 l0_0.length c0_0, .slice A0_1 l0_1.length c0_1, .slice A0_2 l0_2.length c0_2]) (t := 24) ?hr ?_; (case hd => rfl); (case hg => rfl); (case hr => first | (go_simp; done) | (go_simp; rfl)); intro gb102 hg w3 hbox hb; have n0_ := Aside0.mk (below_step (by repeat (first | (with_reducible first | exact HB.out | apply below_alloc | apply pw_below_drewN | apply below_drew1) | exact HB.out)) hb); have n1_ := Aside0.mk (hbox); have n2_ := Aside0.mk ((by rw [hg]; exact (below_size (by repeat (first | (with_reducible first | exact HB.out | apply below_alloc | apply pw_below_drewN | apply below_drew1) | exact HB.out))) : w.heap.size ≤ gb102)); have n3_ := Aside0.mk ((by rw [hg]; exact (below_size (by repeat (first | (with_reducible first | exact HB.out | apply below_alloc | apply pw_below_drewN | apply below_drew1) | exact HB.out))) : w.heap.size ≤ gb102)); clear HB; have HB := n0_; have BK102 := n1_; have GW102 := n2_; have GE102 := n3_; clear n0_ n1_ n2_ n3_; clear hb hbox hg; have hcz4_0 : w3.cell? ⟨gb102, 0, none⟩ = some (.slice A0_0 l0_0.length c0_0) := (blk_cell BK102.out 0).trans rfl; have hcz4_1 : w3.cell? ⟨gb102, 1, none⟩ = some (.slice A0_1 l0_1.length c0_1) := (blk_cell BK102.out 1).trans rfl; have hcz4_2 : w3.cell? ⟨gb102, 2, none⟩ = some (.slice A0_2 l0_2.length c0_2) := (blk_cell BK102.out 2).trans rfl; have hfz4_0 := blk_frozen BK102.out 0; have hfz4_1 := blk_frozen BK102.out 1; have hfz4_2 := blk_frozen BK102.out 2))
  (try simp only [Act.put, List.setIfInBounds_toArray, List.set_cons_zero, List.set_cons_succ])
  go_cut [24] (fun v24 wc => ∃ (kq : Nat) (x24_1 : Bool), v24 = .bool x24_1 ∧ Aside0 (furrowworksref04_Furrow.j0 kq (l0_0.length : Int) x24_1 l0_0 l0_1 l0_2 = some r) ∧ Aside0 (kq ≤ k) ∧ Aside0 (wc.heap[gb102]? = some (.cells #[(.slice A0_0 l0_0.length c0_0), (.slice A0_1 l0_1.length c0_1), (.slice A0_2 l0_2.length c0_2)] 24 (0, 0))) ∧ Aside0 (Below w.heap.size w wc))
  case first =>
    have H := HC2.out
    clear HC2
    by_cases c5 : (l0_0.length : Int) > 8
    · rw [if_pos c5] at H
      have c5b0 : decide (8 < (l0_0.length : Int)) = true := decide_eq_true c5
      have c5b1 : decide (8 < l0_0.length) = true := decide_eq_true (by omega)
      clear c5
      (first | rw [c5b0] | (simp only [i64_w, i32_w]; rw [c5b0]) | skip)
      have H' := Aside0.mk H
      clear H
      go_wp2
      go_meet
      case rel => exact ⟨_, (true), (by first | rfl | (simp; done) | (simp [*]; done)), H', ⟨by first | omega | exact Nat.le_refl _⟩, ⟨by (with_reducible repeat (first | refine blk_drewN ?_ _ | refine blk_drew ?_ | refine blk_alloc ?_ _)); exact BK102.out⟩, ⟨by repeat (first | (with_reducible first | exact HB.out | apply below_alloc | apply pw_below_drewN | apply below_drew1 | refine below_set ?_ GE102.out) | exact HB.out)⟩⟩
    · rw [if_neg c5] at H
      have c5b0 : decide (8 < (l0_0.length : Int)) = false := decide_eq_false c5
      have c5b1 : decide (8 < l0_0.length) = false := decide_eq_false (by omega)
      clear c5
      (first | rw [c5b0] | (simp only [i64_w, i32_w]; rw [c5b0]) | skip)
      by_cases c6 : (l0_1.length : Int) = (l0_0.length : Int)
      · rw [if_pos c6] at H
        have c6b0 : ((l0_1.length : Int) == (l0_0.length : Int)) = true := beq_iff_eq.mpr c6
        have c6b1 : ((l0_1.length : Int) != (l0_0.length : Int)) = false := bne_eq_false_iff_eq.mpr c6
        have c6b2 : (l0_1.length == l0_0.length) = true := by first | simpa using c6 | (simp at c6 ⊢; omega)
        clear c6
        have H' := Aside0.mk H
        clear H
        have hcz7_0 : w3.cell? ⟨gb102, 0, none⟩ = some (.slice A0_0 l0_0.length c0_0) := (blk_cell BK102.out 0).trans rfl
        have hcz7_1 : w3.cell? ⟨gb102, 1, none⟩ = some (.slice A0_1 l0_1.length c0_1) := (blk_cell BK102.out 1).trans rfl
        have hcz7_2 : w3.cell? ⟨gb102, 2, none⟩ = some (.slice A0_2 l0_2.length c0_2) := (blk_cell BK102.out 2).trans rfl
        have hfz7_0 := blk_frozen BK102.out 0
        have hfz7_1 := blk_frozen BK102.out 1
        have hfz7_2 := blk_frozen BK102.out 2
        go_wp2
        go_meet
        case rel => exact ⟨_, (((l0_2.length : Int) != (l0_0.length : Int))), (by first | rfl | (simp; done) | (simp [*]; done)), H', ⟨by first | omega | exact Nat.le_refl _⟩, ⟨by (with_reducible repeat (first | refine blk_drewN ?_ _ | refine blk_drew ?_ | refine blk_alloc ?_ _)); exact BK102.out⟩, ⟨by repeat (first | (with_reducible first | exact HB.out | apply below_alloc | apply pw_below_drewN | apply below_drew1 | refine below_set ?_ GE102.out) | exact HB.out)⟩⟩
      · rw [if_neg c6] at H
        have c6b0 : ((l0_1.length : Int) == (l0_0.length : Int)) = false := beq_eq_false_iff_ne.mpr c6
        have c6b1 : ((l0_1.length : Int) != (l0_0.length : Int)) = true := bne_iff_ne.mpr c6
        have c6b2 : (l0_1.length == l0_0.length) = false := by first | simpa using c6 | (simp at c6 ⊢; omega)
        have H' := Aside0.mk H
        clear H
        have hcz8_0 : w3.cell? ⟨gb102, 0, none⟩ = some (.slice A0_0 l0_0.length c0_0) := (blk_cell BK102.out 0).trans rfl
        have hcz8_1 : w3.cell? ⟨gb102, 1, none⟩ = some (.slice A0_1 l0_1.length c0_1) := (blk_cell BK102.out 1).trans rfl
        have hcz8_2 : w3.cell? ⟨gb102, 2, none⟩ = some (.slice A0_2 l0_2.length c0_2) := (blk_cell BK102.out 2).trans rfl
        have hfz8_0 := blk_frozen BK102.out 0
        have hfz8_1 := blk_frozen BK102.out 1
        have hfz8_2 := blk_frozen BK102.out 2
        go_wp2
        go_meet
        case rel => exact ⟨_, (true), (by first | rfl | (simp; done) | (simp [*]; done)), H', ⟨by first | omega | exact Nat.le_refl _⟩, ⟨by (with_reducible repeat (first | refine blk_drewN ?_ _ | refine blk_drew ?_ | refine blk_alloc ?_ _)); exact BK102.out⟩, ⟨by repeat (first | (with_reducible first | exact HB.out | apply below_alloc | apply pw_below_drewN | apply below_drew1 | refine below_set ?_ GE102.out) | exact HB.out)⟩⟩
  case rest =>
    clear HC2
    try clear p2
    try clear c3
    try clear c5
    try clear c5b0
    try clear c5b1
    try clear c6
    try clear c6b0
    try clear c6b1
    try clear c6b2
    try clear hcz4_0
    try clear hcz4_1
    try clear hcz4_2
    try clear hcz7_0
    try clear hcz7_1
    try clear hcz7_2
    try clear hcz8_0
    try clear hcz8_1
    try clear hcz8_2
    try clear hfz4_0
    try clear hfz4_1
    try clear hfz4_2
    try clear hfz7_0
    try clear hfz7_1
    try clear hfz7_2
    try clear hfz8_0
    try clear hfz8_1
    try clear hfz8_2
    obtain ⟨kq, x24_1, rfl, HA, HJ1, BK102, HB⟩ := hcut
    cases kq with
    | zero => exact absurd HA.out (by simp [furrowworksref04_Furrow.j0])
    | succ kj1 =>
      have H := HA.out
      clear HA
      simp only [furrowworksref04_Furrow.j0] at H
      by_cases c9 : x24_1 = true
      · subst c9
        have H1 : (some false) = some r := by rw [if_pos rfl] at H; exact H
        clear H
        have H := H1
        clear H1
        obtain rfl := Option.some.inj H
        go_wp2
        go_ret
        exact ⟨by first | rfl | (simp [errW_none, errW_some] <;> rfl) | (simp [*, errW_none, errW_some] <;> rfl), by repeat (first | (with_reducible first | exact HB.out | apply below_alloc | apply pw_below_drewN | apply below_drew1 | refine below_set ?_ GE102.out) | exact HB.out)⟩
      · replace c9 := Bool.eq_false_iff.mpr c9
        subst c9
        have H1 : (furrowworksref04_Furrow.l0 kj1 (l0_0.length : Int) 0 l0_0 l0_1 l0_2) = some r := by rw [if_neg (show ¬ (false = true) by decide)] at H; exact H
        clear H
        have H := H1
        clear H1
        have H' := Aside0.mk H
        clear H
        go_wp2
        go_loopg [4] kj1 (fun kq v4 w' => ∃ (x4_2 : Int), v4 = .int .i64 x4_2 ∧ Aside0 (furrowworksref04_Furrow.l0 kq (l0_0.length : Int) x4_2 l0_0 l0_1 l0_2 = some r) ∧ Aside0 (kq ≤ kj1) ∧ Aside0 (w'.heap[gb102]? = some (.cells #[(.slice A0_0 l0_0.length c0_0), (.slice A0_1 l0_1.length c0_1), (.slice A0_2 l0_2.length c0_2)] 24 (0, 0))) ∧ Aside0 (Below w.heap.size w w'))
        case atStart => exact ⟨(0), (by first | rfl | (simp; done) | (simp [*]; done)), H', ⟨Nat.le_refl _⟩, ⟨by (with_reducible repeat (first | refine blk_drewN ?_ _ | refine blk_drew ?_ | refine blk_alloc ?_ _)); exact BK102.out⟩, ⟨by repeat (first | (with_reducible first | exact HB.out | apply below_alloc | apply pw_below_drewN | apply below_drew1 | refine below_set ?_ GE102.out) | exact HB.out)⟩⟩
        case round =>
          clear H'
          try clear p2
          try clear c3
          try clear c5
          try clear c5b0
          try clear c5b1
          try clear c6
          try clear c6b0
          try clear c6b1
          try clear c6b2
          try clear c9
          try clear hcz4_0
          try clear hcz4_1
          try clear hcz4_2
          try clear hcz7_0
          try clear hcz7_1
          try clear hcz7_2
          try clear hcz8_0
          try clear hcz8_1
          try clear hcz8_2
          try clear hfz4_0
          try clear hfz4_1
          try clear hfz4_2
          try clear hfz7_0
          try clear hfz7_1
          try clear hfz7_2
          try clear hfz8_0
          try clear hfz8_1
          try clear hfz8_2
          try clear p2
          obtain ⟨x4_2, rfl, HA, HK2, BK102, HB⟩ := hrel
          cases gk with
          | zero => exact absurd HA.out (by simp [furrowworksref04_Furrow.l0])
          | succ k2 =>
            have H := HA.out
            clear HA
            simp only [furrowworksref04_Furrow.l0] at H
            by_cases c10 : x4_2 < (l0_0.length : Int)
            · rw [if_pos c10] at H
              have c10b0 : decide (x4_2 < (l0_0.length : Int)) = true := decide_eq_true c10
              clear c10
              by_cases c11 : 0 ≤ x4_2
              · rw [if_pos c11] at H
                have c11b0 : decide (0 ≤ x4_2) = true := decide_eq_true c11
                clear c11
                by_cases c12 : x4_2 < (l0_0.length : Int)
                · rw [if_pos c12] at H
                  have c12b0 : decide (x4_2 < (l0_0.length : Int)) = true := decide_eq_true c12
                  clear c12
                  replace H := Option.bind_eq_some_iff.mp H
                  obtain ⟨t105, A130, H⟩ := H
                  replace H : (if t105 = true then (if (wrap64 (((rd_T28 l0_0 x4_2).f1) - ((rd_T28 l0_0 x4_2).f0))) > 6 then (some false) else (if x4_2 < (l0_1.length : Int) then ((furrowworksref04_span.f ((rd_T28 l0_1 x4_2).f0) ((rd_T28 l0_1 x4_2).f1) 1 60).bind fun t107 => (if t107 = true then (if x4_2 < (l0_2.length : Int) then ((furrowworksref04_span.f ((rd_T28 l0_2 x4_2).f0) ((rd_T28 l0_2 x4_2).f1) 0 40).bind fun t109 => (if t109 = true then (furrowworksref04_Furrow.l0 k2 (l0_0.length : Int) (wrap64 (x4_2 + 1)) l0_0 l0_1 l0_2) else (some false))) else (none)) else (some false))) else (none))) else (some false)) = some r := H
                  have A13 := Aside0.mk A130
                  clear A130
                  by_cases c14 : t105 = true
                  · subst c14
                    have H1 : (if (wrap64 (((rd_T28 l0_0 x4_2).f1) - ((rd_T28 l0_0 x4_2).f0))) > 6 then (some false) else (if x4_2 < (l0_1.length : Int) then ((furrowworksref04_span.f ((rd_T28 l0_1 x4_2).f0) ((rd_T28 l0_1 x4_2).f1) 1 60).bind fun t107 => (if t107 = true then (if x4_2 < (l0_2.length : Int) then ((furrowworksref04_span.f ((rd_T28 l0_2 x4_2).f0) ((rd_T28 l0_2 x4_2).f1) 0 40).bind fun t109 => (if t109 = true then (furrowworksref04_Furrow.l0 k2 (l0_0.length : Int) (wrap64 (x4_2 + 1)) l0_0 l0_1 l0_2) else (some false))) else (none)) else (some false))) else (none))) = some r := by rw [if_pos rfl] at H; exact H
                    clear H
                    have H := H1
                    clear H1
                    by_cases c15 : (wrap64 (((rd_T28 l0_0 x4_2).f1) - ((rd_T28 l0_0 x4_2).f0))) > 6
                    · rw [if_pos c15] at H
                      have c15b0 : decide (6 < (wrap64 (((rd_T28 l0_0 x4_2).f1) - ((rd_T28 l0_0 x4_2).f0)))) = true := decide_eq_true c15
                      clear c15
                      obtain rfl := Option.some.inj H
                      have hcz16_0 : wr.cell? ⟨gb102, 0, none⟩ = some (.slice A0_0 l0_0.length c0_0) := (blk_cell BK102.out 0).trans rfl
                      have hcz16_1 : wr.cell? ⟨gb102, 1, none⟩ = some (.slice A0_1 l0_1.length c0_1) := (blk_cell BK102.out 1).trans rfl
                      have hcz16_2 : wr.cell? ⟨gb102, 2, none⟩ = some (.slice A0_2 l0_2.length c0_2) := (blk_cell BK102.out 2).trans rfl
                      have hfz16_0 := blk_frozen BK102.out 0
                      have hfz16_1 := blk_frozen BK102.out 1
                      have hfz16_2 := blk_frozen BK102.out 2
                      have p103 : 0 ≤ (x4_2 : Int) := of_decide_eq_true (by first | (with_reducible assumption) | assumption)
                      have q103 : x4_2 < (l0_0.length : Int) := of_decide_eq_true (by first | (with_reducible assumption) | assumption)
                      obtain ⟨ad103, e103, hx103_0, hx103_1⟩ := at_T28 HR0_0.out x4_2 p103 q103
                      cases e103
                      replace hx103_0 := (HB.out.cell (World.block_lt_of_cell? w _ hx103_0)).trans hx103_0
                      replace hx103_1 := (HB.out.cell (World.block_lt_of_cell? w _ hx103_1)).trans hx103_1
                      replace p103 := eq_true p103
                      replace q103 := eq_true q103
                      go_wp2_with (first | ((with_reducible refine gate_dst (N := 5) rfl ?_); (try (refine gate_guard (by rfl) ?_; dsimp only)); refine box_event ?hg (N := 5) ?hd (cs := #[.int .i64 0, .int .i64 0]) (t := 28) ?hr ?_; (case hd => rfl); (case hg => rfl); (case hr => first | (go_simp; done) | (go_simp; rfl)); intro gb104 hg w17 hbox hb; have n0_ := Aside0.mk (blk_below (g := gb102) (o := .cells #[.slice (some ad103) l0_0.length c0_0, .slice A0_1 l0_1.length c0_1, .slice A0_2 l0_2.length c0_2] 24 (0, 0)) (by (with_reducible repeat (first | refine blk_drewN ?_ _ | refine blk_drew ?_ | refine blk_alloc ?_ _)); exact BK102.out) hb); have n1_ := Aside0.mk (below_step (by repeat (first | (with_reducible first | exact HB.out | apply below_alloc | apply pw_below_drewN | apply below_drew1 | refine below_set ?_ GE102.out) | exact HB.out)) hb); have n2_ := Aside0.mk (hbox); have n3_ := Aside0.mk ((by rw [hg]; exact (below_size (by repeat (first | (with_reducible first | exact HB.out | apply below_alloc | apply pw_below_drewN | apply below_drew1 | refine below_set ?_ GE102.out) | exact HB.out))) : w.heap.size ≤ gb104)); have n4_ := Aside0.mk ((by rw [hg]; exact (below_size (by repeat (first | (with_reducible first | exact HB.out | apply below_alloc | apply pw_below_drewN | apply below_drew1 | refine below_set ?_ GE102.out) | exact HB.out))) : w.heap.size ≤ gb104)); have n5_ := Aside0.mk ((by rw [hg]; exact Nat.ne_of_lt (blk_lt (g := gb102) (o := .cells #[.slice (some ad103) l0_0.length c0_0, .slice A0_1 l0_1.length c0_1, .slice A0_2 l0_2.length c0_2] 24 (0, 0)) (by (with_reducible repeat (first | refine blk_drewN ?_ _ | refine blk_drew ?_ | refine blk_alloc ?_ _)); exact BK102.out)) : gb102 ≠ gb104)); have n6_ := Aside0.mk ((by rw [hg]; exact Nat.ne_of_gt (blk_lt (g := gb102) (o := .cells #[.slice (some ad103) l0_0.length c0_0, .slice A0_1 l0_1.length c0_1, .slice A0_2 l0_2.length c0_2] 24 (0, 0)) (by (with_reducible repeat (first | refine blk_drewN ?_ _ | refine blk_drew ?_ | refine blk_alloc ?_ _)); exact BK102.out)) : gb104 ≠ gb102)); clear BK102; clear HB; have BK102 := n0_; have HB := n1_; have BK104 := n2_; have GW104 := n3_; have GE104 := n4_; have NB102_104 := n5_; have NB104_102 := n6_; clear n0_ n1_ n2_ n3_ n4_ n5_ n6_; clear hb hbox hg; have hnb18 := NB104_102.out; have hnc18 := NB102_104.out; have hcz19_0 : w17.cell? ⟨gb104, 0, none⟩ = some (.int .i64 0) := (blk_cell BK104.out 0).trans rfl; have hcz19_1 : w17.cell? ⟨gb104, 1, none⟩ = some (.int .i64 0) := (blk_cell BK104.out 1).trans rfl; have hfz19_0 := blk_frozen BK104.out 0; have hfz19_1 := blk_frozen BK104.out 1) | ((with_reducible refine gate_callee (f := 76) rfl ?_); refine goesL_ (some 36) rfl rfl Try.func76 (by kernel_rfl) rfl #[.agg #[.int .i64 ((rd_T28 l0_0 x4_2).f0), .int .i64 ((rd_T28 l0_0 x4_2).f1)], .int .i64 (-12), .int .i64 12] rfl (by (try simp only [List.map_toArray, List.map_cons, List.map_nil]); first | done | rfl | (simp only [List.length_drop, List.length_take]; rfl)) ?_; (with_reducible refine (furrowworksref04_span.calls ((rd_T28 l0_0 x4_2).f0) ((rd_T28 l0_0 x4_2).f1) (-12) 12 true _ A13.out).mono ?_); rintro e w20 ⟨rfl, hb⟩; refine ⟨_, rfl, ?_⟩; have n0_ := Aside0.mk (blk_below (g := gb102) (o := .cells #[.slice (some ad103) l0_0.length c0_0, .slice A0_1 l0_1.length c0_1, .slice A0_2 l0_2.length c0_2] 24 (0, 0)) (by (with_reducible repeat (first | refine blk_drewN ?_ _ | refine blk_drew ?_ | refine blk_alloc ?_ _)); refine blk_far ?_ NB102_104.out _; (with_reducible repeat (first | refine blk_drewN ?_ _ | refine blk_drew ?_ | refine blk_alloc ?_ _)); refine blk_far ?_ NB102_104.out _; (with_reducible repeat (first | refine blk_drewN ?_ _ | refine blk_drew ?_ | refine blk_alloc ?_ _)); exact BK102.out) hb); have n1_ := Aside0.mk (blk_below (g := gb104) (o := .cells #[.int .i64 ((rd_T28 l0_0 x4_2).f0), .int .i64 ((rd_T28 l0_0 x4_2).f1)] 28 (0, 0)) (by (with_reducible repeat (first | refine blk_drewN ?_ _ | refine blk_drew ?_ | refine blk_alloc ?_ _)); refine blk_put (cs := #[.int .i64 ((rd_T28 l0_0 x4_2).f0), .int .i64 0]) ?_ 1 _ rfl; (with_reducible repeat (first | refine blk_drewN ?_ _ | refine blk_drew ?_ | refine blk_alloc ?_ _)); refine blk_put (cs := #[.int .i64 0, .int .i64 0]) ?_ 0 _ rfl; (with_reducible repeat (first | refine blk_drewN ?_ _ | refine blk_drew ?_ | refine blk_alloc ?_ _)); exact BK104.out) hb); have n2_ := Aside0.mk (below_step (by repeat (first | (with_reducible first | exact HB.out | apply below_alloc | apply pw_below_drewN | apply below_drew1 | refine below_set ?_ GE102.out | refine below_set ?_ GE104.out) | exact HB.out)) hb); clear BK102; clear BK104; clear HB; have BK102 := n0_; have BK104 := n1_; have HB := n2_; clear n0_ n1_ n2_; (try clear hb); (try clear hb2); (try clear hk); (try clear hi); have hcz21_0 : w20.cell? ⟨gb104, 0, none⟩ = some (.int .i64 ((rd_T28 l0_0 x4_2).f0)) := (blk_cell BK104.out 0).trans rfl; have hcz21_1 : w20.cell? ⟨gb104, 1, none⟩ = some (.int .i64 ((rd_T28 l0_0 x4_2).f1)) := (blk_cell BK104.out 1).trans rfl; have hfz21_0 := blk_frozen BK104.out 0; have hfz21_1 := blk_frozen BK104.out 1))
                      go_ret
                      exact ⟨by first | rfl | (simp [errW_none, errW_some] <;> rfl) | (simp [*, errW_none, errW_some] <;> rfl), by repeat (first | (with_reducible first | exact HB.out | apply below_alloc | apply pw_below_drewN | apply below_drew1 | refine below_set ?_ GE102.out | refine below_set ?_ GE104.out) | exact HB.out)⟩
                    · rw [if_neg c15] at H
                      have c15b0 : decide (6 < (wrap64 (((rd_T28 l0_0 x4_2).f1) - ((rd_T28 l0_0 x4_2).f0)))) = false := decide_eq_false c15
                      clear c15
                      by_cases c22 : x4_2 < (l0_1.length : Int)
                      · rw [if_pos c22] at H
                        have c22b0 : decide (x4_2 < (l0_1.length : Int)) = true := decide_eq_true c22
                        clear c22
                        replace H := Option.bind_eq_some_iff.mp H
                        obtain ⟨t107, A230, H⟩ := H
                        replace H : (if t107 = true then (if x4_2 < (l0_2.length : Int) then ((furrowworksref04_span.f ((rd_T28 l0_2 x4_2).f0) ((rd_T28 l0_2 x4_2).f1) 0 40).bind fun t109 => (if t109 = true then (furrowworksref04_Furrow.l0 k2 (l0_0.length : Int) (wrap64 (x4_2 + 1)) l0_0 l0_1 l0_2) else (some false))) else (none)) else (some false)) = some r := H
                        have A23 := Aside0.mk A230
                        clear A230
                        by_cases c24 : t107 = true
                        · subst c24
                          have H1 : (if x4_2 < (l0_2.length : Int) then ((furrowworksref04_span.f ((rd_T28 l0_2 x4_2).f0) ((rd_T28 l0_2 x4_2).f1) 0 40).bind fun t109 => (if t109 = true then (furrowworksref04_Furrow.l0 k2 (l0_0.length : Int) (wrap64 (x4_2 + 1)) l0_0 l0_1 l0_2) else (some false))) else (none)) = some r := by rw [if_pos rfl] at H; exact H
                          clear H
                          have H := H1
                          clear H1
                          by_cases c25 : x4_2 < (l0_2.length : Int)
                          · rw [if_pos c25] at H
                            have c25b0 : decide (x4_2 < (l0_2.length : Int)) = true := decide_eq_true c25
                            clear c25
                            replace H := Option.bind_eq_some_iff.mp H
                            obtain ⟨t109, A260, H⟩ := H
                            replace H : (if t109 = true then (furrowworksref04_Furrow.l0 k2 (l0_0.length : Int) (wrap64 (x4_2 + 1)) l0_0 l0_1 l0_2) else (some false)) = some r := H
                            have A26 := Aside0.mk A260
                            clear A260
                            by_cases c27 : t109 = true
                            · subst c27
                              have H1 : (furrowworksref04_Furrow.l0 k2 (l0_0.length : Int) (wrap64 (x4_2 + 1)) l0_0 l0_1 l0_2) = some r := by rw [if_pos rfl] at H; exact H
                              clear H
                              have H := H1
                              clear H1
                              have H' := Aside0.mk H
                              clear H
                              have hcz28_0 : wr.cell? ⟨gb102, 0, none⟩ = some (.slice A0_0 l0_0.length c0_0) := (blk_cell BK102.out 0).trans rfl
                              have hcz28_1 : wr.cell? ⟨gb102, 1, none⟩ = some (.slice A0_1 l0_1.length c0_1) := (blk_cell BK102.out 1).trans rfl
                              have hcz28_2 : wr.cell? ⟨gb102, 2, none⟩ = some (.slice A0_2 l0_2.length c0_2) := (blk_cell BK102.out 2).trans rfl
                              have hfz28_0 := blk_frozen BK102.out 0
                              have hfz28_1 := blk_frozen BK102.out 1
                              have hfz28_2 := blk_frozen BK102.out 2
                              have p103 : 0 ≤ (x4_2 : Int) := of_decide_eq_true (by first | (with_reducible assumption) | assumption)
                              have q103 : x4_2 < (l0_0.length : Int) := of_decide_eq_true (by first | (with_reducible assumption) | assumption)
                              obtain ⟨ad103, e103, hx103_0, hx103_1⟩ := at_T28 HR0_0.out x4_2 p103 q103
                              cases e103
                              replace hx103_0 := (HB.out.cell (World.block_lt_of_cell? w _ hx103_0)).trans hx103_0
                              replace hx103_1 := (HB.out.cell (World.block_lt_of_cell? w _ hx103_1)).trans hx103_1
                              replace p103 := eq_true p103
                              replace q103 := eq_true q103
                              go_wp2_with (first | ((with_reducible refine gate_dst (N := 5) rfl ?_); (try (refine gate_guard (by rfl) ?_; dsimp only)); refine box_event ?hg (N := 5) ?hd (cs := #[.int .i64 0, .int .i64 0]) (t := 28) ?hr ?_; (case hd => rfl); (case hg => rfl); (case hr => first | (go_simp; done) | (go_simp; rfl)); intro gb104 hg w29 hbox hb; have n0_ := Aside0.mk (blk_below (g := gb102) (o := .cells #[.slice (some ad103) l0_0.length c0_0, .slice A0_1 l0_1.length c0_1, .slice A0_2 l0_2.length c0_2] 24 (0, 0)) (by (with_reducible repeat (first | refine blk_drewN ?_ _ | refine blk_drew ?_ | refine blk_alloc ?_ _)); exact BK102.out) hb); have n1_ := Aside0.mk (below_step (by repeat (first | (with_reducible first | exact HB.out | apply below_alloc | apply pw_below_drewN | apply below_drew1 | refine below_set ?_ GE102.out) | exact HB.out)) hb); have n2_ := Aside0.mk (hbox); have n3_ := Aside0.mk ((by rw [hg]; exact (below_size (by repeat (first | (with_reducible first | exact HB.out | apply below_alloc | apply pw_below_drewN | apply below_drew1 | refine below_set ?_ GE102.out) | exact HB.out))) : w.heap.size ≤ gb104)); have n4_ := Aside0.mk ((by rw [hg]; exact (below_size (by repeat (first | (with_reducible first | exact HB.out | apply below_alloc | apply pw_below_drewN | apply below_drew1 | refine below_set ?_ GE102.out) | exact HB.out))) : w.heap.size ≤ gb104)); have n5_ := Aside0.mk ((by rw [hg]; exact Nat.ne_of_lt (blk_lt (g := gb102) (o := .cells #[.slice (some ad103) l0_0.length c0_0, .slice A0_1 l0_1.length c0_1, .slice A0_2 l0_2.length c0_2] 24 (0, 0)) (by (with_reducible repeat (first | refine blk_drewN ?_ _ | refine blk_drew ?_ | refine blk_alloc ?_ _)); exact BK102.out)) : gb102 ≠ gb104)); have n6_ := Aside0.mk ((by rw [hg]; exact Nat.ne_of_gt (blk_lt (g := gb102) (o := .cells #[.slice (some ad103) l0_0.length c0_0, .slice A0_1 l0_1.length c0_1, .slice A0_2 l0_2.length c0_2] 24 (0, 0)) (by (with_reducible repeat (first | refine blk_drewN ?_ _ | refine blk_drew ?_ | refine blk_alloc ?_ _)); exact BK102.out)) : gb104 ≠ gb102)); clear BK102; clear HB; have BK102 := n0_; have HB := n1_; have BK104 := n2_; have GW104 := n3_; have GE104 := n4_; have NB102_104 := n5_; have NB104_102 := n6_; clear n0_ n1_ n2_ n3_ n4_ n5_ n6_; clear hb hbox hg; have hnb30 := NB104_102.out; have hnc30 := NB102_104.out; have hcz31_0 : w29.cell? ⟨gb104, 0, none⟩ = some (.int .i64 0) := (blk_cell BK104.out 0).trans rfl; have hcz31_1 : w29.cell? ⟨gb104, 1, none⟩ = some (.int .i64 0) := (blk_cell BK104.out 1).trans rfl; have hfz31_0 := blk_frozen BK104.out 0; have hfz31_1 := blk_frozen BK104.out 1) | ((with_reducible refine gate_callee (f := 76) rfl ?_); refine goesL_ (some 36) rfl rfl Try.func76 (by kernel_rfl) rfl #[.agg #[.int .i64 ((rd_T28 l0_0 x4_2).f0), .int .i64 ((rd_T28 l0_0 x4_2).f1)], .int .i64 (-12), .int .i64 12] rfl (by (try simp only [List.map_toArray, List.map_cons, List.map_nil]); first | done | rfl | (simp only [List.length_drop, List.length_take]; rfl)) ?_; (with_reducible refine (furrowworksref04_span.calls ((rd_T28 l0_0 x4_2).f0) ((rd_T28 l0_0 x4_2).f1) (-12) 12 true _ A13.out).mono ?_); rintro e w32 ⟨rfl, hb⟩; refine ⟨_, rfl, ?_⟩; have n0_ := Aside0.mk (blk_below (g := gb102) (o := .cells #[.slice (some ad103) l0_0.length c0_0, .slice A0_1 l0_1.length c0_1, .slice A0_2 l0_2.length c0_2] 24 (0, 0)) (by (with_reducible repeat (first | refine blk_drewN ?_ _ | refine blk_drew ?_ | refine blk_alloc ?_ _)); refine blk_far ?_ NB102_104.out _; (with_reducible repeat (first | refine blk_drewN ?_ _ | refine blk_drew ?_ | refine blk_alloc ?_ _)); refine blk_far ?_ NB102_104.out _; (with_reducible repeat (first | refine blk_drewN ?_ _ | refine blk_drew ?_ | refine blk_alloc ?_ _)); exact BK102.out) hb); have n1_ := Aside0.mk (blk_below (g := gb104) (o := .cells #[.int .i64 ((rd_T28 l0_0 x4_2).f0), .int .i64 ((rd_T28 l0_0 x4_2).f1)] 28 (0, 0)) (by (with_reducible repeat (first | refine blk_drewN ?_ _ | refine blk_drew ?_ | refine blk_alloc ?_ _)); refine blk_put (cs := #[.int .i64 ((rd_T28 l0_0 x4_2).f0), .int .i64 0]) ?_ 1 _ rfl; (with_reducible repeat (first | refine blk_drewN ?_ _ | refine blk_drew ?_ | refine blk_alloc ?_ _)); refine blk_put (cs := #[.int .i64 0, .int .i64 0]) ?_ 0 _ rfl; (with_reducible repeat (first | refine blk_drewN ?_ _ | refine blk_drew ?_ | refine blk_alloc ?_ _)); exact BK104.out) hb); have n2_ := Aside0.mk (below_step (by repeat (first | (with_reducible first | exact HB.out | apply below_alloc | apply pw_below_drewN | apply below_drew1 | refine below_set ?_ GE102.out | refine below_set ?_ GE104.out) | exact HB.out)) hb); clear BK102; clear BK104; clear HB; have BK102 := n0_; have BK104 := n1_; have HB := n2_; clear n0_ n1_ n2_; (try clear hb); (try clear hb2); (try clear hk); (try clear hi); have hcz33_0 : w32.cell? ⟨gb104, 0, none⟩ = some (.int .i64 ((rd_T28 l0_0 x4_2).f0)) := (blk_cell BK104.out 0).trans rfl; have hcz33_1 : w32.cell? ⟨gb104, 1, none⟩ = some (.int .i64 ((rd_T28 l0_0 x4_2).f1)) := (blk_cell BK104.out 1).trans rfl; have hfz33_0 := blk_frozen BK104.out 0; have hfz33_1 := blk_frozen BK104.out 1; have hcz34_0 : w32.cell? ⟨gb102, 0, none⟩ = some (.slice (some ad103) l0_0.length c0_0) := (blk_cell BK102.out 0).trans rfl; have hcz34_1 : w32.cell? ⟨gb102, 1, none⟩ = some (.slice A0_1 l0_1.length c0_1) := (blk_cell BK102.out 1).trans rfl; have hcz34_2 : w32.cell? ⟨gb102, 2, none⟩ = some (.slice A0_2 l0_2.length c0_2) := (blk_cell BK102.out 2).trans rfl; have hfz34_0 := blk_frozen BK102.out 0; have hfz34_1 := blk_frozen BK102.out 1; have hfz34_2 := blk_frozen BK102.out 2; have p106 : 0 ≤ (x4_2 : Int) := of_decide_eq_true (by first | (with_reducible assumption) | assumption); have q106 : x4_2 < (l0_1.length : Int) := of_decide_eq_true (by first | (with_reducible assumption) | assumption); obtain ⟨ad106, e106, hx106_0, hx106_1⟩ := at_T28 HR0_1.out x4_2 p106 q106; cases e106; replace hx106_0 := (HB.out.cell (World.block_lt_of_cell? w _ hx106_0)).trans hx106_0; replace hx106_1 := (HB.out.cell (World.block_lt_of_cell? w _ hx106_1)).trans hx106_1; replace p106 := eq_true p106; replace q106 := eq_true q106) | (go_at_call 76; (with_reducible refine (furrowworksref04_span.calls ((rd_T28 l0_1 x4_2).f0) ((rd_T28 l0_1 x4_2).f1) 1 60 true _ A23.out).mono ?_); rintro e w35 ⟨rfl, hb⟩; have n0_ := Aside0.mk (blk_below (g := gb102) (o := .cells #[.slice (some ad103) l0_0.length c0_0, .slice (some ad106) l0_1.length c0_1, .slice A0_2 l0_2.length c0_2] 24 (0, 0)) (by (with_reducible repeat (first | refine blk_drewN ?_ _ | refine blk_drew ?_ | refine blk_alloc ?_ _)); exact BK102.out) hb); have n1_ := Aside0.mk (blk_below (g := gb104) (o := .cells #[.int .i64 ((rd_T28 l0_0 x4_2).f0), .int .i64 ((rd_T28 l0_0 x4_2).f1)] 28 (0, 0)) (by (with_reducible repeat (first | refine blk_drewN ?_ _ | refine blk_drew ?_ | refine blk_alloc ?_ _)); exact BK104.out) hb); have n2_ := Aside0.mk (below_step (by repeat (first | (with_reducible first | exact HB.out | apply below_alloc | apply pw_below_drewN | apply below_drew1 | refine below_set ?_ GE102.out | refine below_set ?_ GE104.out) | exact HB.out)) hb); clear BK102; clear BK104; clear HB; have BK102 := n0_; have BK104 := n1_; have HB := n2_; clear n0_ n1_ n2_; (try clear hb); (try clear hb2); (try clear hk); (try clear hi); have hcz36_0 : w35.cell? ⟨gb102, 0, none⟩ = some (.slice (some ad103) l0_0.length c0_0) := (blk_cell BK102.out 0).trans rfl; have hcz36_1 : w35.cell? ⟨gb102, 1, none⟩ = some (.slice (some ad106) l0_1.length c0_1) := (blk_cell BK102.out 1).trans rfl; have hcz36_2 : w35.cell? ⟨gb102, 2, none⟩ = some (.slice A0_2 l0_2.length c0_2) := (blk_cell BK102.out 2).trans rfl; have hfz36_0 := blk_frozen BK102.out 0; have hfz36_1 := blk_frozen BK102.out 1; have hfz36_2 := blk_frozen BK102.out 2; have p108 : 0 ≤ (x4_2 : Int) := of_decide_eq_true (by first | (with_reducible assumption) | assumption); have q108 : x4_2 < (l0_2.length : Int) := of_decide_eq_true (by first | (with_reducible assumption) | assumption); obtain ⟨ad108, e108, hx108_0, hx108_1⟩ := at_T28 HR0_2.out x4_2 p108 q108; cases e108; replace hx108_0 := (HB.out.cell (World.block_lt_of_cell? w _ hx108_0)).trans hx108_0; replace hx108_1 := (HB.out.cell (World.block_lt_of_cell? w _ hx108_1)).trans hx108_1; replace p108 := eq_true p108; replace q108 := eq_true q108) | (go_at_call 76; (with_reducible refine (furrowworksref04_span.calls ((rd_T28 l0_2 x4_2).f0) ((rd_T28 l0_2 x4_2).f1) 0 40 true _ A26.out).mono ?_); rintro e w37 ⟨rfl, hb⟩; have n0_ := Aside0.mk (blk_below (g := gb102) (o := .cells #[.slice (some ad103) l0_0.length c0_0, .slice (some ad106) l0_1.length c0_1, .slice (some ad108) l0_2.length c0_2] 24 (0, 0)) (by (with_reducible repeat (first | refine blk_drewN ?_ _ | refine blk_drew ?_ | refine blk_alloc ?_ _)); exact BK102.out) hb); have n1_ := Aside0.mk (blk_below (g := gb104) (o := .cells #[.int .i64 ((rd_T28 l0_0 x4_2).f0), .int .i64 ((rd_T28 l0_0 x4_2).f1)] 28 (0, 0)) (by (with_reducible repeat (first | refine blk_drewN ?_ _ | refine blk_drew ?_ | refine blk_alloc ?_ _)); exact BK104.out) hb); have n2_ := Aside0.mk (below_step (by repeat (first | (with_reducible first | exact HB.out | apply below_alloc | apply pw_below_drewN | apply below_drew1 | refine below_set ?_ GE102.out | refine below_set ?_ GE104.out) | exact HB.out)) hb); clear BK102; clear BK104; clear HB; have BK102 := n0_; have BK104 := n1_; have HB := n2_; clear n0_ n1_ n2_; (try clear hb); (try clear hb2); (try clear hk); (try clear hi)))
                              go_roundg k2
                              case measure => have := HJ1.out; have := HK2.out; omega
                              case rel => exact ⟨(wrap64 (x4_2 + 1)), (by first | rfl | (simp; done) | (simp [*]; done)), H', ⟨by have := HJ1.out; have := HK2.out; omega⟩, ⟨by (with_reducible repeat (first | refine blk_drewN ?_ _ | refine blk_drew ?_ | refine blk_alloc ?_ _)); exact BK102.out⟩, ⟨by repeat (first | (with_reducible first | exact HB.out | apply below_alloc | apply pw_below_drewN | apply below_drew1 | refine below_set ?_ GE102.out | refine below_set ?_ GE104.out) | exact HB.out)⟩⟩
                            · replace c27 := Bool.eq_false_iff.mpr c27
                              subst c27
                              have H1 : (some false) = some r := by rw [if_neg (show ¬ (false = true) by decide)] at H; exact H
                              clear H
                              have H := H1
                              clear H1
                              obtain rfl := Option.some.inj H
                              have hcz38_0 : wr.cell? ⟨gb102, 0, none⟩ = some (.slice A0_0 l0_0.length c0_0) := (blk_cell BK102.out 0).trans rfl
                              have hcz38_1 : wr.cell? ⟨gb102, 1, none⟩ = some (.slice A0_1 l0_1.length c0_1) := (blk_cell BK102.out 1).trans rfl
                              have hcz38_2 : wr.cell? ⟨gb102, 2, none⟩ = some (.slice A0_2 l0_2.length c0_2) := (blk_cell BK102.out 2).trans rfl
                              have hfz38_0 := blk_frozen BK102.out 0
                              have hfz38_1 := blk_frozen BK102.out 1
                              have hfz38_2 := blk_frozen BK102.out 2
                              have p103 : 0 ≤ (x4_2 : Int) := of_decide_eq_true (by first | (with_reducible assumption) | assumption)
                              have q103 : x4_2 < (l0_0.length : Int) := of_decide_eq_true (by first | (with_reducible assumption) | assumption)
                              obtain ⟨ad103, e103, hx103_0, hx103_1⟩ := at_T28 HR0_0.out x4_2 p103 q103
                              cases e103
                              replace hx103_0 := (HB.out.cell (World.block_lt_of_cell? w _ hx103_0)).trans hx103_0
                              replace hx103_1 := (HB.out.cell (World.block_lt_of_cell? w _ hx103_1)).trans hx103_1
                              replace p103 := eq_true p103
                              replace q103 := eq_true q103
                              go_wp2_with (first | ((with_reducible refine gate_dst (N := 5) rfl ?_); (try (refine gate_guard (by rfl) ?_; dsimp only)); refine box_event ?hg (N := 5) ?hd (cs := #[.int .i64 0, .int .i64 0]) (t := 28) ?hr ?_; (case hd => rfl); (case hg => rfl); (case hr => first | (go_simp; done) | (go_simp; rfl)); intro gb104 hg w39 hbox hb; have n0_ := Aside0.mk (blk_below (g := gb102) (o := .cells #[.slice (some ad103) l0_0.length c0_0, .slice A0_1 l0_1.length c0_1, .slice A0_2 l0_2.length c0_2] 24 (0, 0)) (by (with_reducible repeat (first | refine blk_drewN ?_ _ | refine blk_drew ?_ | refine blk_alloc ?_ _)); exact BK102.out) hb); have n1_ := Aside0.mk (below_step (by repeat (first | (with_reducible first | exact HB.out | apply below_alloc | apply pw_below_drewN | apply below_drew1 | refine below_set ?_ GE102.out) | exact HB.out)) hb); have n2_ := Aside0.mk (hbox); have n3_ := Aside0.mk ((by rw [hg]; exact (below_size (by repeat (first | (with_reducible first | exact HB.out | apply below_alloc | apply pw_below_drewN | apply below_drew1 | refine below_set ?_ GE102.out) | exact HB.out))) : w.heap.size ≤ gb104)); have n4_ := Aside0.mk ((by rw [hg]; exact (below_size (by repeat (first | (with_reducible first | exact HB.out | apply below_alloc | apply pw_below_drewN | apply below_drew1 | refine below_set ?_ GE102.out) | exact HB.out))) : w.heap.size ≤ gb104)); have n5_ := Aside0.mk ((by rw [hg]; exact Nat.ne_of_lt (blk_lt (g := gb102) (o := .cells #[.slice (some ad103) l0_0.length c0_0, .slice A0_1 l0_1.length c0_1, .slice A0_2 l0_2.length c0_2] 24 (0, 0)) (by (with_reducible repeat (first | refine blk_drewN ?_ _ | refine blk_drew ?_ | refine blk_alloc ?_ _)); exact BK102.out)) : gb102 ≠ gb104)); have n6_ := Aside0.mk ((by rw [hg]; exact Nat.ne_of_gt (blk_lt (g := gb102) (o := .cells #[.slice (some ad103) l0_0.length c0_0, .slice A0_1 l0_1.length c0_1, .slice A0_2 l0_2.length c0_2] 24 (0, 0)) (by (with_reducible repeat (first | refine blk_drewN ?_ _ | refine blk_drew ?_ | refine blk_alloc ?_ _)); exact BK102.out)) : gb104 ≠ gb102)); clear BK102; clear HB; have BK102 := n0_; have HB := n1_; have BK104 := n2_; have GW104 := n3_; have GE104 := n4_; have NB102_104 := n5_; have NB104_102 := n6_; clear n0_ n1_ n2_ n3_ n4_ n5_ n6_; clear hb hbox hg; have hnb40 := NB104_102.out; have hnc40 := NB102_104.out; have hcz41_0 : w39.cell? ⟨gb104, 0, none⟩ = some (.int .i64 0) := (blk_cell BK104.out 0).trans rfl; have hcz41_1 : w39.cell? ⟨gb104, 1, none⟩ = some (.int .i64 0) := (blk_cell BK104.out 1).trans rfl; have hfz41_0 := blk_frozen BK104.out 0; have hfz41_1 := blk_frozen BK104.out 1) | ((with_reducible refine gate_callee (f := 76) rfl ?_); refine goesL_ (some 36) rfl rfl Try.func76 (by kernel_rfl) rfl #[.agg #[.int .i64 ((rd_T28 l0_0 x4_2).f0), .int .i64 ((rd_T28 l0_0 x4_2).f1)], .int .i64 (-12), .int .i64 12] rfl (by (try simp only [List.map_toArray, List.map_cons, List.map_nil]); first | done | rfl | (simp only [List.length_drop, List.length_take]; rfl)) ?_; (with_reducible refine (furrowworksref04_span.calls ((rd_T28 l0_0 x4_2).f0) ((rd_T28 l0_0 x4_2).f1) (-12) 12 true _ A13.out).mono ?_); rintro e w42 ⟨rfl, hb⟩; refine ⟨_, rfl, ?_⟩; have n0_ := Aside0.mk (blk_below (g := gb102) (o := .cells #[.slice (some ad103) l0_0.length c0_0, .slice A0_1 l0_1.length c0_1, .slice A0_2 l0_2.length c0_2] 24 (0, 0)) (by (with_reducible repeat (first | refine blk_drewN ?_ _ | refine blk_drew ?_ | refine blk_alloc ?_ _)); refine blk_far ?_ NB102_104.out _; (with_reducible repeat (first | refine blk_drewN ?_ _ | refine blk_drew ?_ | refine blk_alloc ?_ _)); refine blk_far ?_ NB102_104.out _; (with_reducible repeat (first | refine blk_drewN ?_ _ | refine blk_drew ?_ | refine blk_alloc ?_ _)); exact BK102.out) hb); have n1_ := Aside0.mk (blk_below (g := gb104) (o := .cells #[.int .i64 ((rd_T28 l0_0 x4_2).f0), .int .i64 ((rd_T28 l0_0 x4_2).f1)] 28 (0, 0)) (by (with_reducible repeat (first | refine blk_drewN ?_ _ | refine blk_drew ?_ | refine blk_alloc ?_ _)); refine blk_put (cs := #[.int .i64 ((rd_T28 l0_0 x4_2).f0), .int .i64 0]) ?_ 1 _ rfl; (with_reducible repeat (first | refine blk_drewN ?_ _ | refine blk_drew ?_ | refine blk_alloc ?_ _)); refine blk_put (cs := #[.int .i64 0, .int .i64 0]) ?_ 0 _ rfl; (with_reducible repeat (first | refine blk_drewN ?_ _ | refine blk_drew ?_ | refine blk_alloc ?_ _)); exact BK104.out) hb); have n2_ := Aside0.mk (below_step (by repeat (first | (with_reducible first | exact HB.out | apply below_alloc | apply pw_below_drewN | apply below_drew1 | refine below_set ?_ GE102.out | refine below_set ?_ GE104.out) | exact HB.out)) hb); clear BK102; clear BK104; clear HB; have BK102 := n0_; have BK104 := n1_; have HB := n2_; clear n0_ n1_ n2_; (try clear hb); (try clear hb2); (try clear hk); (try clear hi); have hcz43_0 : w42.cell? ⟨gb104, 0, none⟩ = some (.int .i64 ((rd_T28 l0_0 x4_2).f0)) := (blk_cell BK104.out 0).trans rfl; have hcz43_1 : w42.cell? ⟨gb104, 1, none⟩ = some (.int .i64 ((rd_T28 l0_0 x4_2).f1)) := (blk_cell BK104.out 1).trans rfl; have hfz43_0 := blk_frozen BK104.out 0; have hfz43_1 := blk_frozen BK104.out 1; have hcz44_0 : w42.cell? ⟨gb102, 0, none⟩ = some (.slice (some ad103) l0_0.length c0_0) := (blk_cell BK102.out 0).trans rfl; have hcz44_1 : w42.cell? ⟨gb102, 1, none⟩ = some (.slice A0_1 l0_1.length c0_1) := (blk_cell BK102.out 1).trans rfl; have hcz44_2 : w42.cell? ⟨gb102, 2, none⟩ = some (.slice A0_2 l0_2.length c0_2) := (blk_cell BK102.out 2).trans rfl; have hfz44_0 := blk_frozen BK102.out 0; have hfz44_1 := blk_frozen BK102.out 1; have hfz44_2 := blk_frozen BK102.out 2; have p106 : 0 ≤ (x4_2 : Int) := of_decide_eq_true (by first | (with_reducible assumption) | assumption); have q106 : x4_2 < (l0_1.length : Int) := of_decide_eq_true (by first | (with_reducible assumption) | assumption); obtain ⟨ad106, e106, hx106_0, hx106_1⟩ := at_T28 HR0_1.out x4_2 p106 q106; cases e106; replace hx106_0 := (HB.out.cell (World.block_lt_of_cell? w _ hx106_0)).trans hx106_0; replace hx106_1 := (HB.out.cell (World.block_lt_of_cell? w _ hx106_1)).trans hx106_1; replace p106 := eq_true p106; replace q106 := eq_true q106) | (go_at_call 76; (with_reducible refine (furrowworksref04_span.calls ((rd_T28 l0_1 x4_2).f0) ((rd_T28 l0_1 x4_2).f1) 1 60 true _ A23.out).mono ?_); rintro e w45 ⟨rfl, hb⟩; have n0_ := Aside0.mk (blk_below (g := gb102) (o := .cells #[.slice (some ad103) l0_0.length c0_0, .slice (some ad106) l0_1.length c0_1, .slice A0_2 l0_2.length c0_2] 24 (0, 0)) (by (with_reducible repeat (first | refine blk_drewN ?_ _ | refine blk_drew ?_ | refine blk_alloc ?_ _)); exact BK102.out) hb); have n1_ := Aside0.mk (blk_below (g := gb104) (o := .cells #[.int .i64 ((rd_T28 l0_0 x4_2).f0), .int .i64 ((rd_T28 l0_0 x4_2).f1)] 28 (0, 0)) (by (with_reducible repeat (first | refine blk_drewN ?_ _ | refine blk_drew ?_ | refine blk_alloc ?_ _)); exact BK104.out) hb); have n2_ := Aside0.mk (below_step (by repeat (first | (with_reducible first | exact HB.out | apply below_alloc | apply pw_below_drewN | apply below_drew1 | refine below_set ?_ GE102.out | refine below_set ?_ GE104.out) | exact HB.out)) hb); clear BK102; clear BK104; clear HB; have BK102 := n0_; have BK104 := n1_; have HB := n2_; clear n0_ n1_ n2_; (try clear hb); (try clear hb2); (try clear hk); (try clear hi); have hcz46_0 : w45.cell? ⟨gb102, 0, none⟩ = some (.slice (some ad103) l0_0.length c0_0) := (blk_cell BK102.out 0).trans rfl; have hcz46_1 : w45.cell? ⟨gb102, 1, none⟩ = some (.slice (some ad106) l0_1.length c0_1) := (blk_cell BK102.out 1).trans rfl; have hcz46_2 : w45.cell? ⟨gb102, 2, none⟩ = some (.slice A0_2 l0_2.length c0_2) := (blk_cell BK102.out 2).trans rfl; have hfz46_0 := blk_frozen BK102.out 0; have hfz46_1 := blk_frozen BK102.out 1; have hfz46_2 := blk_frozen BK102.out 2; have p108 : 0 ≤ (x4_2 : Int) := of_decide_eq_true (by first | (with_reducible assumption) | assumption); have q108 : x4_2 < (l0_2.length : Int) := of_decide_eq_true (by first | (with_reducible assumption) | assumption); obtain ⟨ad108, e108, hx108_0, hx108_1⟩ := at_T28 HR0_2.out x4_2 p108 q108; cases e108; replace hx108_0 := (HB.out.cell (World.block_lt_of_cell? w _ hx108_0)).trans hx108_0; replace hx108_1 := (HB.out.cell (World.block_lt_of_cell? w _ hx108_1)).trans hx108_1; replace p108 := eq_true p108; replace q108 := eq_true q108) | (go_at_call 76; (with_reducible refine (furrowworksref04_span.calls ((rd_T28 l0_2 x4_2).f0) ((rd_T28 l0_2 x4_2).f1) 0 40 false _ A26.out).mono ?_); rintro e w47 ⟨rfl, hb⟩; have n0_ := Aside0.mk (blk_below (g := gb102) (o := .cells #[.slice (some ad103) l0_0.length c0_0, .slice (some ad106) l0_1.length c0_1, .slice (some ad108) l0_2.length c0_2] 24 (0, 0)) (by (with_reducible repeat (first | refine blk_drewN ?_ _ | refine blk_drew ?_ | refine blk_alloc ?_ _)); exact BK102.out) hb); have n1_ := Aside0.mk (blk_below (g := gb104) (o := .cells #[.int .i64 ((rd_T28 l0_0 x4_2).f0), .int .i64 ((rd_T28 l0_0 x4_2).f1)] 28 (0, 0)) (by (with_reducible repeat (first | refine blk_drewN ?_ _ | refine blk_drew ?_ | refine blk_alloc ?_ _)); exact BK104.out) hb); have n2_ := Aside0.mk (below_step (by repeat (first | (with_reducible first | exact HB.out | apply below_alloc | apply pw_below_drewN | apply below_drew1 | refine below_set ?_ GE102.out | refine below_set ?_ GE104.out) | exact HB.out)) hb); clear BK102; clear BK104; clear HB; have BK102 := n0_; have BK104 := n1_; have HB := n2_; clear n0_ n1_ n2_; (try clear hb); (try clear hb2); (try clear hk); (try clear hi)))
                              go_ret
                              exact ⟨by first | rfl | (simp [errW_none, errW_some] <;> rfl) | (simp [*, errW_none, errW_some] <;> rfl), by repeat (first | (with_reducible first | exact HB.out | apply below_alloc | apply pw_below_drewN | apply below_drew1 | refine below_set ?_ GE102.out | refine below_set ?_ GE104.out) | exact HB.out)⟩
                          · rw [if_neg c25] at H
                            exact absurd H (by simp)
                        · replace c24 := Bool.eq_false_iff.mpr c24
                          subst c24
                          have H1 : (some false) = some r := by rw [if_neg (show ¬ (false = true) by decide)] at H; exact H
                          clear H
                          have H := H1
                          clear H1
                          obtain rfl := Option.some.inj H
                          have hcz48_0 : wr.cell? ⟨gb102, 0, none⟩ = some (.slice A0_0 l0_0.length c0_0) := (blk_cell BK102.out 0).trans rfl
                          have hcz48_1 : wr.cell? ⟨gb102, 1, none⟩ = some (.slice A0_1 l0_1.length c0_1) := (blk_cell BK102.out 1).trans rfl
                          have hcz48_2 : wr.cell? ⟨gb102, 2, none⟩ = some (.slice A0_2 l0_2.length c0_2) := (blk_cell BK102.out 2).trans rfl
                          have hfz48_0 := blk_frozen BK102.out 0
                          have hfz48_1 := blk_frozen BK102.out 1
                          have hfz48_2 := blk_frozen BK102.out 2
                          have p103 : 0 ≤ (x4_2 : Int) := of_decide_eq_true (by first | (with_reducible assumption) | assumption)
                          have q103 : x4_2 < (l0_0.length : Int) := of_decide_eq_true (by first | (with_reducible assumption) | assumption)
                          obtain ⟨ad103, e103, hx103_0, hx103_1⟩ := at_T28 HR0_0.out x4_2 p103 q103
                          cases e103
                          replace hx103_0 := (HB.out.cell (World.block_lt_of_cell? w _ hx103_0)).trans hx103_0
                          replace hx103_1 := (HB.out.cell (World.block_lt_of_cell? w _ hx103_1)).trans hx103_1
                          replace p103 := eq_true p103
                          replace q103 := eq_true q103
                          go_wp2_with (first | ((with_reducible refine gate_dst (N := 5) rfl ?_); (try (refine gate_guard (by rfl) ?_; dsimp only)); refine box_event ?hg (N := 5) ?hd (cs := #[.int .i64 0, .int .i64 0]) (t := 28) ?hr ?_; (case hd => rfl); (case hg => rfl); (case hr => first | (go_simp; done) | (go_simp; rfl)); intro gb104 hg w49 hbox hb; have n0_ := Aside0.mk (blk_below (g := gb102) (o := .cells #[.slice (some ad103) l0_0.length c0_0, .slice A0_1 l0_1.length c0_1, .slice A0_2 l0_2.length c0_2] 24 (0, 0)) (by (with_reducible repeat (first | refine blk_drewN ?_ _ | refine blk_drew ?_ | refine blk_alloc ?_ _)); exact BK102.out) hb); have n1_ := Aside0.mk (below_step (by repeat (first | (with_reducible first | exact HB.out | apply below_alloc | apply pw_below_drewN | apply below_drew1 | refine below_set ?_ GE102.out) | exact HB.out)) hb); have n2_ := Aside0.mk (hbox); have n3_ := Aside0.mk ((by rw [hg]; exact (below_size (by repeat (first | (with_reducible first | exact HB.out | apply below_alloc | apply pw_below_drewN | apply below_drew1 | refine below_set ?_ GE102.out) | exact HB.out))) : w.heap.size ≤ gb104)); have n4_ := Aside0.mk ((by rw [hg]; exact (below_size (by repeat (first | (with_reducible first | exact HB.out | apply below_alloc | apply pw_below_drewN | apply below_drew1 | refine below_set ?_ GE102.out) | exact HB.out))) : w.heap.size ≤ gb104)); have n5_ := Aside0.mk ((by rw [hg]; exact Nat.ne_of_lt (blk_lt (g := gb102) (o := .cells #[.slice (some ad103) l0_0.length c0_0, .slice A0_1 l0_1.length c0_1, .slice A0_2 l0_2.length c0_2] 24 (0, 0)) (by (with_reducible repeat (first | refine blk_drewN ?_ _ | refine blk_drew ?_ | refine blk_alloc ?_ _)); exact BK102.out)) : gb102 ≠ gb104)); have n6_ := Aside0.mk ((by rw [hg]; exact Nat.ne_of_gt (blk_lt (g := gb102) (o := .cells #[.slice (some ad103) l0_0.length c0_0, .slice A0_1 l0_1.length c0_1, .slice A0_2 l0_2.length c0_2] 24 (0, 0)) (by (with_reducible repeat (first | refine blk_drewN ?_ _ | refine blk_drew ?_ | refine blk_alloc ?_ _)); exact BK102.out)) : gb104 ≠ gb102)); clear BK102; clear HB; have BK102 := n0_; have HB := n1_; have BK104 := n2_; have GW104 := n3_; have GE104 := n4_; have NB102_104 := n5_; have NB104_102 := n6_; clear n0_ n1_ n2_ n3_ n4_ n5_ n6_; clear hb hbox hg; have hnb50 := NB104_102.out; have hnc50 := NB102_104.out; have hcz51_0 : w49.cell? ⟨gb104, 0, none⟩ = some (.int .i64 0) := (blk_cell BK104.out 0).trans rfl; have hcz51_1 : w49.cell? ⟨gb104, 1, none⟩ = some (.int .i64 0) := (blk_cell BK104.out 1).trans rfl; have hfz51_0 := blk_frozen BK104.out 0; have hfz51_1 := blk_frozen BK104.out 1) | ((with_reducible refine gate_callee (f := 76) rfl ?_); refine goesL_ (some 36) rfl rfl Try.func76 (by kernel_rfl) rfl #[.agg #[.int .i64 ((rd_T28 l0_0 x4_2).f0), .int .i64 ((rd_T28 l0_0 x4_2).f1)], .int .i64 (-12), .int .i64 12] rfl (by (try simp only [List.map_toArray, List.map_cons, List.map_nil]); first | done | rfl | (simp only [List.length_drop, List.length_take]; rfl)) ?_; (with_reducible refine (furrowworksref04_span.calls ((rd_T28 l0_0 x4_2).f0) ((rd_T28 l0_0 x4_2).f1) (-12) 12 true _ A13.out).mono ?_); rintro e w52 ⟨rfl, hb⟩; refine ⟨_, rfl, ?_⟩; have n0_ := Aside0.mk (blk_below (g := gb102) (o := .cells #[.slice (some ad103) l0_0.length c0_0, .slice A0_1 l0_1.length c0_1, .slice A0_2 l0_2.length c0_2] 24 (0, 0)) (by (with_reducible repeat (first | refine blk_drewN ?_ _ | refine blk_drew ?_ | refine blk_alloc ?_ _)); refine blk_far ?_ NB102_104.out _; (with_reducible repeat (first | refine blk_drewN ?_ _ | refine blk_drew ?_ | refine blk_alloc ?_ _)); refine blk_far ?_ NB102_104.out _; (with_reducible repeat (first | refine blk_drewN ?_ _ | refine blk_drew ?_ | refine blk_alloc ?_ _)); exact BK102.out) hb); have n1_ := Aside0.mk (blk_below (g := gb104) (o := .cells #[.int .i64 ((rd_T28 l0_0 x4_2).f0), .int .i64 ((rd_T28 l0_0 x4_2).f1)] 28 (0, 0)) (by (with_reducible repeat (first | refine blk_drewN ?_ _ | refine blk_drew ?_ | refine blk_alloc ?_ _)); refine blk_put (cs := #[.int .i64 ((rd_T28 l0_0 x4_2).f0), .int .i64 0]) ?_ 1 _ rfl; (with_reducible repeat (first | refine blk_drewN ?_ _ | refine blk_drew ?_ | refine blk_alloc ?_ _)); refine blk_put (cs := #[.int .i64 0, .int .i64 0]) ?_ 0 _ rfl; (with_reducible repeat (first | refine blk_drewN ?_ _ | refine blk_drew ?_ | refine blk_alloc ?_ _)); exact BK104.out) hb); have n2_ := Aside0.mk (below_step (by repeat (first | (with_reducible first | exact HB.out | apply below_alloc | apply pw_below_drewN | apply below_drew1 | refine below_set ?_ GE102.out | refine below_set ?_ GE104.out) | exact HB.out)) hb); clear BK102; clear BK104; clear HB; have BK102 := n0_; have BK104 := n1_; have HB := n2_; clear n0_ n1_ n2_; (try clear hb); (try clear hb2); (try clear hk); (try clear hi); have hcz53_0 : w52.cell? ⟨gb104, 0, none⟩ = some (.int .i64 ((rd_T28 l0_0 x4_2).f0)) := (blk_cell BK104.out 0).trans rfl; have hcz53_1 : w52.cell? ⟨gb104, 1, none⟩ = some (.int .i64 ((rd_T28 l0_0 x4_2).f1)) := (blk_cell BK104.out 1).trans rfl; have hfz53_0 := blk_frozen BK104.out 0; have hfz53_1 := blk_frozen BK104.out 1; have hcz54_0 : w52.cell? ⟨gb102, 0, none⟩ = some (.slice (some ad103) l0_0.length c0_0) := (blk_cell BK102.out 0).trans rfl; have hcz54_1 : w52.cell? ⟨gb102, 1, none⟩ = some (.slice A0_1 l0_1.length c0_1) := (blk_cell BK102.out 1).trans rfl; have hcz54_2 : w52.cell? ⟨gb102, 2, none⟩ = some (.slice A0_2 l0_2.length c0_2) := (blk_cell BK102.out 2).trans rfl; have hfz54_0 := blk_frozen BK102.out 0; have hfz54_1 := blk_frozen BK102.out 1; have hfz54_2 := blk_frozen BK102.out 2; have p106 : 0 ≤ (x4_2 : Int) := of_decide_eq_true (by first | (with_reducible assumption) | assumption); have q106 : x4_2 < (l0_1.length : Int) := of_decide_eq_true (by first | (with_reducible assumption) | assumption); obtain ⟨ad106, e106, hx106_0, hx106_1⟩ := at_T28 HR0_1.out x4_2 p106 q106; cases e106; replace hx106_0 := (HB.out.cell (World.block_lt_of_cell? w _ hx106_0)).trans hx106_0; replace hx106_1 := (HB.out.cell (World.block_lt_of_cell? w _ hx106_1)).trans hx106_1; replace p106 := eq_true p106; replace q106 := eq_true q106) | (go_at_call 76; (with_reducible refine (furrowworksref04_span.calls ((rd_T28 l0_1 x4_2).f0) ((rd_T28 l0_1 x4_2).f1) 1 60 false _ A23.out).mono ?_); rintro e w55 ⟨rfl, hb⟩; have n0_ := Aside0.mk (blk_below (g := gb102) (o := .cells #[.slice (some ad103) l0_0.length c0_0, .slice (some ad106) l0_1.length c0_1, .slice A0_2 l0_2.length c0_2] 24 (0, 0)) (by (with_reducible repeat (first | refine blk_drewN ?_ _ | refine blk_drew ?_ | refine blk_alloc ?_ _)); exact BK102.out) hb); have n1_ := Aside0.mk (blk_below (g := gb104) (o := .cells #[.int .i64 ((rd_T28 l0_0 x4_2).f0), .int .i64 ((rd_T28 l0_0 x4_2).f1)] 28 (0, 0)) (by (with_reducible repeat (first | refine blk_drewN ?_ _ | refine blk_drew ?_ | refine blk_alloc ?_ _)); exact BK104.out) hb); have n2_ := Aside0.mk (below_step (by repeat (first | (with_reducible first | exact HB.out | apply below_alloc | apply pw_below_drewN | apply below_drew1 | refine below_set ?_ GE102.out | refine below_set ?_ GE104.out) | exact HB.out)) hb); clear BK102; clear BK104; clear HB; have BK102 := n0_; have BK104 := n1_; have HB := n2_; clear n0_ n1_ n2_; (try clear hb); (try clear hb2); (try clear hk); (try clear hi)))
                          go_ret
                          exact ⟨by first | rfl | (simp [errW_none, errW_some] <;> rfl) | (simp [*, errW_none, errW_some] <;> rfl), by repeat (first | (with_reducible first | exact HB.out | apply below_alloc | apply pw_below_drewN | apply below_drew1 | refine below_set ?_ GE102.out | refine below_set ?_ GE104.out) | exact HB.out)⟩
                      · rw [if_neg c22] at H
                        exact absurd H (by simp)
                  · replace c14 := Bool.eq_false_iff.mpr c14
                    subst c14
                    have H1 : (some false) = some r := by rw [if_neg (show ¬ (false = true) by decide)] at H; exact H
                    clear H
                    have H := H1
                    clear H1
                    obtain rfl := Option.some.inj H
                    have hcz56_0 : wr.cell? ⟨gb102, 0, none⟩ = some (.slice A0_0 l0_0.length c0_0) := (blk_cell BK102.out 0).trans rfl
                    have hcz56_1 : wr.cell? ⟨gb102, 1, none⟩ = some (.slice A0_1 l0_1.length c0_1) := (blk_cell BK102.out 1).trans rfl
                    have hcz56_2 : wr.cell? ⟨gb102, 2, none⟩ = some (.slice A0_2 l0_2.length c0_2) := (blk_cell BK102.out 2).trans rfl
                    have hfz56_0 := blk_frozen BK102.out 0
                    have hfz56_1 := blk_frozen BK102.out 1
                    have hfz56_2 := blk_frozen BK102.out 2
                    have p103 : 0 ≤ (x4_2 : Int) := of_decide_eq_true (by first | (with_reducible assumption) | assumption)
                    have q103 : x4_2 < (l0_0.length : Int) := of_decide_eq_true (by first | (with_reducible assumption) | assumption)
                    obtain ⟨ad103, e103, hx103_0, hx103_1⟩ := at_T28 HR0_0.out x4_2 p103 q103
                    cases e103
                    replace hx103_0 := (HB.out.cell (World.block_lt_of_cell? w _ hx103_0)).trans hx103_0
                    replace hx103_1 := (HB.out.cell (World.block_lt_of_cell? w _ hx103_1)).trans hx103_1
                    replace p103 := eq_true p103
                    replace q103 := eq_true q103
                    go_wp2_with (first | ((with_reducible refine gate_dst (N := 5) rfl ?_); (try (refine gate_guard (by rfl) ?_; dsimp only)); refine box_event ?hg (N := 5) ?hd (cs := #[.int .i64 0, .int .i64 0]) (t := 28) ?hr ?_; (case hd => rfl); (case hg => rfl); (case hr => first | (go_simp; done) | (go_simp; rfl)); intro gb104 hg w57 hbox hb; have n0_ := Aside0.mk (blk_below (g := gb102) (o := .cells #[.slice (some ad103) l0_0.length c0_0, .slice A0_1 l0_1.length c0_1, .slice A0_2 l0_2.length c0_2] 24 (0, 0)) (by (with_reducible repeat (first | refine blk_drewN ?_ _ | refine blk_drew ?_ | refine blk_alloc ?_ _)); exact BK102.out) hb); have n1_ := Aside0.mk (below_step (by repeat (first | (with_reducible first | exact HB.out | apply below_alloc | apply pw_below_drewN | apply below_drew1 | refine below_set ?_ GE102.out) | exact HB.out)) hb); have n2_ := Aside0.mk (hbox); have n3_ := Aside0.mk ((by rw [hg]; exact (below_size (by repeat (first | (with_reducible first | exact HB.out | apply below_alloc | apply pw_below_drewN | apply below_drew1 | refine below_set ?_ GE102.out) | exact HB.out))) : w.heap.size ≤ gb104)); have n4_ := Aside0.mk ((by rw [hg]; exact (below_size (by repeat (first | (with_reducible first | exact HB.out | apply below_alloc | apply pw_below_drewN | apply below_drew1 | refine below_set ?_ GE102.out) | exact HB.out))) : w.heap.size ≤ gb104)); have n5_ := Aside0.mk ((by rw [hg]; exact Nat.ne_of_lt (blk_lt (g := gb102) (o := .cells #[.slice (some ad103) l0_0.length c0_0, .slice A0_1 l0_1.length c0_1, .slice A0_2 l0_2.length c0_2] 24 (0, 0)) (by (with_reducible repeat (first | refine blk_drewN ?_ _ | refine blk_drew ?_ | refine blk_alloc ?_ _)); exact BK102.out)) : gb102 ≠ gb104)); have n6_ := Aside0.mk ((by rw [hg]; exact Nat.ne_of_gt (blk_lt (g := gb102) (o := .cells #[.slice (some ad103) l0_0.length c0_0, .slice A0_1 l0_1.length c0_1, .slice A0_2 l0_2.length c0_2] 24 (0, 0)) (by (with_reducible repeat (first | refine blk_drewN ?_ _ | refine blk_drew ?_ | refine blk_alloc ?_ _)); exact BK102.out)) : gb104 ≠ gb102)); clear BK102; clear HB; have BK102 := n0_; have HB := n1_; have BK104 := n2_; have GW104 := n3_; have GE104 := n4_; have NB102_104 := n5_; have NB104_102 := n6_; clear n0_ n1_ n2_ n3_ n4_ n5_ n6_; clear hb hbox hg; have hnb58 := NB104_102.out; have hnc58 := NB102_104.out; have hcz59_0 : w57.cell? ⟨gb104, 0, none⟩ = some (.int .i64 0) := (blk_cell BK104.out 0).trans rfl; have hcz59_1 : w57.cell? ⟨gb104, 1, none⟩ = some (.int .i64 0) := (blk_cell BK104.out 1).trans rfl; have hfz59_0 := blk_frozen BK104.out 0; have hfz59_1 := blk_frozen BK104.out 1) | ((with_reducible refine gate_callee (f := 76) rfl ?_); refine goesL_ (some 36) rfl rfl Try.func76 (by kernel_rfl) rfl #[.agg #[.int .i64 ((rd_T28 l0_0 x4_2).f0), .int .i64 ((rd_T28 l0_0 x4_2).f1)], .int .i64 (-12), .int .i64 12] rfl (by (try simp only [List.map_toArray, List.map_cons, List.map_nil]); first | done | rfl | (simp only [List.length_drop, List.length_take]; rfl)) ?_; (with_reducible refine (furrowworksref04_span.calls ((rd_T28 l0_0 x4_2).f0) ((rd_T28 l0_0 x4_2).f1) (-12) 12 false _ A13.out).mono ?_); rintro e w60 ⟨rfl, hb⟩; refine ⟨_, rfl, ?_⟩; have n0_ := Aside0.mk (blk_below (g := gb102) (o := .cells #[.slice (some ad103) l0_0.length c0_0, .slice A0_1 l0_1.length c0_1, .slice A0_2 l0_2.length c0_2] 24 (0, 0)) (by (with_reducible repeat (first | refine blk_drewN ?_ _ | refine blk_drew ?_ | refine blk_alloc ?_ _)); refine blk_far ?_ NB102_104.out _; (with_reducible repeat (first | refine blk_drewN ?_ _ | refine blk_drew ?_ | refine blk_alloc ?_ _)); refine blk_far ?_ NB102_104.out _; (with_reducible repeat (first | refine blk_drewN ?_ _ | refine blk_drew ?_ | refine blk_alloc ?_ _)); exact BK102.out) hb); have n1_ := Aside0.mk (blk_below (g := gb104) (o := .cells #[.int .i64 ((rd_T28 l0_0 x4_2).f0), .int .i64 ((rd_T28 l0_0 x4_2).f1)] 28 (0, 0)) (by (with_reducible repeat (first | refine blk_drewN ?_ _ | refine blk_drew ?_ | refine blk_alloc ?_ _)); refine blk_put (cs := #[.int .i64 ((rd_T28 l0_0 x4_2).f0), .int .i64 0]) ?_ 1 _ rfl; (with_reducible repeat (first | refine blk_drewN ?_ _ | refine blk_drew ?_ | refine blk_alloc ?_ _)); refine blk_put (cs := #[.int .i64 0, .int .i64 0]) ?_ 0 _ rfl; (with_reducible repeat (first | refine blk_drewN ?_ _ | refine blk_drew ?_ | refine blk_alloc ?_ _)); exact BK104.out) hb); have n2_ := Aside0.mk (below_step (by repeat (first | (with_reducible first | exact HB.out | apply below_alloc | apply pw_below_drewN | apply below_drew1 | refine below_set ?_ GE102.out | refine below_set ?_ GE104.out) | exact HB.out)) hb); clear BK102; clear BK104; clear HB; have BK102 := n0_; have BK104 := n1_; have HB := n2_; clear n0_ n1_ n2_; (try clear hb); (try clear hb2); (try clear hk); (try clear hi)))
                    go_ret
                    exact ⟨by first | rfl | (simp [errW_none, errW_some] <;> rfl) | (simp [*, errW_none, errW_some] <;> rfl), by repeat (first | (with_reducible first | exact HB.out | apply below_alloc | apply pw_below_drewN | apply below_drew1 | refine below_set ?_ GE102.out | refine below_set ?_ GE104.out) | exact HB.out)⟩
                · rw [if_neg c12] at H
                  exact absurd H (by simp)
              · rw [if_neg c11] at H
                exact absurd H (by simp)
            · rw [if_neg c10] at H
              have c10b0 : decide (x4_2 < (l0_0.length : Int)) = false := decide_eq_false c10
              clear c10
              obtain rfl := Option.some.inj H
              go_wp2
              go_ret
              exact ⟨by first | rfl | (simp [errW_none, errW_some] <;> rfl) | (simp [*, errW_none, errW_some] <;> rfl), by repeat (first | (with_reducible first | exact HB.out | apply below_alloc | apply pw_below_drewN | apply below_drew1 | refine below_set ?_ GE102.out) | exact HB.out)⟩

end Go.Proofs.Ytafmgmaelnpehaa.PFurrowAsks
end

section
namespace Go.Proofs.Ytafmgmaelnpehaa
open Go.RowKit PFurrowAsks
def stOk (o w d : S28) : Bool := decide (-12 ≤ o.f0 ∧ o.f0 ≤ o.f1 ∧ o.f1 ≤ 12) && decide (o.f1 - o.f0 ≤ 6) && decide (1 ≤ w.f0 ∧ w.f0 ≤ w.f1 ∧ w.f1 ≤ 60) && decide (0 ≤ d.f0 ∧ d.f0 ≤ d.f1 ∧ d.f1 ≤ 40)
def stsOk (l0 l1 l2 : List S28) : Nat → Nat → Bool
  | _, 0 => true
  | i, n + 1 => stOk (rd_T28 l0 i) (rd_T28 l1 i) (rd_T28 l2 i) && stsOk l0 l1 l2 (i + 1) n
def valid (l0 l1 l2 : List S28) : Bool := decide (l0.length ≤ 8) && decide (l1.length = l0.length) && decide (l2.length = l0.length) && stsOk l0 l1 l2 0 l0.length
theorem within_is (a b lo hi : Int) : furrow_span_within.f a b lo hi = some (decide (lo ≤ a ∧ a ≤ b ∧ b ≤ hi)) := by
  unfold furrow_span_within.f
  by_cases h1 : lo ≤ a <;> by_cases h2 : a ≤ b <;> simp [h1, h2]
theorem stsOk_all (l0 l1 l2 : List S28) : ∀ (n i : Nat), stsOk l0 l1 l2 i n = true ↔ ∀ j, i ≤ j → j < i + n → stOk (rd_T28 l0 j) (rd_T28 l1 j) (rd_T28 l2 j) = true
  | 0, i => by simp [stsOk]; omega
  | n + 1, i => by
    simp only [stsOk, Bool.and_eq_true, stsOk_all l0 l1 l2 n (i + 1)]
    constructor
    · rintro ⟨h1, h2⟩ j hj hj2
      by_cases e : j = i
      · rw [e]; exact h1
      · exact h2 j (by omega) (by omega)
    · exact fun h => ⟨h i (Nat.le_refl _) (by omega), fun j h1 h2 => h j (by omega) (by omega)⟩
end Go.Proofs.Ytafmgmaelnpehaa
end
