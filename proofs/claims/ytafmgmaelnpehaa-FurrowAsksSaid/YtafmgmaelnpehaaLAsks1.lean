/- Proved: FurrowAsks returns true for all furrows and numbers, in whatever order Go evaluates what it leaves open; no condition. -/
import Derived.Test.YtafmgmaelnpehaaC1
import Derived.Test.YtafmgmaelnpehaaC2
import Derived.Maps.OwnIn
import Derived.Test.YtafmgmaelnpehaaC3
import Derived.Lib.Hide
import Derived.Deep.SlicePairs
import Derived.Lib.SmallJoins
import Derived.Carry
import Derived.ChangeArms
import Derived.ChangeOld
import Derived.WideShapes
import Derived.Test.YtafmgmaelnpehaaRows
import Derived.WalkKit
import Derived.ProofKit
import Derived.OpenShut
import Derived.ShutString
import Derived.Below
import Derived.SizedLaws
section
namespace Go.Proofs.Ytafmgmaelnpehaa.PFurrowAsks
open Go.RowKit Go.Proofs.YtafmgmaelnpehaaW.PrintWords Go.Proofs.YtafmgmaelnpehaaW.PrintLast Go.Proofs.YtafmgmaelnpehaaW.PrintMore
attribute [local go_sem] max2_int min2_int max_two min_two max_three min_three max_four min_four   -- for this text's walks alone
set_option linter.unusedVariables false
set_option linter.unusedSimpArgs false

/-! ### furrowworksref04_power: function 63 -/
def furrowworksref04_power.l0 : Nat → Int → Int → Int → Option (Int)
  | 0, _, _, _ => none
  | k + 1, x0, x3, x4 => if x4 < x0 then (furrowworksref04_power.l0 k x0 (wrap64 (2 * x3)) (wrap64 (x4 + 1))) else (some x3)
def furrowworksref04_power.f (k : Nat) (a0 : Int) : Option (Int) := furrowworksref04_power.l0 k a0 1 0
theorem furrowworksref04_power.mono_l : ∀ k, (∀ y0 y1 y2, LeO (furrowworksref04_power.l0 k y0 y1 y2) (furrowworksref04_power.l0 (k + 1) y0 y1 y2))
  | 0 => fun _ _ _ r h => by simp [furrowworksref04_power.l0] at h
  | k + 1 => by
    have ih0 := furrowworksref04_power.mono_l k
    · intro y0 y1 y2
      unfold furrowworksref04_power.l0
      repeat' first
      | (with_reducible exact ih0 _ _ _)
      | (with_reducible exact LeO.refl _)
      | (with_reducible exact LeO.none _)
      | (with_reducible refine LeO.ite ?_ ?_)
      | (with_reducible refine LeO.bind ?_ (fun _ => ?_))
      | exact ih0 _ _ _
      | exact LeO.none _
      | refine LeO.ite ?_ ?_
      | refine LeO.bind ?_ (fun _ => ?_)
theorem furrowworksref04_power.mono : ∀ a0 k, LeO (furrowworksref04_power.f k a0) (furrowworksref04_power.f (k + 1) a0) := by
  intro a0 k
  have ih0 := furrowworksref04_power.mono_l k
  unfold furrowworksref04_power.f
  repeat' first
      | (with_reducible exact ih0 _ _ _)
      | (with_reducible exact LeO.refl _)
      | (with_reducible exact LeO.none _)
      | (with_reducible refine LeO.ite ?_ ?_)
      | (with_reducible refine LeO.bind ?_ (fun _ => ?_))
      | exact ih0 _ _ _
      | exact LeO.none _
      | refine LeO.ite ?_ ?_
      | refine LeO.bind ?_ (fun _ => ?_)
set_option maxHeartbeats 8000000 in
set_option maxRecDepth 100000 in
theorem furrowworksref04_power.calls (k : Nat) (a0 : Int) (r : Int) (w : World) (h : furrowworksref04_power.f k a0 = some r) :
    Calls Try.prog 63 #[.int .i64 a0] w fun e w' => e = .returned (.int .i64 r) ∧ Drawn0 w w' := by
  have H : (furrowworksref04_power.l0 k a0 1 0) = some r := h
  clear h
  have H' := Aside0.mk H
  clear H
  go_enter Try.func63, Try.ntmps63
  go_wp2
  go_loopg [3, 4] k (fun kq v3 v4 w' => ∃ (x3_1 : Int) (x4_1 : Int), v3 = .int .i64 x3_1 ∧ v4 = .int .i64 x4_1 ∧ Aside0 (furrowworksref04_power.l0 kq a0 x3_1 x4_1 = some r) ∧ Aside0 (kq ≤ k) ∧ Drawn0 w w')
  case atStart => exact ⟨(1), (0), (by first | rfl | (simp; done) | (simp [*]; done)), (by first | rfl | (simp; done) | (simp [*]; done)), H', ⟨Nat.le_refl _⟩, by repeat (first | exact Drawn0.refl _ | apply Drawn0.step)⟩
  case round =>
    clear H'
    obtain ⟨x3_1, x4_1, rfl, rfl, HA, HK1, ⟨m1, rfl⟩⟩ := hrel
    cases gk with
    | zero => exact absurd HA.out (by simp [furrowworksref04_power.l0])
    | succ k1 =>
      have H := HA.out
      clear HA
      simp only [furrowworksref04_power.l0] at H
      by_cases c2 : x4_1 < a0
      · rw [if_pos c2] at H
        have c2b0 : decide (x4_1 < a0) = true := decide_eq_true c2
        clear c2
        have H' := Aside0.mk H
        clear H
        go_wp2
        go_roundg k1
        case measure => have := HK1.out; omega
        case rel => exact ⟨(wrap64 (2 * x3_1)), (wrap64 (x4_1 + 1)), (by first | rfl | (simp; done) | (simp [*]; done)), (by first | rfl | (simp; done) | (simp [*]; done)), H', ⟨by have := HK1.out; omega⟩, by repeat (first | exact Drawn0.refl _ | apply Drawn0.step)⟩
      · rw [if_neg c2] at H
        have c2b0 : decide (x4_1 < a0) = false := decide_eq_false c2
        clear c2
        obtain rfl := Option.some.inj H
        go_wp2
        go_ret
        exact ⟨by first | rfl | (simp; done) | (simp [*]; done), by repeat (first | exact Drawn0.refl _ | apply Drawn0.step)⟩

end Go.Proofs.Ytafmgmaelnpehaa.PFurrowAsks
end

section
namespace Go.Proofs.Ytafmgmaelnpehaa.PFurrowAsks
open Go.RowKit Go.Proofs.YtafmgmaelnpehaaW.PrintWords Go.Proofs.YtafmgmaelnpehaaW.PrintLast Go.Proofs.YtafmgmaelnpehaaW.PrintMore
attribute [local go_sem] max2_int min2_int max_two min_two max_three min_three max_four min_four   -- for this text's walks alone
set_option linter.unusedVariables false
set_option linter.unusedSimpArgs false

/-! ### furrowworksref04_Has: function 97 -/
def furrowworksref04_Has.f (k : Nat) (a0 : Int) (a1 : Int) : Option (Bool) := (furrowworksref04_power.f k a1).bind fun t220 => (if t220 = 0 then (none) else (some ((Int.tmod (wrap64 (Int.tdiv a0 t220)) 2) == 1)))
theorem furrowworksref04_Has.mono : ∀ a0 a1 k, LeO (furrowworksref04_Has.f k a0 a1) (furrowworksref04_Has.f (k + 1) a0 a1) := by
  intro a0 a1 k
  unfold furrowworksref04_Has.f
  repeat' first
      | (with_reducible exact furrowworksref04_power.mono _ _)
      | (with_reducible exact LeO.refl _)
      | (with_reducible exact LeO.none _)
      | (with_reducible refine LeO.ite ?_ ?_)
      | (with_reducible refine LeO.bind ?_ (fun _ => ?_))
      | exact furrowworksref04_power.mono _ _
      | exact LeO.none _
      | refine LeO.ite ?_ ?_
      | refine LeO.bind ?_ (fun _ => ?_)
set_option maxHeartbeats 8000000 in
set_option maxRecDepth 100000 in
theorem furrowworksref04_Has.calls (k : Nat) (a0 : Int) (a1 : Int) (r : Bool) (w : World) (h : furrowworksref04_Has.f k a0 a1 = some r) :
    Calls Try.prog 97 #[.int .i64 a0, .int .i64 a1] w fun e w' => e = .returned (.bool r) ∧ Drawn0 w w' := by
  have H : ((furrowworksref04_power.f k a1).bind fun t220 => (if t220 = 0 then (none) else (some ((Int.tmod (wrap64 (Int.tdiv a0 t220)) 2) == 1)))) = some r := h
  clear h
  replace H := Option.bind_eq_some_iff.mp H
  obtain ⟨t220, A30, H⟩ := H
  replace H : (if t220 = 0 then (none) else (some ((Int.tmod (wrap64 (Int.tdiv a0 t220)) 2) == 1))) = some r := H
  have A3 := Aside0.mk A30
  clear A30
  by_cases c4 : t220 = 0
  · rw [if_pos c4] at H
    exact absurd H (by simp)
  · rw [if_neg c4] at H
    have c4b0 : (t220 == 0) = false := beq_eq_false_iff_ne.mpr c4
    have c4b1 : (t220 != 0) = true := bne_iff_ne.mpr c4
    obtain rfl := Option.some.inj H
    go_enter Try.func97, Try.ntmps97
    go_wp2_with (first | ((with_reducible refine gate_callee (f := 63) rfl ?_); refine goesL_ (some 7) rfl rfl Try.func63 (by kernel_rfl) rfl #[.int .i64 a1] rfl (by (try simp only [List.map_toArray, List.map_cons, List.map_nil]); first | done | rfl | (simp only [List.length_drop, List.length_take]; rfl)) ?_; (with_reducible refine (furrowworksref04_power.calls k a1 t220 _ A3.out).mono ?_); rintro e w' ⟨rfl, ⟨nd, rfl⟩⟩; refine ⟨_, rfl, ?_⟩))
    go_ret
    exact ⟨by first | rfl | (simp; done) | (simp [*]; done), by repeat (first | exact Drawn0.refl _ | apply Drawn0.step)⟩

end Go.Proofs.Ytafmgmaelnpehaa.PFurrowAsks
end

section
set_option linter.unusedVariables false
set_option linter.unusedSimpArgs false
namespace Go.Proofs.Ytafmgmaelnpehaa
open Go.RowKit Go.TL Go.Shelf Go.Fu
attribute [local go_sem] Oper.semAt_some
open PFurrowAsks Go.Proofs.YtafmgmaelnpehaaW.PrintWords
def freeX (l : List S28) (s i : Nat) : S28 := if s / 2 ^ i % 2 = 1 then ⟨-12, 12⟩ else rd_T28 l i
def freeL (l : List S28) (s k : Nat) : List S28 := (List.range k).map (freeX l s)
theorem freeL_succ (l : List S28) (s k : Nat) : freeL l s (k + 1) = freeL l s k ++ [freeX l s k] := by simp [freeL, List.range_succ]
theorem freeL_len (l : List S28) (s k : Nat) : (freeL l s k).length = k := by simp [freeL]
def _root_.Go.Proofs.Ytafmgmaelnpehaa.PFurrowAsks.furrowworksref04_Free.f (l0_0 l0_1 l0_2 : List S28) (a1 : Int) : Option (List S28) := if l0_0.length ≤ 8 ∧ 0 ≤ a1 ∧ a1 < 256 then some (freeL l0_0 a1.toNat l0_0.length) else none
theorem has_is (s i : Nat) (hs : s < 256) (hi : i ≤ 8) : ∃ k, furrowworksref04_Has.f k s i = some (decide (s / 2 ^ i % 2 = 1)) := by
  have hp : ∀ i : Nat, i ≤ 8 → furrowworksref04_power.f 20 i = some ((2 : Int) ^ i) := by
    have : (List.range 9).all (fun i => furrowworksref04_power.f 20 i == some ((2 : Int) ^ i)) = true := by kernel_rfl
    intro i hi
    have := List.all_eq_true.1 this i (List.mem_range.2 (by omega))
    simpa using this
  refine ⟨20, ?_⟩
  unfold furrowworksref04_Has.f
  rw [hp i hi, Option.bind_some]
  have hp : (2 : Int) ^ i = ((2 ^ i : Nat) : Int) := by norm_cast
  have h0 : 0 < 2 ^ i := Nat.two_pow_pos i
  have e1 : Int.tdiv (s : Int) ((2 ^ i : Nat) : Int) = ((s / 2 ^ i : Nat) : Int) := by rw [Int.tdiv_eq_ediv_of_nonneg (by omega)]; norm_cast
  have hb : s / 2 ^ i ≤ 255 := Nat.le_trans (Nat.div_le_self _ _) (by omega)
  have e2 : Int.tmod (((s / 2 ^ i : Nat) : Int)) 2 = ((s / 2 ^ i % 2 : Nat) : Int) := by rw [Int.tmod_eq_emod_of_nonneg (Int.natCast_nonneg _)]; norm_cast
  rw [hp, if_neg (by omega), e1]
  generalize s / 2 ^ i = q at *
  have hw : wrap64 ((q : Nat) : Int) = ((q : Nat) : Int) := by unfold wrap64; omega
  rw [hw, e2]
  congr 1
  rw [Bool.eq_iff_iff]
  simp only [beq_iff_eq, decide_eq_true_eq]
  omega
theorem flat_two (l : List S28) (j : Nat) (p : S28) (h : l[j]? = some p) : ((flat (l.map toP)).drop (j * 2)).take 2 = [.int .i64 p.f0, .int .i64 p.f1] := by
  induction l generalizing j with
  | nil => simp at h
  | cons a l ih =>
    cases j with
    | zero =>
      simp only [List.getElem?_cons_zero, Option.some.injEq] at h
      subst h
      rfl
    | succ j =>
      have := ih j (by simpa using h)
      rw [show (j + 1) * 2 = j * 2 + 2 by omega]
      exact this
theorem own_R28 {w : World} {base : Nat} {v : Value} {l : List S28} (h : w.ownsRow base 28 2 v l.length (flat (l.map toP))) : Kd.R k28 28 w base (fun _ => True) v l := by
  refine ⟨fun _ _ => trivial, flat (l.map toP), h, ?_, fun j p hp => ?_⟩
  · show _ = l.length * 2
    rw [flat_len, List.length_map]
  · show k28.M _ _ _ p (((flat (l.map toP)).drop (j * 2)).take 2)
    rw [flat_two l j p hp]
    exact k28_mkM _ _ _ _
def FrI (F : Fur) (s : Nat) (w : World) (j : Nat) (t : Array Value) (W : World) : Prop :=
  ∃ (k : Nat) (v : Value), k ≤ F.l0.length ∧ j = F.l0.length - k ∧ F.At W ∧ Below w.heap.size w W ∧ Box3 W w.heap.size 24 F.s0 F.s1 F.s2 ∧ W.ownsRow (w.heap.size + 1) 28 2 v k (flat ((freeL F.l0 s k).map toP)) ∧
    Slots [none, some (.int .i64 s), some (.pointer (some ⟨w.heap.size, 0, none⟩)), none, none, some (v), some (.int .i64 k), none, none, none, none, none, none, none, none, none, none, none, none, none, none, none, none, none, none, none, none, none, none] t
/-- With the station's span in its box. -/
def FrM (F : Fur) (s : Nat) (w : World) (k b7 : Nat) (v : Value) (x : S28) (t : Array Value) (W : World) : Prop :=
  F.At W ∧ Below w.heap.size w W ∧ Box3 W w.heap.size 24 F.s0 F.s1 F.s2 ∧ W.ownsRow (w.heap.size + 1) 28 2 v k (flat ((freeL F.l0 s k).map toP)) ∧ Box2 W b7 28 x.f0 x.f1 ∧ w.heap.size < b7 ∧ v.ownBlock ≠ some b7 ∧
    Slots [none, some (.int .i64 s), some (.pointer (some ⟨w.heap.size, 0, none⟩)), none, none, some (v), some (.int .i64 k), some (.pointer (some ⟨b7, 0, none⟩)), none, none, none, none, none, none, none, none, none, none, none, none, none, none, none, none, none, none, none, none, none] t
set_option maxRecDepth 100000 in
set_option maxHeartbeats 1000000 in
theorem free_any (F : Fur) (s : Nat) (w : World) (h : F.At w) (hl : F.l0.length ≤ 8) (hs : s < 256) :
    Calls Try.prog 68 #[F.val, .int .i64 s] w fun e w' => ∃ v : Value, e = .returned v ∧ Kd.R k28 28 w' w.heap.size (fun _ => True) v (freeL F.l0 s F.l0.length) ∧ Below w.heap.size w w' := by
  refine calls_of_exec Try.func68 rfl ?_
  simp only [Try.ntmps68, List.size_toArray, List.length_cons, List.length_nil, Nat.reduceAdd, Nat.reduceSub, Array.replicate_succ, Array.replicate_zero, List.push_toArray, List.append_toArray, List.nil_append, List.cons_append]
  simp only [Fur.val]
  refine exec_seq (exec_region_o fun ds => ?_)
  gi_wp2
  refine eq_mk ((Keep.refl w).alloc _) ?_
  show Exec _ _ _ _ _ _
  have b1 := Box3.new w 24 F.s0 F.s1 F.s2
  have hB := (Below.refl w.heap.size w).alloc (Nat.le_refl _) (.cells #[F.s0, F.s1, F.s2] 24)
  generalize w.alloc (.cells #[F.s0, F.s1, F.s2] 24) = V at *
  have hF := h.below hB
  refine exec_seq (exec_region_o fun ds => ?_)
  gi_wp2
  refine eq_mk (Keep.refl _) ?_
  show Exec _ _ _ _ _ _
  refine exec_seq (exec_seq (exec_region_o fun ds => ?_))
  gi_wp2
  refine eq_mk (Keep.refl _) ?_
  show Exec _ _ _ _ _ _
  refine exec_block ?_
  refine exec_loop (FrI F s w) F.l0.length ⟨0, _, by omega, by omega, hF, hB, b1, World.ownsRow_nil _ _ _ _, by simp [Slots, Fits]⟩ ?_
  clear hF hB b1
  clear V
  rintro j t W ⟨k, v, hk, rfl, hF, hB, hb3, hown, hSl⟩
  obtain ⟨x, hx⟩ := Slots.open_ hSl; simp only [fill, Nat.reduceAdd] at hx; subst hx; clear hSl
  have c0 := hb3.cell0
  have hs0 : F.s0 = .slice F.A0 F.l0.length F.c0 := rfl
  rw [hs0] at c0
  clear hs0
  refine exec_seq (exec_seq (exec_region_o fun ds => ?_))
  gi_wp2
  refine eq_mk (Keep.refl _) ?_
  show Exec _ _ _ _ _ _
  refine exec_cond (b := decide (k < F.l0.length)) rfl (fun hp => exec_skip ?_) (fun hp => exec_exit ?_)
  · have hkl : k < F.l0.length := of_decide_eq_true hp
    show Exec _ _ _ _ _ _
    obtain ⟨ad, hA, hc0, hc1⟩ := at_T28 hF.r0 (k : Int) (by omega) (by omega)
    simp only [Int.toNat_natCast] at hc0 hc1
    obtain ⟨y, hy⟩ : ∃ y, rd_T28 F.l0 k = y := ⟨_, rfl⟩
    rw [hy] at hc0 hc1
    obtain ⟨y0, y1⟩ := y
    simp only at hc0 hc1
    have hkI : (k : Int) < F.l0.length := by omega
    rw [hA] at c0
    refine exec_seq (exec_block (exec_seq (exec_region_o fun ds => ?_)))
    gi_wp2
    refine eq_mk ((Keep.refl _).alloc _) ?_
    show Exec _ _ _ _ _ _
    have gr := Grow.alloc W.heap.size W (.cells #[.int .i64 y0, .int .i64 y1] 28)
    have o1 := hown.alloc (.cells #[.int .i64 y0, .int .i64 y1] 28)
    have p1 := hF.grow gr
    have p2 := hB.alloc hB.size (.cells #[.int .i64 y0, .int .i64 y1] 28)
    have p3 := hb3.grow gr
    have p4 := Box2.new W 28 y0 y1
    have hlt := hb3.lt
    have hne : v.ownBlock ≠ some W.heap.size := fun e => by have := (hown.lt _ e).2; omega
    generalize W.alloc (.cells #[.int .i64 y0, .int .i64 y1] 28) = W1 at *
    clear gr hown hF hB hb3 hc0 hc1 c0
    generalize W.heap.size = b7 at *
    clear W
    refine exec_cut (FrM F s w k b7 v (freeX F.l0 s k)) (exec_seq (exec_region_o fun ds => ?_)) ?second
    case second =>
      clear o1 p1 p2 p3 p4
      clear W1
      rintro t W ⟨hF, hB, hb3, hown, h7, hb7, hne, hSl⟩
      obtain ⟨x, hx⟩ := Slots.open_ hSl; simp only [fill, Nat.reduceAdd] at hx; subst hx; clear hSl
      have hfl : freeL F.l0 s (k + 1) = freeL F.l0 s k ++ [freeX F.l0 s k] := freeL_succ _ _ _
      generalize freeX F.l0 s k = z at *
      obtain ⟨z0, z1⟩ := z
      simp only at h7
      have e0 := h7.cell0
      have e1 := h7.cell1
      obtain ⟨i0, hi0, hz⟩ : ∃ i0, Try.prog.info? 28 = some i0 ∧ (i0.zero, i0.size, i0.bytes) = (some (.agg #[(.int .i64 0), (.int .i64 0)]), 2, 16) := by
        have := info28
        cases h : Try.prog.info? 28 with
        | none => rw [h] at this; cases this
        | some i0 => rw [h] at this; exact ⟨i0, rfl, Option.some.inj this⟩
      simp only [Prod.mk.injEq] at hz
      obtain ⟨hz0, hz1, hz2⟩ := hz
      have hsB := hB.size
      have hW := hb3.lt
      refine exec_region_o fun ds => ?_
      gi_wp2_with (gi_at_builtin; refine wpListIn_append_own _ rfl _ _ 22 rfl (w.heap.size + 1) 28 i0 (.agg #[.int .i64 0, .int .i64 0]) 2 16 Try.underlying22 hi0 hz0 hz1 hz2 rfl (by decide) v k (flat ((freeL F.l0 s k).map toP)) rfl (hown.alloc _) ⟨W.heap.size, 0, none⟩ 1 1 [.int .i64 z0, .int .i64 z1] rfl rfl (cell_pair_new _ _ _ _) (by simp [Value.oneCell']) (by unfold maxLen; omega) (by omega) (by simp; omega) ?_; intro v' w' hown2 hgr _)
      have hbk : ∀ j o, v.ownBlock = some j → (W.alloc (.cells #[.int .i64 z0, .int .i64 z1] 28)).heap[j]? = some o → book o = false := by
        intro j o hv ho
        rcases (hown.alloc (.cells #[.int .i64 z0, .int .i64 z1] 28)).2 with ⟨rfl, _⟩ | ⟨g', cap', cur, rfl, _, hg', _⟩
        · simp [Value.ownBlock] at hv
        · simp only [Value.ownBlock, Option.some.injEq] at hv
          subst hv
          rw [hg'] at ho
          cases ho
          rfl
      have hB3 : Below w.heap.size w w' := (hB.alloc hsB (.cells #[.int .i64 z0, .int .i64 z1] 28)).grown hgr (by simp; omega) (fun q e => by have := (hown.lt q e).1; omega)
      have hb3' : Box3 w' w.heap.size 24 F.s0 F.s1 F.s2 := (hgr.block _ (by simp; omega) (fun e => by have := (hown.lt _ e.symm).1; omega)).trans (hb3.grow (Grow.alloc 0 _ _))
      refine eq_mk (((Keep.refl _).alloc _).grown hgr hbk) ?_
      show Exec _ _ _ _ _ _
      have hown3 : w'.ownsRow (w.heap.size + 1) 28 2 v' (k + 1) (flat ((freeL F.l0 s (k + 1)).map toP)) := by
        rw [hfl, List.map_append, flat_app]
        exact hown2
      clear hown2 hgr hbk hown hB hb3 h7 e0 e1
      refine exec_region_o fun ds => ?_
      gi_wp2
      exact eq_mk (Keep.refl _) ⟨F.l0.length - (k + 1), by omega, k + 1, v', by omega, rfl, h.below hB3, hB3, hb3', hown3, by simp [Slots, Fits]⟩
    obtain ⟨kf, hkf⟩ := has_is s k hs (by omega)
    gi_wp2_with fail
    refine ⟨trivial, rfl, (callsIn_wide.2 (furrowworksref04_Has.calls kf s k _ W1 hkf)).mono ?_⟩
    rintro e W2 ⟨rfl, hd⟩
    have hb := hd.below
    gi_wp2_with fail
    refine eq_mk (Keep.of_below hb) ?_
    show Exec _ _ _ _ _ _
    have o2 := own_grow o1 (Grow.of_below (B := 0) hb)
    replace p1 := p1.below hb
    replace p2 := p2.trans (hb.mono p2.size)
    replace p3 : Box3 W2 w.heap.size 24 F.s0 F.s1 F.s2 := (hb.block _ p3.lt).trans p3
    replace p4 : Box2 W2 b7 28 y0 y1 := (hb.block _ p4.lt).trans p4
    clear hb hd o1 hkf
    clear W1
    refine exec_cond (b := decide (s / 2 ^ k % 2 = 1)) rfl (fun hp => ?_) (fun hp => exec_skip ?_)
    · have e0 := p4.cell0
      have e1 := p4.cell1
      have e2 := p4.frozen
      have hsB := p2.size
      refine exec_region_o fun ds => ?_
      gi_wp2
      refine eq_mk (((Keep.refl _).setCell _ _).setCell _ _) ?_
      have hx : freeX F.l0 s k = ⟨-12, 12⟩ := by unfold freeX; rw [if_pos (of_decide_eq_true hp)]
      have hbb : Below w.heap.size w ((W2.setCell ⟨b7, 0, none⟩ (.int .i64 (-12))).setCell ⟨b7, 1, none⟩ (.int .i64 12)) := (p2.setCell (by show w.heap.size ≤ b7; omega) _).setCell (by show w.heap.size ≤ b7; omega) _
      refine ⟨h.below hbb, hbb, (Below.heap_setCell _ _ _ _ (by show w.heap.size ≠ b7; omega)).trans ((Below.heap_setCell _ _ _ _ (by show w.heap.size ≠ b7; omega)).trans p3), own_far (own_far o2 (fun q e => fun e2 => hne (by rw [e, e2]))) (fun q e => fun e2 => hne (by rw [e, e2])), ?_, hlt, hne, (by simp only [Slots, Fits, and_self])⟩
      rw [hx]
      (simp only [Boxed, Box2, heap_alloc_at, heap_set_at, World.size_alloc, World.size_setCell]; repeat (first | rfl | exact p4 | rw [if_pos (by omega)] | rw [if_neg (by omega)] | rw [show _ = _ from p4]))
    · have hx : freeX F.l0 s k = ⟨y0, y1⟩ := by unfold freeX; rw [if_neg (of_decide_eq_false hp), hy]
      exact ⟨p1, p2, p3, o2, by rw [hx]; exact p4, hlt, hne, (by simp only [Slots, Fits, and_self])⟩
  · have hkl : k = F.l0.length := by have := of_decide_eq_false hp; omega
    subst hkl
    show Exec _ _ _ _ _ _
    refine exec_seq (exec_region_o fun ds => ?_)
    gi_wp2
    refine eq_mk (Keep.refl _) ?_
    have hR : Kd.R k28 28 W (w.heap.size + 1) (fun _ => True) v (freeL F.l0 s F.l0.length) := own_R28 (by rw [freeL_len]; exact hown)
    refine exec_ret ⟨.inr rfl, fun W' hG => ⟨v, by simp [results, Try.f68, go_sem], v, rfl, ?_, hB.trans (hG.below (Nat.le_refl _) hB.size)⟩⟩
    exact own_R28 (by rw [freeL_len]; exact own_low (own_grow hown hG) (by omega))
theorem _root_.Go.Proofs.Ytafmgmaelnpehaa.PFurrowAsks.furrowworksref04_Free.calls (A0_0 : Option Addr) (c0_0 : Nat) (l0_0 : List S28) (A0_1 : Option Addr) (c0_1 : Nat) (l0_1 : List S28) (A0_2 : Option Addr) (c0_2 : Nat) (l0_2 : List S28) (a1 : Int) (r : List S28) (w : World) (hr0_0 : Kd.C k28 w A0_0 l0_0.length l0_0) (hc0_0 : l0_0.length ≤ c0_0) (hr0_1 : Kd.C k28 w A0_1 l0_1.length l0_1) (hc0_1 : l0_1.length ≤ c0_1) (hr0_2 : Kd.C k28 w A0_2 l0_2.length l0_2) (hc0_2 : l0_2.length ≤ c0_2) (h : furrowworksref04_Free.f l0_0 l0_1 l0_2 a1 = some r) :
    Calls Try.prog 68 #[.agg #[.slice A0_0 l0_0.length c0_0, .slice A0_1 l0_1.length c0_1, .slice A0_2 l0_2.length c0_2], .int .i64 a1] w fun e w' => ∃ v0_ : Value, e = .returned (v0_) ∧ Kd.R k28 28 w' w.heap.size (fun _ => True) v0_ r ∧ Below w.heap.size w w' := by
  unfold furrowworksref04_Free.f at h
  split at h
  · rename_i hc
    cases h
    have := free_any ⟨A0_0, c0_0, l0_0, A0_1, c0_1, l0_1, A0_2, c0_2, l0_2⟩ a1.toNat w ⟨hr0_0, hc0_0, hr0_1, hc0_1, hr0_2, hc0_2⟩ hc.1 (by omega)
    rw [show ((a1.toNat : Nat) : Int) = a1 by omega] at this
    exact this
  · cases h
end Go.Proofs.Ytafmgmaelnpehaa
end

section
namespace Go.Proofs.Ytafmgmaelnpehaa.PFurrowAsks
open Go.RowKit Go.Proofs.YtafmgmaelnpehaaW.PrintWords Go.Proofs.YtafmgmaelnpehaaW.PrintLast Go.Proofs.YtafmgmaelnpehaaW.PrintMore
attribute [local go_sem] max2_int min2_int max_two min_two max_three min_three max_four min_four   -- for this text's walks alone
set_option linter.unusedVariables false
set_option linter.unusedSimpArgs false

/-! ### furrowworksref04_Size: function 37 -/
def furrowworksref04_Size.l0 : Nat → Int → Int → Option (Int)
  | 0, _, _ => none
  | k + 1, x0, x3 => if x0 > 0 then (furrowworksref04_Size.l0 k (wrap64 (Int.tdiv x0 2)) (wrap64 (x3 + (Int.tmod x0 2)))) else (some x3)
def furrowworksref04_Size.f (k : Nat) (a0 : Int) : Option (Int) := furrowworksref04_Size.l0 k a0 0
theorem furrowworksref04_Size.mono_l : ∀ k, (∀ y0 y1, LeO (furrowworksref04_Size.l0 k y0 y1) (furrowworksref04_Size.l0 (k + 1) y0 y1))
  | 0 => fun _ _ r h => by simp [furrowworksref04_Size.l0] at h
  | k + 1 => by
    have ih0 := furrowworksref04_Size.mono_l k
    · intro y0 y1
      unfold furrowworksref04_Size.l0
      repeat' first
      | (with_reducible exact ih0 _ _)
      | (with_reducible exact LeO.refl _)
      | (with_reducible exact LeO.none _)
      | (with_reducible refine LeO.ite ?_ ?_)
      | (with_reducible refine LeO.bind ?_ (fun _ => ?_))
      | exact ih0 _ _
      | exact LeO.none _
      | refine LeO.ite ?_ ?_
      | refine LeO.bind ?_ (fun _ => ?_)
theorem furrowworksref04_Size.mono : ∀ a0 k, LeO (furrowworksref04_Size.f k a0) (furrowworksref04_Size.f (k + 1) a0) := by
  intro a0 k
  have ih0 := furrowworksref04_Size.mono_l k
  unfold furrowworksref04_Size.f
  repeat' first
      | (with_reducible exact ih0 _ _)
      | (with_reducible exact LeO.refl _)
      | (with_reducible exact LeO.none _)
      | (with_reducible refine LeO.ite ?_ ?_)
      | (with_reducible refine LeO.bind ?_ (fun _ => ?_))
      | exact ih0 _ _
      | exact LeO.none _
      | refine LeO.ite ?_ ?_
      | refine LeO.bind ?_ (fun _ => ?_)
set_option maxHeartbeats 8000000 in
set_option maxRecDepth 100000 in
theorem furrowworksref04_Size.calls (k : Nat) (a0 : Int) (r : Int) (w : World) (h : furrowworksref04_Size.f k a0 = some r) :
    Calls Try.prog 37 #[.int .i64 a0] w fun e w' => e = .returned (.int .i64 r) ∧ Drawn0 w w' := by
  have H : (furrowworksref04_Size.l0 k a0 0) = some r := h
  clear h
  have H' := Aside0.mk H
  clear H
  go_enter Try.func37, Try.ntmps37
  go_wp2
  go_loopg [0, 3] k (fun kq v0 v3 w' => ∃ (x0_1 : Int) (x3_1 : Int), v0 = .int .i64 x0_1 ∧ v3 = .int .i64 x3_1 ∧ Aside0 (furrowworksref04_Size.l0 kq x0_1 x3_1 = some r) ∧ Aside0 (kq ≤ k) ∧ Drawn0 w w')
  case atStart => exact ⟨(a0), (0), (by first | rfl | (simp; done) | (simp [*]; done)), (by first | rfl | (simp; done) | (simp [*]; done)), H', ⟨Nat.le_refl _⟩, by repeat (first | exact Drawn0.refl _ | apply Drawn0.step)⟩
  case round =>
    clear H'
    obtain ⟨x0_1, x3_1, rfl, rfl, HA, HK1, ⟨m1, rfl⟩⟩ := hrel
    cases gk with
    | zero => exact absurd HA.out (by simp [furrowworksref04_Size.l0])
    | succ k1 =>
      have H := HA.out
      clear HA
      simp only [furrowworksref04_Size.l0] at H
      by_cases c2 : x0_1 > 0
      · rw [if_pos c2] at H
        have c2b0 : decide (0 < x0_1) = true := decide_eq_true c2
        clear c2
        have H' := Aside0.mk H
        clear H
        go_wp2
        go_roundg k1
        case measure => have := HK1.out; omega
        case rel => exact ⟨(wrap64 (Int.tdiv x0_1 2)), (wrap64 (x3_1 + (Int.tmod x0_1 2))), (by first | rfl | (simp; done) | (simp [*]; done)), (by first | rfl | (simp; done) | (simp [*]; done)), H', ⟨by have := HK1.out; omega⟩, by repeat (first | exact Drawn0.refl _ | apply Drawn0.step)⟩
      · rw [if_neg c2] at H
        have c2b0 : decide (0 < x0_1) = false := decide_eq_false c2
        clear c2
        obtain rfl := Option.some.inj H
        go_wp2
        go_ret
        exact ⟨by first | rfl | (simp; done) | (simp [*]; done), by repeat (first | exact Drawn0.refl _ | apply Drawn0.step)⟩

end Go.Proofs.Ytafmgmaelnpehaa.PFurrowAsks
end

section
namespace Go.Proofs.Ytafmgmaelnpehaa.PFurrowAsks
open Go.RowKit Go.Proofs.YtafmgmaelnpehaaW.PrintWords Go.Proofs.YtafmgmaelnpehaaW.PrintLast Go.Proofs.YtafmgmaelnpehaaW.PrintMore
attribute [local go_sem] max2_int min2_int max_two min_two max_three min_three max_four min_four   -- for this text's walks alone
set_option linter.unusedVariables false
set_option linter.unusedSimpArgs false

/-! ### furrowworksref04_bend: function 55 -/
def furrowworksref04_bend.f (l0 : List Int) (a1 : Int) : Option (Int) := if 0 ≤ a1 then (if a1 < (l0.length : Int) then (if 0 ≤ (wrap64 (a1 - 1)) then (if (wrap64 (a1 - 1)) < (l0.length : Int) then (if 0 ≤ (wrap64 (a1 + 1)) then (if (wrap64 (a1 + 1)) < (l0.length : Int) then (some (mx (wrap64 ((wrap64 ((wrap64 (2 * (rd l0 a1))) - (rd l0 (wrap64 (a1 - 1))))) - (rd l0 (wrap64 (a1 + 1))))) (wrap64 (-(wrap64 ((wrap64 ((wrap64 (2 * (rd l0 a1))) - (rd l0 (wrap64 (a1 - 1))))) - (rd l0 (wrap64 (a1 + 1))))))))) else (none)) else (none)) else (none)) else (none)) else (none)) else (none)
set_option maxHeartbeats 8000000 in
set_option maxRecDepth 100000 in
theorem furrowworksref04_bend.calls (A0 : Option Addr) (c0 : Nat) (l0 : List Int) (a1 : Int) (r : Int) (w : World) (hr0 : Kd.C (Kd.int .i64) w A0 l0.length l0) (hc0 : l0.length ≤ c0) (h : furrowworksref04_bend.f l0 a1 = some r) :
    Calls Try.prog 55 #[.slice A0 l0.length c0, .int .i64 a1] w fun e w' => e = .returned (.int .i64 r) ∧ Below w.heap.size w w' := by
  have HR0 := Aside0.mk hr0
  have HC0 := Aside0.mk hc0
  clear hr0 hc0
  have HB := Aside0.mk (Below.refl w.heap.size w)
  have H : (if 0 ≤ a1 then (if a1 < (l0.length : Int) then (if 0 ≤ (wrap64 (a1 - 1)) then (if (wrap64 (a1 - 1)) < (l0.length : Int) then (if 0 ≤ (wrap64 (a1 + 1)) then (if (wrap64 (a1 + 1)) < (l0.length : Int) then (some (mx (wrap64 ((wrap64 ((wrap64 (2 * (rd l0 a1))) - (rd l0 (wrap64 (a1 - 1))))) - (rd l0 (wrap64 (a1 + 1))))) (wrap64 (-(wrap64 ((wrap64 ((wrap64 (2 * (rd l0 a1))) - (rd l0 (wrap64 (a1 - 1))))) - (rd l0 (wrap64 (a1 + 1))))))))) else (none)) else (none)) else (none)) else (none)) else (none)) else (none)) = some r := h
  clear h
  by_cases c3 : 0 ≤ a1
  · rw [if_pos c3] at H
    have c3b0 : decide (0 ≤ a1) = true := decide_eq_true c3
    clear c3
    by_cases c4 : a1 < (l0.length : Int)
    · rw [if_pos c4] at H
      have c4b0 : decide (a1 < (l0.length : Int)) = true := decide_eq_true c4
      clear c4
      obtain ⟨ji5, hji5⟩ : ∃ j_ : Int, (wrap64 (a1 - 1)) = j_ := ⟨_, rfl⟩
      replace H : (if 0 ≤ (ji5) then (if (ji5) < (l0.length : Int) then (if 0 ≤ (wrap64 (a1 + 1)) then (if (wrap64 (a1 + 1)) < (l0.length : Int) then (some (mx (wrap64 ((wrap64 ((wrap64 (2 * (rd l0 a1))) - (rd l0 (ji5)))) - (rd l0 (wrap64 (a1 + 1))))) (wrap64 (-(wrap64 ((wrap64 ((wrap64 (2 * (rd l0 a1))) - (rd l0 (ji5)))) - (rd l0 (wrap64 (a1 + 1))))))))) else (none)) else (none)) else (none)) else (none)) = some r := by first | (rw [hji5] at H; exact H) | (simp only [hji5] at H ⊢; exact H)
      have hji5w : (IntKind.i64.wrap (a1 - 1)) = ji5 := (i64_w _).trans hji5
      by_cases c6 : 0 ≤ (ji5)
      · rw [if_pos c6] at H
        have c6b0 : decide (0 ≤ (ji5)) = true := decide_eq_true c6
        clear c6
        by_cases c7 : (ji5) < (l0.length : Int)
        · rw [if_pos c7] at H
          have c7b0 : decide ((ji5) < (l0.length : Int)) = true := decide_eq_true c7
          clear c7
          obtain ⟨ji8, hji8⟩ : ∃ j_ : Int, (wrap64 (a1 + 1)) = j_ := ⟨_, rfl⟩
          replace H : (if 0 ≤ (ji8) then (if (ji8) < (l0.length : Int) then (some (mx (wrap64 ((wrap64 ((wrap64 (2 * (rd l0 a1))) - (rd l0 (ji5)))) - (rd l0 (ji8)))) (wrap64 (-(wrap64 ((wrap64 ((wrap64 (2 * (rd l0 a1))) - (rd l0 (ji5)))) - (rd l0 (ji8)))))))) else (none)) else (none)) = some r := by first | (rw [hji8] at H; exact H) | (simp only [hji8] at H ⊢; exact H)
          have hji8w : (IntKind.i64.wrap (a1 + 1)) = ji8 := (i64_w _).trans hji8
          by_cases c9 : 0 ≤ (ji8)
          · rw [if_pos c9] at H
            have c9b0 : decide (0 ≤ (ji8)) = true := decide_eq_true c9
            clear c9
            by_cases c10 : (ji8) < (l0.length : Int)
            · rw [if_pos c10] at H
              have c10b0 : decide ((ji8) < (l0.length : Int)) = true := decide_eq_true c10
              clear c10
              obtain ⟨ji11, hji11⟩ : ∃ j_ : Int, (mx (wrap64 ((wrap64 ((wrap64 (2 * (rd l0 a1))) - (rd l0 (ji5)))) - (rd l0 (ji8)))) (wrap64 (-(wrap64 ((wrap64 ((wrap64 (2 * (rd l0 a1))) - (rd l0 (ji5)))) - (rd l0 (ji8))))))) = j_ := ⟨_, rfl⟩
              replace H : (some ji11) = some r := by first | (rw [hji11] at H; exact H) | (simp only [hji11] at H ⊢; exact H)
              have hji11_ : (if (wrap64 ((wrap64 ((wrap64 (2 * (rd l0 a1))) - (rd l0 (ji5)))) - (rd l0 (ji8)))) < (wrap64 (-(wrap64 ((wrap64 ((wrap64 (2 * (rd l0 a1))) - (rd l0 (ji5)))) - (rd l0 (ji8)))))) then (wrap64 (-(wrap64 ((wrap64 ((wrap64 (2 * (rd l0 a1))) - (rd l0 (ji5)))) - (rd l0 (ji8)))))) else (wrap64 ((wrap64 ((wrap64 (2 * (rd l0 a1))) - (rd l0 (ji5)))) - (rd l0 (ji8))))) = ji11 := hji11
              obtain rfl := Option.some.inj H
              have p164 : 0 ≤ (a1 : Int) := of_decide_eq_true (by first | (with_reducible assumption) | assumption)
              have q164 : a1 < (l0.length : Int) := of_decide_eq_true (by first | (with_reducible assumption) | assumption)
              obtain ⟨ad164, e164, hx164_0⟩ := Kd.at_int HR0.out a1 p164 q164
              cases e164
              replace p164 := eq_true p164
              replace q164 := eq_true q164
              have p165 : 0 ≤ ((ji5) : Int) := of_decide_eq_true (by first | (with_reducible assumption) | assumption)
              have q165 : (ji5) < (l0.length : Int) := of_decide_eq_true (by first | (with_reducible assumption) | assumption)
              obtain ⟨ad165, e165, hx165_0⟩ := Kd.at_int HR0.out (ji5) p165 q165
              obtain rfl : ad164 = ad165 := (by injection e165)
              replace p165 := eq_true p165
              replace q165 := eq_true q165
              have p166 : 0 ≤ ((ji8) : Int) := of_decide_eq_true (by first | (with_reducible assumption) | assumption)
              have q166 : (ji8) < (l0.length : Int) := of_decide_eq_true (by first | (with_reducible assumption) | assumption)
              obtain ⟨ad166, e166, hx166_0⟩ := Kd.at_int HR0.out (ji8) p166 q166
              obtain rfl : ad164 = ad166 := (by injection e166)
              replace p166 := eq_true p166
              replace q166 := eq_true q166
              go_enter Try.func55, Try.ntmps55
              go_wp2
              repeat (go_quiet (fail); try go_wp2)
              go_ret
              exact ⟨by first | rfl | (simp [errW_none, errW_some] <;> rfl) | (simp only [← hji5, ← hji8, ← hji11]; first | rfl | (simp [errW_none, errW_some] <;> rfl)) | (simp [*, errW_none, errW_some] <;> rfl), by repeat (first | (with_reducible first | exact HB.out | apply below_alloc | apply pw_below_drewN | apply below_drew1) | exact HB.out)⟩
            · rw [if_neg c10] at H
              exact absurd H (by simp)
          · rw [if_neg c9] at H
            exact absurd H (by simp)
        · rw [if_neg c7] at H
          exact absurd H (by simp)
      · rw [if_neg c6] at H
        exact absurd H (by simp)
    · rw [if_neg c4] at H
      exact absurd H (by simp)
  · rw [if_neg c3] at H
    exact absurd H (by simp)

end Go.Proofs.Ytafmgmaelnpehaa.PFurrowAsks
end

section
namespace Go.Proofs.Ytafmgmaelnpehaa.PFurrowAsks
open Go.RowKit Go.Proofs.YtafmgmaelnpehaaW.PrintWords Go.Proofs.YtafmgmaelnpehaaW.PrintLast Go.Proofs.YtafmgmaelnpehaaW.PrintMore
attribute [local go_sem] max2_int min2_int max_two min_two max_three min_three max_four min_four   -- for this text's walks alone
set_option linter.unusedVariables false
set_option linter.unusedSimpArgs false

/-! ### furrowworksref04_can: function 67 -/
mutual
def furrowworksref04_can.l0 : Nat → List (S28) → Int → List Int → Int → Int → Option (Bool)
  | 0, _, _, _, _, _ => none
  | k + 1, x0, x1, x2, x7, x8 => if 0 ≤ x7 then (if x7 < (x0.length : Int) then (if x8 ≤ ((rd_T28 x0 x7).f1) then ((some (([] : List Int) : List Int)).bind fun y209 => (if y209.length + x2.length < 17592186044416 then ((some (y209 ++ x2 : List Int)).bind fun y212 => (if y212.length < 17592186044416 then ((some (y212 ++ [x8] : List Int)).bind fun y215 => (if x7 < 2 then (furrowworksref04_can.j1 k x0 x1 x2 x7 x8 y215 true) else ((furrowworksref04_bend.f y215 (wrap64 (x7 - 1))).bind fun t218 => (furrowworksref04_can.j1 k x0 x1 x2 x7 x8 y215 (decide (t218 ≤ x1)))))) else (none))) else (none))) else (some false)) else (none)) else (none)
def furrowworksref04_can.j1 : Nat → List (S28) → Int → List Int → Int → Int → List Int → Bool → Option (Bool)
  | 0, _, _, _, _, _, _, _ => none
  | k + 1, x0, x1, x2, x7, x8, x9, x46 => if x46 = true then ((furrowworksref04_can.f k x0 x1 x9).bind fun t219 => (if t219 = true then (some true) else (furrowworksref04_can.l0 k x0 x1 x2 x7 (wrap64 (x8 + 1))))) else (furrowworksref04_can.l0 k x0 x1 x2 x7 (wrap64 (x8 + 1)))
def furrowworksref04_can.f : Nat → List (S28) → Int → List Int → Option (Bool)
  | 0, _, _, _ => none
  | k + 1, l0, a1, l2 => if (l2.length : Int) = (l0.length : Int) then (some true) else (if 0 ≤ (l2.length : Int) then (if (l2.length : Int) < (l0.length : Int) then (furrowworksref04_can.l0 k l0 a1 l2 (l2.length : Int) ((rd_T28 l0 (l2.length : Int)).f0)) else (none)) else (none))
end
theorem furrowworksref04_can.mono_l : ∀ k, (∀ y0 y1 y2, LeO (furrowworksref04_can.f k y0 y1 y2) (furrowworksref04_can.f (k + 1) y0 y1 y2)) ∧ (∀ y0 y1 y2 y3 y4, LeO (furrowworksref04_can.l0 k y0 y1 y2 y3 y4) (furrowworksref04_can.l0 (k + 1) y0 y1 y2 y3 y4)) ∧ (∀ y0 y1 y2 y3 y4 y5 y6, LeO (furrowworksref04_can.j1 k y0 y1 y2 y3 y4 y5 y6) (furrowworksref04_can.j1 (k + 1) y0 y1 y2 y3 y4 y5 y6))
  | 0 => ⟨fun _ _ _ r h => by simp [furrowworksref04_can.f] at h, fun _ _ _ _ _ r h => by simp [furrowworksref04_can.l0] at h, fun _ _ _ _ _ _ _ r h => by simp [furrowworksref04_can.j1] at h⟩
  | k + 1 => by
    obtain ⟨ih0, ih1, ih2⟩ := furrowworksref04_can.mono_l k
    refine ⟨?_, ?_, ?_⟩
    · intro y0 y1 y2
      unfold furrowworksref04_can.f
      repeat' first
      | (with_reducible exact ih0 _ _ _)
      | (with_reducible exact ih1 _ _ _ _ _)
      | (with_reducible exact ih2 _ _ _ _ _ _ _)
      | (with_reducible exact LeO.refl _)
      | (with_reducible exact LeO.none _)
      | (with_reducible refine LeO.ite ?_ ?_)
      | (with_reducible refine LeO.bind ?_ (fun _ => ?_))
      | exact ih0 _ _ _
      | exact ih1 _ _ _ _ _
      | exact ih2 _ _ _ _ _ _ _
      | exact LeO.none _
      | refine LeO.ite ?_ ?_
      | refine LeO.bind ?_ (fun _ => ?_)
    · intro y0 y1 y2 y3 y4
      unfold furrowworksref04_can.l0
      repeat' first
      | (with_reducible exact ih0 _ _ _)
      | (with_reducible exact ih1 _ _ _ _ _)
      | (with_reducible exact ih2 _ _ _ _ _ _ _)
      | (with_reducible exact LeO.refl _)
      | (with_reducible exact LeO.none _)
      | (with_reducible refine LeO.ite ?_ ?_)
      | (with_reducible refine LeO.bind ?_ (fun _ => ?_))
      | exact ih0 _ _ _
      | exact ih1 _ _ _ _ _
      | exact ih2 _ _ _ _ _ _ _
      | exact LeO.none _
      | refine LeO.ite ?_ ?_
      | refine LeO.bind ?_ (fun _ => ?_)
    · intro y0 y1 y2 y3 y4 y5 y6
      unfold furrowworksref04_can.j1
      repeat' first
      | (with_reducible exact ih0 _ _ _)
      | (with_reducible exact ih1 _ _ _ _ _)
      | (with_reducible exact ih2 _ _ _ _ _ _ _)
      | (with_reducible exact LeO.refl _)
      | (with_reducible exact LeO.none _)
      | (with_reducible refine LeO.ite ?_ ?_)
      | (with_reducible refine LeO.bind ?_ (fun _ => ?_))
      | exact ih0 _ _ _
      | exact ih1 _ _ _ _ _
      | exact ih2 _ _ _ _ _ _ _
      | exact LeO.none _
      | refine LeO.ite ?_ ?_
      | refine LeO.bind ?_ (fun _ => ?_)
theorem furrowworksref04_can.mono : ∀ a0 a1 a2 k, LeO (furrowworksref04_can.f k a0 a1 a2) (furrowworksref04_can.f (k + 1) a0 a1 a2) := by
  intro a0 a1 a2 k
  obtain ⟨ih0, ih1, ih2⟩ := furrowworksref04_can.mono_l k
  exact ih0 a0 a1 a2
set_option maxHeartbeats 8000000 in
set_option maxRecDepth 100000 in
theorem furrowworksref04_can.calls (k : Nat) : ∀ (A0 : Option Addr) (c0 : Nat) (l0 : List (S28)) (a1 : Int) (A2 : Option Addr) (c2 : Nat) (l2 : List Int) (r : Bool) (w : World) (hr0 : Kd.C k28 w A0 l0.length l0) (hc0 : l0.length ≤ c0) (hr2 : Kd.C (Kd.int .i64) w A2 l2.length l2) (hc2 : l2.length ≤ c2) (h : furrowworksref04_can.f k l0 a1 l2 = some r),
    Calls Try.prog 67 #[.slice A0 l0.length c0, .int .i64 a1, .slice A2 l2.length c2] w fun e w' => e = .returned (.bool r) ∧ Below w.heap.size w w' := by
  induction k using Nat.strongRecOn with
  | _ k ih =>
  intro A0 c0 l0 a1 A2 c2 l2 r w hr0 hc0 hr2 hc2 h
  cases k with
  | zero => exact absurd h (by simp [furrowworksref04_can.f])
  | succ k =>
  simp only [furrowworksref04_can.f] at h
  have HR0 := Aside0.mk hr0
  have HC0 := Aside0.mk hc0
  clear hr0 hc0
  have HR2 := Aside0.mk hr2
  have HC2 := Aside0.mk hc2
  clear hr2 hc2
  have HB := Aside0.mk (Below.refl w.heap.size w)
  have H : (if (l2.length : Int) = (l0.length : Int) then (some true) else (if 0 ≤ (l2.length : Int) then (if (l2.length : Int) < (l0.length : Int) then (furrowworksref04_can.l0 k l0 a1 l2 (l2.length : Int) ((rd_T28 l0 (l2.length : Int)).f0)) else (none)) else (none))) = some r := h
  clear h
  by_cases c4 : (l2.length : Int) = (l0.length : Int)
  · rw [if_pos c4] at H
    have c4b0 : ((l2.length : Int) == (l0.length : Int)) = true := beq_iff_eq.mpr c4
    have c4b1 : ((l2.length : Int) != (l0.length : Int)) = false := bne_eq_false_iff_eq.mpr c4
    have c4b2 : (l2.length == l0.length) = true := by first | simpa using c4 | (simp at c4 ⊢; omega)
    clear c4
    obtain rfl := Option.some.inj H
    go_enter Try.func67, Try.ntmps67
    go_wp2
    go_ret
    exact ⟨by first | rfl | (simp [errW_none, errW_some] <;> rfl) | (simp [*, errW_none, errW_some] <;> rfl), by repeat (first | (with_reducible first | exact HB.out | apply below_alloc | apply pw_below_drewN | apply below_drew1) | exact HB.out)⟩
  · rw [if_neg c4] at H
    have c4b0 : ((l2.length : Int) == (l0.length : Int)) = false := beq_eq_false_iff_ne.mpr c4
    have c4b1 : ((l2.length : Int) != (l0.length : Int)) = true := bne_iff_ne.mpr c4
    have c4b2 : (l2.length == l0.length) = false := by first | simpa using c4 | (simp at c4 ⊢; omega)
    by_cases c5 : 0 ≤ (l2.length : Int)
    · rw [if_pos c5] at H
      have c5b0 : decide (0 ≤ (l2.length : Int)) = true := decide_eq_true c5
      have c5b1 : decide (0 ≤ l2.length) = true := decide_eq_true (by omega)
      clear c5
      by_cases c6 : (l2.length : Int) < (l0.length : Int)
      · rw [if_pos c6] at H
        have c6b0 : decide ((l2.length : Int) < (l0.length : Int)) = true := decide_eq_true c6
        have c6b1 : decide (l2.length < l0.length) = true := decide_eq_true (Int.ofNat_lt.mp c6)
        clear c6
        have H' := Aside0.mk H
        clear H
        have p207 : 0 ≤ ((l2.length : Int) : Int) := of_decide_eq_true (by first | (with_reducible assumption) | assumption)
        have q207 : (l2.length : Int) < (l0.length : Int) := of_decide_eq_true (by first | (with_reducible assumption) | assumption)
        obtain ⟨ad207, e207, hx207_0, hx207_1⟩ := at_T28 HR0.out (l2.length : Int) p207 q207
        cases e207
        (try simp only [Go.IntWalk.toNatUp] at hx207_0)
        (try simp only [Go.IntWalk.toNatUp] at hx207_1)
        replace p207 := eq_true p207
        replace q207 := eq_true q207
        go_enter Try.func67, Try.ntmps67
        go_wp2
        go_loopg [8] k (fun kq v8 w' => ∃ (x8_1 : Int), v8 = .int .i64 x8_1 ∧ Aside0 (furrowworksref04_can.l0 kq l0 a1 l2 (l2.length : Int) x8_1 = some r) ∧ Aside0 (kq ≤ k) ∧ Aside0 (Below w.heap.size w w'))
        case atStart => exact ⟨((rd_T28 l0 (l2.length : Int)).f0), (by first | rfl | (simp; done) | (simp [*]; done)), H', ⟨Nat.le_refl _⟩, ⟨by repeat (first | (with_reducible first | exact HB.out | apply below_alloc | apply pw_below_drewN | apply below_drew1) | exact HB.out)⟩⟩
        case round =>
          clear H'
          try clear c2
          try clear p2
          try clear q2
          try clear hx2
          try clear c4
          try clear c4b0
          try clear c4b1
          try clear c4b2
          try clear c5
          try clear c5b0
          try clear c5b1
          try clear c6
          try clear c6b0
          try clear c6b1
          try clear hx207_0
          try clear hx207_1
          try clear p207
          try clear q207
          obtain ⟨x8_1, rfl, HA, HK1, HB⟩ := hrel
          cases gk with
          | zero => exact absurd HA.out (by simp [furrowworksref04_can.l0])
          | succ k1 =>
            have H := HA.out
            clear HA
            simp only [furrowworksref04_can.l0] at H
            by_cases c7 : 0 ≤ (l2.length : Int)
            · rw [if_pos c7] at H
              have c7b0 : decide (0 ≤ (l2.length : Int)) = true := decide_eq_true c7
              have c7b1 : decide (0 ≤ l2.length) = true := decide_eq_true (by omega)
              clear c7
              by_cases c8 : (l2.length : Int) < (l0.length : Int)
              · rw [if_pos c8] at H
                have c8b0 : decide ((l2.length : Int) < (l0.length : Int)) = true := decide_eq_true c8
                have c8b1 : decide (l2.length < l0.length) = true := decide_eq_true (Int.ofNat_lt.mp c8)
                clear c8
                by_cases c9 : x8_1 ≤ ((rd_T28 l0 (l2.length : Int)).f1)
                · rw [if_pos c9] at H
                  have c9b0 : decide (x8_1 ≤ ((rd_T28 l0 (l2.length : Int)).f1)) = true := decide_eq_true c9
                  clear c9
                  obtain ⟨y209, hy209⟩ : ∃ y_ : List Int, y_ = (([] : List Int)) := ⟨_, rfl⟩
                  replace H : (if y209.length + l2.length < 17592186044416 then ((some (y209 ++ l2 : List Int)).bind fun y212 => (if y212.length < 17592186044416 then ((some (y212 ++ [x8_1] : List Int)).bind fun y215 => (if (l2.length : Int) < 2 then (furrowworksref04_can.j1 k1 l0 a1 l2 (l2.length : Int) x8_1 y215 true) else ((furrowworksref04_bend.f y215 (wrap64 ((l2.length : Int) - 1))).bind fun t218 => (furrowworksref04_can.j1 k1 l0 a1 l2 (l2.length : Int) x8_1 y215 (decide (t218 ≤ a1)))))) else (none))) else (none)) = some r := by first | (rw [hy209]; with_reducible exact H) | (have H2_ := (Option.bind_some _ _).symm.trans H; rw [hy209]; with_reducible exact H2_) | (have H2_ := (Option.bind_some _ _).symm.trans H; with_reducible exact H2_) | with_reducible exact H | (rw [hy209]; exact H) | exact H
                  have Ny209 := Aside0.mk hy209
                  clear hy209
                  by_cases c10 : y209.length + l2.length < 17592186044416
                  · rw [if_pos c10] at H
                    have LMc10 := Aside0.mk c10
                    clear c10
                    obtain ⟨y212, hy212⟩ : ∃ y_ : List Int, y_ = (y209 ++ l2) := ⟨_, rfl⟩
                    replace H : (if y212.length < 17592186044416 then ((some (y212 ++ [x8_1] : List Int)).bind fun y215 => (if (l2.length : Int) < 2 then (furrowworksref04_can.j1 k1 l0 a1 l2 (l2.length : Int) x8_1 y215 true) else ((furrowworksref04_bend.f y215 (wrap64 ((l2.length : Int) - 1))).bind fun t218 => (furrowworksref04_can.j1 k1 l0 a1 l2 (l2.length : Int) x8_1 y215 (decide (t218 ≤ a1)))))) else (none)) = some r := by first | (rw [hy212]; with_reducible exact H) | (have H2_ := (Option.bind_some _ _).symm.trans H; rw [hy212]; with_reducible exact H2_) | (have H2_ := (Option.bind_some _ _).symm.trans H; with_reducible exact H2_) | with_reducible exact H | (rw [hy212]; exact H) | exact H
                    have Ny212 := Aside0.mk hy212
                    clear hy212
                    by_cases c11 : y212.length < 17592186044416
                    · rw [if_pos c11] at H
                      have LMc11 := Aside0.mk c11
                      clear c11
                      obtain ⟨y215, hy215⟩ : ∃ y_ : List Int, y_ = (y212 ++ [x8_1]) := ⟨_, rfl⟩
                      replace H : (if (l2.length : Int) < 2 then (furrowworksref04_can.j1 k1 l0 a1 l2 (l2.length : Int) x8_1 y215 true) else ((furrowworksref04_bend.f y215 (wrap64 ((l2.length : Int) - 1))).bind fun t218 => (furrowworksref04_can.j1 k1 l0 a1 l2 (l2.length : Int) x8_1 y215 (decide (t218 ≤ a1))))) = some r := by first | (rw [hy215]; with_reducible exact H) | (have H2_ := (Option.bind_some _ _).symm.trans H; rw [hy215]; with_reducible exact H2_) | (have H2_ := (Option.bind_some _ _).symm.trans H; with_reducible exact H2_) | with_reducible exact H | (rw [hy215]; exact H) | exact H
                      have Ny215 := Aside0.mk hy215
                      clear hy215
                      have HC12 := Aside0.mk H
                      clear H
                      have p208 : 0 ≤ ((l2.length : Int) : Int) := of_decide_eq_true (by first | (with_reducible assumption) | assumption)
                      have q208 : (l2.length : Int) < (l0.length : Int) := of_decide_eq_true (by first | (with_reducible assumption) | assumption)
                      obtain ⟨ad208, e208, hx208_0, hx208_1⟩ := at_T28 HR0.out (l2.length : Int) p208 q208
                      obtain rfl : ad207 = ad208 := (by injection e208)
                      replace hx208_0 := (HB.out.cell (World.block_lt_of_cell? w _ hx208_0)).trans hx208_0
                      replace hx208_1 := (HB.out.cell (World.block_lt_of_cell? w _ hx208_1)).trans hx208_1
                      (try simp only [Go.IntWalk.toNatUp] at hx208_0)
                      (try simp only [Go.IntWalk.toNatUp] at hx208_1)
                      replace p208 := eq_true p208
                      replace q208 := eq_true q208
                      go_upto_region 8 with (first | ((with_reducible refine gate_dst (N := 31) rfl ?_); refine Kd.R_lit (Kd.int .i64) _ 3 ?hg (N := 31) ?hd (xs := ([] : List Int)) (inner := []) (ok := fun _ => True) (okp := fun _ => True) ?hr ?hp (fun _ hk => hk) trivial (Below.refl _ _) (Nat.le_refl _) (by simp) ?_; (case hd => rfl); (case hg => rfl); (case hr => first | (go_simp; done) | (go_simp; rfl)); (case hp => exact (Reps.none _ _)); intro v210 w13 ho14 hb hg_ hnew_; clear hg_ hnew_; (first | rw [← Ny209.out] at ho14 | (simp only [Int.reduceToNat] at ho14; rw [← Ny209.out] at ho14)); have n0_ := Aside0.mk (Kd.R_lower ho14 (below_size (by repeat (first | (with_reducible first | exact HB.out | apply below_alloc | apply pw_below_drewN | apply below_drew1) | exact HB.out)))); have n1_ := Aside0.mk (below_step (by repeat (first | (with_reducible first | exact HB.out | apply below_alloc | apply pw_below_drewN | apply below_drew1) | exact HB.out)) hb); clear HB; have HO211 := n0_; have HB := n1_; clear n0_ n1_; clear hb ho14) | ((with_reducible refine gate_builtin (b := .append) (xs := #[.tmp 31, .tmp 32]) rfl ?_); at_builtin; refine Kd.R_append_rows (Kd.int .i64) (w0 := w) w.heap.size rfl (.tmp 31) (.tmp 32) 33 3 (.int .i64 0) 8 rfl Try.underlying33 info3 rfl (by decide) (by omega) v210 y209 l2 _ _ _ (fun _ => True) (fun _ => False) rfl rfl ?aO ?aR (fun _ _ h => h) (fun _ h => h.elim) ?aF ?aB ?aS ?aL ?_; (case aR => repeat (first | exact (Kd.C_below HR2.out HB.out) | (with_reducible refine Kd.C_alloc ?_ _) | (with_reducible refine Kd.C_drewN ?_ _) | (with_reducible refine Kd.C_drew ?_))); (case aB => exact (by repeat (first | (with_reducible first | exact HB.out | apply below_alloc | apply pw_below_drewN | apply below_drew1) | exact HB.out))); (case aF => exact (fun _ _ => trivial)); (case aO => exact (by (with_reducible repeat (first | apply Kd.R_alloc | apply Kd.R_drewN | apply Kd.R_drew)); exact HO211.out)); (case aS => exact (below_size (by repeat (first | (with_reducible first | exact HB.out | apply below_alloc | apply pw_below_drewN | apply below_drew1) | exact HB.out)))); (case aL => have := LMc10.out; omega); intro v213 w15 ho hb hg hat; rw [← Ny212.out] at ho; have n0_ := Aside0.mk (hb); have n1_ := Aside0.mk (ho); clear HB; clear HO211; have HB := n0_; have HO214 := n1_; clear n0_ n1_; clear ho hb hg hat) | ((with_reducible refine gate_builtin (b := .append) (xs := #[.tmp 33, .tmp 35]) rfl ?_); at_builtin; refine Kd.R_append (Kd.int .i64) (w0 := w) w.heap.size rfl (.tmp 33) (.tmp 35) 33 3 (.int .i64 0) 8 rfl Try.underlying33 info3 rfl (by decide) (by omega) v213 y212 x8_1 [.int .i64 x8_1] (fun _ => True) (fun _ => False) rfl rfl ?aP (fun _ hk => hk.elim) ?aF ?aO ?aB ?aS ?aL ?_; (case aP => exact rfl); (case aB => exact (by repeat (first | (with_reducible first | exact HB.out | apply below_alloc | apply pw_below_drewN | apply below_drew1) | exact HB.out))); (case aF => exact (fun _ _ => trivial)); (case aO => exact (by (with_reducible repeat (first | apply Kd.R_alloc | apply Kd.R_drewN | apply Kd.R_drew)); exact HO214.out)); (case aS => exact (below_size (by repeat (first | (with_reducible first | exact HB.out | apply below_alloc | apply pw_below_drewN | apply below_drew1) | exact HB.out)))); (case aL => have := LMc11.out; omega); intro v216 w16 ho hb hg hat; rw [← Ny215.out] at ho; have n0_ := Aside0.mk (hb); have n1_ := Aside0.mk (ho); clear HB; clear HO214; have HB := n0_; have HO217 := n1_; clear n0_ n1_; clear ho hb hg hat))
                      (try simp only [Act.put, List.setIfInBounds_toArray, List.set_cons_zero, List.set_cons_succ])
                      go_cut [46] (fun v46 wc => ∃ (kq : Nat) (x46_11 : Bool), v46 = .bool x46_11 ∧ Aside0 (furrowworksref04_can.j1 kq l0 a1 l2 (l2.length : Int) x8_1 y215 x46_11 = some r) ∧ Aside0 (kq ≤ k1) ∧ Aside0 (Kd.R (Kd.int .i64) 3 wc w.heap.size (fun _ => True) v216 y215) ∧ Aside0 (Below w.heap.size w wc))
                      case first =>
                        have H := HC12.out
                        clear HC12
                        by_cases c17 : (l2.length : Int) < 2
                        · rw [if_pos c17] at H
                          have c17b0 : decide ((l2.length : Int) < 2) = true := decide_eq_true c17
                          have c17b1 : decide (l2.length < 2) = true := decide_eq_true (by omega)
                          clear c17
                          (first | rw [c17b0] | (simp only [i64_w, i32_w]; rw [c17b0]) | skip)
                          have H' := Aside0.mk H
                          clear H
                          go_wp2
                          go_meet
                          case rel => exact ⟨_, (true), (by first | rfl | (simp; done) | (simp [*]; done)), H', ⟨by have := HK1.out; first | omega | exact Nat.le_refl _⟩, ⟨by (with_reducible repeat (first | apply Kd.R_alloc | apply Kd.R_drewN | apply Kd.R_drew)); exact HO217.out⟩, ⟨by repeat (first | (with_reducible first | exact HB.out | apply below_alloc | apply pw_below_drewN | apply below_drew1) | exact HB.out)⟩⟩
                        · rw [if_neg c17] at H
                          have c17b0 : decide ((l2.length : Int) < 2) = false := decide_eq_false c17
                          have c17b1 : decide (l2.length < 2) = false := decide_eq_false (by omega)
                          clear c17
                          (first | rw [c17b0] | (simp only [i64_w, i32_w]; rw [c17b0]) | skip)
                          replace H := Option.bind_eq_some_iff.mp H
                          obtain ⟨t218, A180, H⟩ := H
                          replace H : (furrowworksref04_can.j1 k1 l0 a1 l2 (l2.length : Int) x8_1 y215 (decide (t218 ≤ a1))) = some r := H
                          have A18 := Aside0.mk A180
                          clear A180
                          have H' := Aside0.mk H
                          clear H
                          obtain ⟨Ao19, co19, eo19⟩ := Kd.R_slice HO217.out
                          subst eo19
                          go_wp2_with (first | (go_at_call 55; (with_reducible refine (furrowworksref04_bend.calls _ _ y215 (wrap64 ((l2.length : Int) - 1)) t218 _ ?side1 ?side2 A18.out).mono ?_); (case side1 => repeat (first | exact (Kd.R_reads' HO217.out).2.2 | (with_reducible refine Kd.C_alloc ?_ _) | (with_reducible refine Kd.C_drewN ?_ _) | (with_reducible refine Kd.C_drew ?_))); (case side2 => exact (Kd.R_reads' HO217.out).2.1); rintro e w20 ⟨rfl, hb⟩; have n0_ := Aside0.mk (Kd.R_below (by (with_reducible repeat (first | apply Kd.R_alloc | apply Kd.R_drewN | apply Kd.R_drew)); exact HO217.out) hb); have n1_ := Aside0.mk (below_step (by repeat (first | (with_reducible first | exact HB.out | apply below_alloc | apply pw_below_drewN | apply below_drew1) | exact HB.out)) hb); clear HO217; clear HB; have HO217 := n0_; have HB := n1_; clear n0_ n1_; (try clear hb); (try clear hb2); (try clear hk); (try clear hi)))
                          go_meet
                          case rel => exact ⟨_, (decide (t218 ≤ a1)), (by first | rfl | (simp; done) | (simp [*]; done)), H', ⟨by have := HK1.out; first | omega | exact Nat.le_refl _⟩, ⟨by (with_reducible repeat (first | apply Kd.R_alloc | apply Kd.R_drewN | apply Kd.R_drew)); exact HO217.out⟩, ⟨by repeat (first | (with_reducible first | exact HB.out | apply below_alloc | apply pw_below_drewN | apply below_drew1) | exact HB.out)⟩⟩
                      case rest =>
                        clear HC12
                        try clear c1
                        try clear c2
                        try clear p2
                        try clear q2
                        try clear hx2
                        try clear c4
                        try clear c4b0
                        try clear c4b1
                        try clear c4b2
                        try clear c5
                        try clear c5b0
                        try clear c5b1
                        try clear c6
                        try clear c6b0
                        try clear c6b1
                        try clear p6
                        try clear c7
                        try clear c7b0
                        try clear c7b1
                        try clear c8
                        try clear c8b0
                        try clear c8b1
                        try clear c9
                        try clear c9b0
                        try clear c10
                        try clear c11
                        try clear c17
                        try clear c17b0
                        try clear c17b1
                        try clear p20
                        try clear q20
                        try clear hx20
                        try clear hx207_0
                        try clear hx207_1
                        try clear hx208_0
                        try clear hx208_1
                        try clear p2
                        try clear p207
                        try clear p208
                        try clear q2
                        try clear q207
                        try clear q208
                        obtain ⟨kq, x46_11, rfl, HA, HJ11, HO_9, HB⟩ := hcut
                        cases kq with
                        | zero => exact absurd HA.out (by simp [furrowworksref04_can.j1])
                        | succ kj11 =>
                          have H := HA.out
                          clear HA
                          simp only [furrowworksref04_can.j1] at H
                          by_cases c21 : x46_11 = true
                          · subst c21
                            have H1 : ((furrowworksref04_can.f kj11 l0 a1 y215).bind fun t219 => (if t219 = true then (some true) else (furrowworksref04_can.l0 kj11 l0 a1 l2 (l2.length : Int) (wrap64 (x8_1 + 1))))) = some r := by rw [if_pos rfl] at H; exact H
                            clear H
                            have H := H1
                            clear H1
                            replace H := Option.bind_eq_some_iff.mp H
                            obtain ⟨t219, A220, H⟩ := H
                            replace H : (if t219 = true then (some true) else (furrowworksref04_can.l0 kj11 l0 a1 l2 (l2.length : Int) (wrap64 (x8_1 + 1)))) = some r := H
                            have A22 := Aside0.mk A220
                            clear A220
                            by_cases c23 : t219 = true
                            · subst c23
                              have H1 : (some true) = some r := by rw [if_pos rfl] at H; exact H
                              clear H
                              have H := H1
                              clear H1
                              obtain rfl := Option.some.inj H
                              obtain ⟨Ao24, co24, eo24⟩ := Kd.R_slice HO_9.out
                              subst eo24
                              go_wp2_with (first | ((with_reducible refine gate_callee (f := 67) rfl ?_); refine goesL_ (some 50) rfl rfl Try.func67 (by kernel_rfl) rfl #[.slice (some ad207) l0.length c0, .int .i64 a1, .slice Ao24 y215.length co24] rfl (by (try simp only [List.map_toArray, List.map_cons, List.map_nil]); first | done | rfl | (simp only [List.length_drop, List.length_take]; rfl)) ?_; (with_reducible refine (ih kj11 (by have := HK1.out; have := HJ11.out; omega) _ _ l0 a1 _ _ y215 true _ ?side1 ?side2 ?side3 ?side4 A22.out).mono ?_); (case side1 => repeat (first | exact (Kd.C_below HR0.out HB.out) | (with_reducible refine Kd.C_alloc ?_ _) | (with_reducible refine Kd.C_drewN ?_ _) | (with_reducible refine Kd.C_drew ?_))); (case side2 => exact HC0.out); (case side3 => repeat (first | exact (Kd.R_reads' HO_9.out).2.2 | (with_reducible refine Kd.C_alloc ?_ _) | (with_reducible refine Kd.C_drewN ?_ _) | (with_reducible refine Kd.C_drew ?_))); (case side4 => exact (Kd.R_reads' HO_9.out).2.1); rintro e w25 ⟨rfl, hb⟩; refine ⟨_, rfl, ?_⟩; have n0_ := Aside0.mk (Kd.R_below (by (with_reducible repeat (first | apply Kd.R_alloc | apply Kd.R_drewN | apply Kd.R_drew)); exact HO_9.out) hb); have n1_ := Aside0.mk (below_step (by repeat (first | (with_reducible first | exact HB.out | apply below_alloc | apply pw_below_drewN | apply below_drew1) | exact HB.out)) hb); clear HO_9; clear HB; have HO_9 := n0_; have HB := n1_; clear n0_ n1_; (try clear hb); (try clear hb2); (try clear hk); (try clear hi)))
                              go_ret
                              exact ⟨by first | rfl | (simp [errW_none, errW_some] <;> rfl) | (simp [*, errW_none, errW_some] <;> rfl), by repeat (first | (with_reducible first | exact HB.out | apply below_alloc | apply pw_below_drewN | apply below_drew1) | exact HB.out)⟩
                            · replace c23 := Bool.eq_false_iff.mpr c23
                              subst c23
                              have H1 : (furrowworksref04_can.l0 kj11 l0 a1 l2 (l2.length : Int) (wrap64 (x8_1 + 1))) = some r := by rw [if_neg (show ¬ (false = true) by decide)] at H; exact H
                              clear H
                              have H := H1
                              clear H1
                              have H' := Aside0.mk H
                              clear H
                              obtain ⟨Ao26, co26, eo26⟩ := Kd.R_slice HO_9.out
                              subst eo26
                              go_wp2_with (first | ((with_reducible refine gate_callee (f := 67) rfl ?_); refine goesL_ (some 50) rfl rfl Try.func67 (by kernel_rfl) rfl #[.slice (some ad207) l0.length c0, .int .i64 a1, .slice Ao26 y215.length co26] rfl (by (try simp only [List.map_toArray, List.map_cons, List.map_nil]); first | done | rfl | (simp only [List.length_drop, List.length_take]; rfl)) ?_; (with_reducible refine (ih kj11 (by have := HK1.out; have := HJ11.out; omega) _ _ l0 a1 _ _ y215 false _ ?side1 ?side2 ?side3 ?side4 A22.out).mono ?_); (case side1 => repeat (first | exact (Kd.C_below HR0.out HB.out) | (with_reducible refine Kd.C_alloc ?_ _) | (with_reducible refine Kd.C_drewN ?_ _) | (with_reducible refine Kd.C_drew ?_))); (case side2 => exact HC0.out); (case side3 => repeat (first | exact (Kd.R_reads' HO_9.out).2.2 | (with_reducible refine Kd.C_alloc ?_ _) | (with_reducible refine Kd.C_drewN ?_ _) | (with_reducible refine Kd.C_drew ?_))); (case side4 => exact (Kd.R_reads' HO_9.out).2.1); rintro e w27 ⟨rfl, hb⟩; refine ⟨_, rfl, ?_⟩; have n0_ := Aside0.mk (Kd.R_below (by (with_reducible repeat (first | apply Kd.R_alloc | apply Kd.R_drewN | apply Kd.R_drew)); exact HO_9.out) hb); have n1_ := Aside0.mk (below_step (by repeat (first | (with_reducible first | exact HB.out | apply below_alloc | apply pw_below_drewN | apply below_drew1) | exact HB.out)) hb); clear HO_9; clear HB; have HO_9 := n0_; have HB := n1_; clear n0_ n1_; (try clear hb); (try clear hb2); (try clear hk); (try clear hi)))
                              go_roundg kj11
                              case measure => have := HK1.out; have := HJ11.out; omega
                              case rel => exact ⟨(wrap64 (x8_1 + 1)), (by first | rfl | (simp; done) | (simp [*]; done)), H', ⟨by have := HK1.out; have := HJ11.out; omega⟩, ⟨by repeat (first | (with_reducible first | exact HB.out | apply below_alloc | apply pw_below_drewN | apply below_drew1) | exact HB.out)⟩⟩
                          · replace c21 := Bool.eq_false_iff.mpr c21
                            subst c21
                            have H1 : (furrowworksref04_can.l0 kj11 l0 a1 l2 (l2.length : Int) (wrap64 (x8_1 + 1))) = some r := by rw [if_neg (show ¬ (false = true) by decide)] at H; exact H
                            clear H
                            have H := H1
                            clear H1
                            have H' := Aside0.mk H
                            clear H
                            go_wp2
                            go_roundg kj11
                            case measure => have := HK1.out; have := HJ11.out; omega
                            case rel => exact ⟨(wrap64 (x8_1 + 1)), (by first | rfl | (simp; done) | (simp [*]; done)), H', ⟨by have := HK1.out; have := HJ11.out; omega⟩, ⟨by repeat (first | (with_reducible first | exact HB.out | apply below_alloc | apply pw_below_drewN | apply below_drew1) | exact HB.out)⟩⟩
                    · rw [if_neg c11] at H
                      exact absurd H (by simp)
                  · rw [if_neg c10] at H
                    exact absurd H (by simp)
                · rw [if_neg c9] at H
                  have c9b0 : decide (x8_1 ≤ ((rd_T28 l0 (l2.length : Int)).f1)) = false := decide_eq_false c9
                  clear c9
                  obtain rfl := Option.some.inj H
                  have p208 : 0 ≤ ((l2.length : Int) : Int) := of_decide_eq_true (by first | (with_reducible assumption) | assumption)
                  have q208 : (l2.length : Int) < (l0.length : Int) := of_decide_eq_true (by first | (with_reducible assumption) | assumption)
                  obtain ⟨ad208, e208, hx208_0, hx208_1⟩ := at_T28 HR0.out (l2.length : Int) p208 q208
                  obtain rfl : ad207 = ad208 := (by injection e208)
                  replace hx208_0 := (HB.out.cell (World.block_lt_of_cell? w _ hx208_0)).trans hx208_0
                  replace hx208_1 := (HB.out.cell (World.block_lt_of_cell? w _ hx208_1)).trans hx208_1
                  (try simp only [Go.IntWalk.toNatUp] at hx208_0)
                  (try simp only [Go.IntWalk.toNatUp] at hx208_1)
                  replace p208 := eq_true p208
                  replace q208 := eq_true q208
                  go_wp2
                  go_ret
                  exact ⟨by first | rfl | (simp [errW_none, errW_some] <;> rfl) | (simp [*, errW_none, errW_some] <;> rfl), by repeat (first | (with_reducible first | exact HB.out | apply below_alloc | apply pw_below_drewN | apply below_drew1) | exact HB.out)⟩
              · rw [if_neg c8] at H
                exact absurd H (by simp)
            · rw [if_neg c7] at H
              exact absurd H (by simp)
      · rw [if_neg c6] at H
        exact absurd H (by simp)
    · rw [if_neg c5] at H
      exact absurd H (by simp)

end Go.Proofs.Ytafmgmaelnpehaa.PFurrowAsks
end

section
namespace Go.Proofs.Ytafmgmaelnpehaa.PFurrowAsks
open Go.RowKit Go.Proofs.YtafmgmaelnpehaaW.PrintWords Go.Proofs.YtafmgmaelnpehaaW.PrintLast Go.Proofs.YtafmgmaelnpehaaW.PrintMore
attribute [local go_sem] max2_int min2_int max_two min_two max_three min_three max_four min_four   -- for this text's walks alone
set_option linter.unusedVariables false
set_option linter.unusedSimpArgs false

/-! ### furrowworksref04_Wrong: function 25 -/
def furrowworksref04_Wrong.l0 : Nat → Int → Int → Int → List (S28) → List (S28) → List (S28) → Option (Int × Int)
  | 0, _, _, _, _, _, _ => none
  | k + 1, x1, x6, x7, x212000, x212001, x212002 => (furrowworksref04_power.f k (x212000.length : Int)).bind fun t214 => (if x7 < t214 then ((furrowworksref04_Size.f k x7).bind fun t215 => ((furrowworksref04_Size.f k x6).bind fun t216 => (if t215 < t216 then ((furrowworksref04_Free.f x212000 x212001 x212002 x7).bind fun t217 => ((furrowworksref04_can.f k t217 x1 ([] : List Int)).bind fun t220 => (if t220 = true then (furrowworksref04_Wrong.l0 k x1 x7 (wrap64 (x7 + 1)) x212000 x212001 x212002) else (furrowworksref04_Wrong.l0 k x1 x6 (wrap64 (x7 + 1)) x212000 x212001 x212002)))) else (furrowworksref04_Wrong.l0 k x1 x6 (wrap64 (x7 + 1)) x212000 x212001 x212002)))) else (some (x6, 0)))
def furrowworksref04_Wrong.f (k : Nat) (l0_0 : List (S28)) (l0_1 : List (S28)) (l0_2 : List (S28)) (a1 : Int) : Option (Int × Int) := (furrowworksref04_Furrow.f k l0_0 l0_1 l0_2).bind fun t212 => (if t212 = true then (if a1 < 0 then (some (0, 2)) else ((furrowworksref04_power.f k (l0_0.length : Int)).bind fun t213 => (furrowworksref04_Wrong.l0 k a1 (wrap64 (t213 - 1)) 0 l0_0 l0_1 l0_2))) else (some (0, 1)))
theorem furrowworksref04_Wrong.mono_l : ∀ k, (∀ y0 y1 y2 y3 y4 y5, LeO (furrowworksref04_Wrong.l0 k y0 y1 y2 y3 y4 y5) (furrowworksref04_Wrong.l0 (k + 1) y0 y1 y2 y3 y4 y5))
  | 0 => fun _ _ _ _ _ _ r h => by simp [furrowworksref04_Wrong.l0] at h
  | k + 1 => by
    have ih0 := furrowworksref04_Wrong.mono_l k
    · intro y0 y1 y2 y3 y4 y5
      unfold furrowworksref04_Wrong.l0
      repeat' first
      | (with_reducible exact ih0 _ _ _ _ _ _)
      | (with_reducible exact furrowworksref04_Furrow.mono _ _ _ _)
      | (with_reducible exact furrowworksref04_Size.mono _ _)
      | (with_reducible exact furrowworksref04_can.mono _ _ _ _)
      | (with_reducible exact furrowworksref04_power.mono _ _)
      | (with_reducible exact LeO.refl _)
      | (with_reducible exact LeO.none _)
      | (with_reducible refine LeO.ite ?_ ?_)
      | (with_reducible refine LeO.bind ?_ (fun _ => ?_))
      | exact ih0 _ _ _ _ _ _
      | exact furrowworksref04_Furrow.mono _ _ _ _
      | exact furrowworksref04_Size.mono _ _
      | exact furrowworksref04_can.mono _ _ _ _
      | exact furrowworksref04_power.mono _ _
      | exact LeO.none _
      | refine LeO.ite ?_ ?_
      | refine LeO.bind ?_ (fun _ => ?_)
theorem furrowworksref04_Wrong.mono : ∀ a0 a1 a2 a3 k, LeO (furrowworksref04_Wrong.f k a0 a1 a2 a3) (furrowworksref04_Wrong.f (k + 1) a0 a1 a2 a3) := by
  intro a0 a1 a2 a3 k
  have ih0 := furrowworksref04_Wrong.mono_l k
  unfold furrowworksref04_Wrong.f
  repeat' first
      | (with_reducible exact ih0 _ _ _ _ _ _)
      | (with_reducible exact furrowworksref04_Furrow.mono _ _ _ _)
      | (with_reducible exact furrowworksref04_Size.mono _ _)
      | (with_reducible exact furrowworksref04_can.mono _ _ _ _)
      | (with_reducible exact furrowworksref04_power.mono _ _)
      | (with_reducible exact LeO.refl _)
      | (with_reducible exact LeO.none _)
      | (with_reducible refine LeO.ite ?_ ?_)
      | (with_reducible refine LeO.bind ?_ (fun _ => ?_))
      | exact ih0 _ _ _ _ _ _
      | exact furrowworksref04_Furrow.mono _ _ _ _
      | exact furrowworksref04_Size.mono _ _
      | exact furrowworksref04_can.mono _ _ _ _
      | exact furrowworksref04_power.mono _ _
      | exact LeO.none _
      | refine LeO.ite ?_ ?_
      | refine LeO.bind ?_ (fun _ => ?_)
set_option maxHeartbeats 8000000 in
set_option maxRecDepth 100000 in
theorem furrowworksref04_Wrong.calls (k : Nat) (A0_0 : Option Addr) (c0_0 : Nat) (l0_0 : List (S28)) (A0_1 : Option Addr) (c0_1 : Nat) (l0_1 : List (S28)) (A0_2 : Option Addr) (c0_2 : Nat) (l0_2 : List (S28)) (a1 : Int) (r1 : Int) (r2 : Int) (w : World) (hr0_0 : Kd.C k28 w A0_0 l0_0.length l0_0) (hc0_0 : l0_0.length ≤ c0_0) (hr0_1 : Kd.C k28 w A0_1 l0_1.length l0_1) (hc0_1 : l0_1.length ≤ c0_1) (hr0_2 : Kd.C k28 w A0_2 l0_2.length l0_2) (hc0_2 : l0_2.length ≤ c0_2) (h : furrowworksref04_Wrong.f k l0_0 l0_1 l0_2 a1 = some (r1, r2)) :
    Calls Try.prog 25 #[.agg #[.slice A0_0 l0_0.length c0_0, .slice A0_1 l0_1.length c0_1, .slice A0_2 l0_2.length c0_2], .int .i64 a1] w fun e w' => e = .returned (.tuple #[.int .i64 r1, .int .i64 r2]) ∧ Below w.heap.size w w' := by
  have hu24 := Try.underlying24
  have HR0_0 := Aside0.mk hr0_0
  have HC0_0 := Aside0.mk hc0_0
  clear hr0_0 hc0_0
  have HR0_1 := Aside0.mk hr0_1
  have HC0_1 := Aside0.mk hc0_1
  clear hr0_1 hc0_1
  have HR0_2 := Aside0.mk hr0_2
  have HC0_2 := Aside0.mk hc0_2
  clear hr0_2 hc0_2
  have HB := Aside0.mk (Below.refl w.heap.size w)
  have H : ((furrowworksref04_Furrow.f k l0_0 l0_1 l0_2).bind fun t212 => (if t212 = true then (if a1 < 0 then (some (0, 2)) else ((furrowworksref04_power.f k (l0_0.length : Int)).bind fun t213 => (furrowworksref04_Wrong.l0 k a1 (wrap64 (t213 - 1)) 0 l0_0 l0_1 l0_2))) else (some (0, 1)))) = some (r1, r2) := h
  clear h
  replace H := Option.bind_eq_some_iff.mp H
  obtain ⟨t212, A30, H⟩ := H
  replace H : (if t212 = true then (if a1 < 0 then (some (0, 2)) else ((furrowworksref04_power.f k (l0_0.length : Int)).bind fun t213 => (furrowworksref04_Wrong.l0 k a1 (wrap64 (t213 - 1)) 0 l0_0 l0_1 l0_2))) else (some (0, 1))) = some (r1, r2) := H
  have A3 := Aside0.mk A30
  clear A30
  by_cases c4 : t212 = true
  · subst c4
    have H1 : (if a1 < 0 then (some (0, 2)) else ((furrowworksref04_power.f k (l0_0.length : Int)).bind fun t213 => (furrowworksref04_Wrong.l0 k a1 (wrap64 (t213 - 1)) 0 l0_0 l0_1 l0_2))) = some (r1, r2) := by rw [if_pos rfl] at H; exact H
    clear H
    have H := H1
    clear H1
    by_cases c5 : a1 < 0
    · rw [if_pos c5] at H
      have c5b0 : decide (a1 < 0) = true := decide_eq_true c5
      clear c5
      simp only [Option.some.injEq, Prod.mk.injEq] at H
      obtain ⟨rfl, rfl⟩ := H
      go_enter Try.func25, Try.ntmps25
      go_wp2_with (first | ((with_reducible refine gate_dst (N := 2) rfl ?_); refine box_event ?hg (N := 2) ?hd (cs := #[.slice A0_0 l0_0.length c0_0, .slice A0_1 l0_1.length c0_1, .slice A0_2 l0_2.length c0_2]) (t := 24) ?hr ?_; (case hd => rfl); (case hg => rfl); (case hr => first | (go_simp; done) | (go_simp; rfl)); intro gb211 hg w6 hbox hb; have n0_ := Aside0.mk (below_step (by repeat (first | (with_reducible first | exact HB.out | apply below_alloc | apply pw_below_drewN | apply below_drew1) | exact HB.out)) hb); have n1_ := Aside0.mk (hbox); have n2_ := Aside0.mk ((by rw [hg]; exact (below_size (by repeat (first | (with_reducible first | exact HB.out | apply below_alloc | apply pw_below_drewN | apply below_drew1) | exact HB.out))) : w.heap.size ≤ gb211)); have n3_ := Aside0.mk ((by rw [hg]; exact (below_size (by repeat (first | (with_reducible first | exact HB.out | apply below_alloc | apply pw_below_drewN | apply below_drew1) | exact HB.out))) : w.heap.size ≤ gb211)); clear HB; have HB := n0_; have BK211 := n1_; have GW211 := n2_; have GE211 := n3_; clear n0_ n1_ n2_ n3_; clear hb hbox hg; have hcz7_0 : w6.cell? ⟨gb211, 0, none⟩ = some (.slice A0_0 l0_0.length c0_0) := (blk_cell BK211.out 0).trans rfl; have hcz7_1 : w6.cell? ⟨gb211, 1, none⟩ = some (.slice A0_1 l0_1.length c0_1) := (blk_cell BK211.out 1).trans rfl; have hcz7_2 : w6.cell? ⟨gb211, 2, none⟩ = some (.slice A0_2 l0_2.length c0_2) := (blk_cell BK211.out 2).trans rfl; have hfz7_0 := blk_frozen BK211.out 0; have hfz7_1 := blk_frozen BK211.out 1; have hfz7_2 := blk_frozen BK211.out 2) | ((with_reducible refine gate_callee (f := 36) rfl ?_); refine goesL_ (some 9) rfl rfl Try.func36 (by kernel_rfl) rfl #[.agg #[.slice A0_0 l0_0.length c0_0, .slice A0_1 l0_1.length c0_1, .slice A0_2 l0_2.length c0_2]] rfl (by (try simp only [List.map_toArray, List.map_cons, List.map_nil]); first | done | rfl | (simp only [List.length_drop, List.length_take]; rfl)) ?_; (with_reducible refine (furrowworksref04_Furrow.calls k _ _ l0_0 _ _ l0_1 _ _ l0_2 true _ ?side1 ?side2 ?side3 ?side4 ?side5 ?side6 A3.out).mono ?_); (case side1 => repeat (first | exact (Kd.C_below HR0_0.out HB.out) | (with_reducible refine Kd.C_alloc ?_ _) | (with_reducible refine Kd.C_drewN ?_ _) | (with_reducible refine Kd.C_drew ?_))); (case side2 => exact HC0_0.out); (case side3 => repeat (first | exact (Kd.C_below HR0_1.out HB.out) | (with_reducible refine Kd.C_alloc ?_ _) | (with_reducible refine Kd.C_drewN ?_ _) | (with_reducible refine Kd.C_drew ?_))); (case side4 => exact HC0_1.out); (case side5 => repeat (first | exact (Kd.C_below HR0_2.out HB.out) | (with_reducible refine Kd.C_alloc ?_ _) | (with_reducible refine Kd.C_drewN ?_ _) | (with_reducible refine Kd.C_drew ?_))); (case side6 => exact HC0_2.out); rintro e w8 ⟨rfl, hb⟩; refine ⟨_, rfl, ?_⟩; have n0_ := Aside0.mk (blk_below (g := gb211) (o := .cells #[.slice A0_0 l0_0.length c0_0, .slice A0_1 l0_1.length c0_1, .slice A0_2 l0_2.length c0_2] 24 (0, 0)) (by (with_reducible repeat (first | refine blk_drewN ?_ _ | refine blk_drew ?_ | refine blk_alloc ?_ _)); exact BK211.out) hb); have n1_ := Aside0.mk (below_step (by repeat (first | (with_reducible first | exact HB.out | apply below_alloc | apply pw_below_drewN | apply below_drew1 | refine below_set ?_ GE211.out) | exact HB.out)) hb); clear BK211; clear HB; have BK211 := n0_; have HB := n1_; clear n0_ n1_; (try clear hb); (try clear hb2); (try clear hk); (try clear hi)))
      go_ret2
      exact ⟨by first | rfl | (simp [errW_none, errW_some] <;> rfl) | (simp [*, errW_none, errW_some] <;> rfl), by repeat (first | (with_reducible first | exact HB.out | apply below_alloc | apply pw_below_drewN | apply below_drew1 | refine below_set ?_ GE211.out) | exact HB.out)⟩
    · rw [if_neg c5] at H
      have c5b0 : decide (a1 < 0) = false := decide_eq_false c5
      clear c5
      replace H := Option.bind_eq_some_iff.mp H
      obtain ⟨t213, A90, H⟩ := H
      replace H : (furrowworksref04_Wrong.l0 k a1 (wrap64 (t213 - 1)) 0 l0_0 l0_1 l0_2) = some (r1, r2) := H
      have A9 := Aside0.mk A90
      clear A90
      have H' := Aside0.mk H
      clear H
      go_enter Try.func25, Try.ntmps25
      go_wp2_with (first | ((with_reducible refine gate_dst (N := 2) rfl ?_); refine box_event ?hg (N := 2) ?hd (cs := #[.slice A0_0 l0_0.length c0_0, .slice A0_1 l0_1.length c0_1, .slice A0_2 l0_2.length c0_2]) (t := 24) ?hr ?_; (case hd => rfl); (case hg => rfl); (case hr => first | (go_simp; done) | (go_simp; rfl)); intro gb211 hg w10 hbox hb; have n0_ := Aside0.mk (below_step (by repeat (first | (with_reducible first | exact HB.out | apply below_alloc | apply pw_below_drewN | apply below_drew1) | exact HB.out)) hb); have n1_ := Aside0.mk (hbox); have n2_ := Aside0.mk ((by rw [hg]; exact (below_size (by repeat (first | (with_reducible first | exact HB.out | apply below_alloc | apply pw_below_drewN | apply below_drew1) | exact HB.out))) : w.heap.size ≤ gb211)); have n3_ := Aside0.mk ((by rw [hg]; exact (below_size (by repeat (first | (with_reducible first | exact HB.out | apply below_alloc | apply pw_below_drewN | apply below_drew1) | exact HB.out))) : w.heap.size ≤ gb211)); clear HB; have HB := n0_; have BK211 := n1_; have GW211 := n2_; have GE211 := n3_; clear n0_ n1_ n2_ n3_; clear hb hbox hg; have hcz11_0 : w10.cell? ⟨gb211, 0, none⟩ = some (.slice A0_0 l0_0.length c0_0) := (blk_cell BK211.out 0).trans rfl; have hcz11_1 : w10.cell? ⟨gb211, 1, none⟩ = some (.slice A0_1 l0_1.length c0_1) := (blk_cell BK211.out 1).trans rfl; have hcz11_2 : w10.cell? ⟨gb211, 2, none⟩ = some (.slice A0_2 l0_2.length c0_2) := (blk_cell BK211.out 2).trans rfl; have hfz11_0 := blk_frozen BK211.out 0; have hfz11_1 := blk_frozen BK211.out 1; have hfz11_2 := blk_frozen BK211.out 2) | ((with_reducible refine gate_callee (f := 36) rfl ?_); refine goesL_ (some 9) rfl rfl Try.func36 (by kernel_rfl) rfl #[.agg #[.slice A0_0 l0_0.length c0_0, .slice A0_1 l0_1.length c0_1, .slice A0_2 l0_2.length c0_2]] rfl (by (try simp only [List.map_toArray, List.map_cons, List.map_nil]); first | done | rfl | (simp only [List.length_drop, List.length_take]; rfl)) ?_; (with_reducible refine (furrowworksref04_Furrow.calls k _ _ l0_0 _ _ l0_1 _ _ l0_2 true _ ?side1 ?side2 ?side3 ?side4 ?side5 ?side6 A3.out).mono ?_); (case side1 => repeat (first | exact (Kd.C_below HR0_0.out HB.out) | (with_reducible refine Kd.C_alloc ?_ _) | (with_reducible refine Kd.C_drewN ?_ _) | (with_reducible refine Kd.C_drew ?_))); (case side2 => exact HC0_0.out); (case side3 => repeat (first | exact (Kd.C_below HR0_1.out HB.out) | (with_reducible refine Kd.C_alloc ?_ _) | (with_reducible refine Kd.C_drewN ?_ _) | (with_reducible refine Kd.C_drew ?_))); (case side4 => exact HC0_1.out); (case side5 => repeat (first | exact (Kd.C_below HR0_2.out HB.out) | (with_reducible refine Kd.C_alloc ?_ _) | (with_reducible refine Kd.C_drewN ?_ _) | (with_reducible refine Kd.C_drew ?_))); (case side6 => exact HC0_2.out); rintro e w12 ⟨rfl, hb⟩; refine ⟨_, rfl, ?_⟩; have n0_ := Aside0.mk (blk_below (g := gb211) (o := .cells #[.slice A0_0 l0_0.length c0_0, .slice A0_1 l0_1.length c0_1, .slice A0_2 l0_2.length c0_2] 24 (0, 0)) (by (with_reducible repeat (first | refine blk_drewN ?_ _ | refine blk_drew ?_ | refine blk_alloc ?_ _)); exact BK211.out) hb); have n1_ := Aside0.mk (below_step (by repeat (first | (with_reducible first | exact HB.out | apply below_alloc | apply pw_below_drewN | apply below_drew1 | refine below_set ?_ GE211.out) | exact HB.out)) hb); clear BK211; clear HB; have BK211 := n0_; have HB := n1_; clear n0_ n1_; (try clear hb); (try clear hb2); (try clear hk); (try clear hi); have hcz13_0 : w12.cell? ⟨gb211, 0, none⟩ = some (.slice A0_0 l0_0.length c0_0) := (blk_cell BK211.out 0).trans rfl; have hcz13_1 : w12.cell? ⟨gb211, 1, none⟩ = some (.slice A0_1 l0_1.length c0_1) := (blk_cell BK211.out 1).trans rfl; have hcz13_2 : w12.cell? ⟨gb211, 2, none⟩ = some (.slice A0_2 l0_2.length c0_2) := (blk_cell BK211.out 2).trans rfl; have hfz13_0 := blk_frozen BK211.out 0; have hfz13_1 := blk_frozen BK211.out 1; have hfz13_2 := blk_frozen BK211.out 2) | ((with_reducible refine gate_callee (f := 63) rfl ?_); refine goesL_ (some 16) rfl rfl Try.func63 (by kernel_rfl) rfl #[.int .i64 (l0_0.length : Int)] rfl (by (try simp only [List.map_toArray, List.map_cons, List.map_nil]); first | done | rfl | (simp only [List.length_drop, List.length_take]; rfl)) ?_; (with_reducible refine (furrowworksref04_power.calls k (l0_0.length : Int) t213 _ A9.out).mono ?_); rintro e w' ⟨rfl, ⟨nd, rfl⟩⟩; refine ⟨_, rfl, ?_⟩))
      go_loopg [6, 7] k (fun kq v6 v7 w' => ∃ (x6_1 : Int) (x7_1 : Int), v6 = .int .i64 x6_1 ∧ v7 = .int .i64 x7_1 ∧ Aside0 (furrowworksref04_Wrong.l0 kq a1 x6_1 x7_1 l0_0 l0_1 l0_2 = some (r1, r2)) ∧ Aside0 (kq ≤ k) ∧ Aside0 (w'.heap[gb211]? = some (.cells #[(.slice A0_0 l0_0.length c0_0), (.slice A0_1 l0_1.length c0_1), (.slice A0_2 l0_2.length c0_2)] 24 (0, 0))) ∧ Aside0 (Below w.heap.size w w'))
      case atStart => exact ⟨(wrap64 (t213 - 1)), (0), (by first | rfl | (simp; done) | (simp [*]; done)), (by first | rfl | (simp; done) | (simp [*]; done)), H', ⟨Nat.le_refl _⟩, ⟨by (with_reducible repeat (first | refine blk_drewN ?_ _ | refine blk_drew ?_ | refine blk_alloc ?_ _)); exact BK211.out⟩, ⟨by repeat (first | (with_reducible first | exact HB.out | apply below_alloc | apply pw_below_drewN | apply below_drew1 | refine below_set ?_ GE211.out) | exact HB.out)⟩⟩
      case round =>
        clear H'
        try clear c2
        try clear p2
        try clear c3
        try clear c4
        try clear c5
        try clear c5b0
        try clear c6
        try clear p6
        try clear hcz11_0
        try clear hcz11_1
        try clear hcz11_2
        try clear hcz13_0
        try clear hcz13_1
        try clear hcz13_2
        try clear hcz7_0
        try clear hcz7_1
        try clear hcz7_2
        try clear hfz11_0
        try clear hfz11_1
        try clear hfz11_2
        try clear hfz13_0
        try clear hfz13_1
        try clear hfz13_2
        try clear hfz7_0
        try clear hfz7_1
        try clear hfz7_2
        obtain ⟨x6_1, x7_1, rfl, rfl, HA, HK1, BK211, HB⟩ := hrel
        cases gk with
        | zero => exact absurd HA.out (by simp [furrowworksref04_Wrong.l0])
        | succ k1 =>
          have H := HA.out
          clear HA
          simp only [furrowworksref04_Wrong.l0] at H
          replace H := Option.bind_eq_some_iff.mp H
          obtain ⟨t214, A140, H⟩ := H
          replace H : (if x7_1 < t214 then ((furrowworksref04_Size.f k1 x7_1).bind fun t215 => ((furrowworksref04_Size.f k1 x6_1).bind fun t216 => (if t215 < t216 then ((furrowworksref04_Free.f l0_0 l0_1 l0_2 x7_1).bind fun t217 => ((furrowworksref04_can.f k1 t217 a1 ([] : List Int)).bind fun t220 => (if t220 = true then (furrowworksref04_Wrong.l0 k1 a1 x7_1 (wrap64 (x7_1 + 1)) l0_0 l0_1 l0_2) else (furrowworksref04_Wrong.l0 k1 a1 x6_1 (wrap64 (x7_1 + 1)) l0_0 l0_1 l0_2)))) else (furrowworksref04_Wrong.l0 k1 a1 x6_1 (wrap64 (x7_1 + 1)) l0_0 l0_1 l0_2)))) else (some (x6_1, 0))) = some (r1, r2) := H
          have A14 := Aside0.mk A140
          clear A140
          by_cases c15 : x7_1 < t214
          · rw [if_pos c15] at H
            have c15b0 : decide (x7_1 < t214) = true := decide_eq_true c15
            clear c15
            replace H := Option.bind_eq_some_iff.mp H
            obtain ⟨t215, A160, H⟩ := H
            replace H : ((furrowworksref04_Size.f k1 x6_1).bind fun t216 => (if t215 < t216 then ((furrowworksref04_Free.f l0_0 l0_1 l0_2 x7_1).bind fun t217 => ((furrowworksref04_can.f k1 t217 a1 ([] : List Int)).bind fun t220 => (if t220 = true then (furrowworksref04_Wrong.l0 k1 a1 x7_1 (wrap64 (x7_1 + 1)) l0_0 l0_1 l0_2) else (furrowworksref04_Wrong.l0 k1 a1 x6_1 (wrap64 (x7_1 + 1)) l0_0 l0_1 l0_2)))) else (furrowworksref04_Wrong.l0 k1 a1 x6_1 (wrap64 (x7_1 + 1)) l0_0 l0_1 l0_2))) = some (r1, r2) := H
            have A16 := Aside0.mk A160
            clear A160
            replace H := Option.bind_eq_some_iff.mp H
            obtain ⟨t216, A170, H⟩ := H
            replace H : (if t215 < t216 then ((furrowworksref04_Free.f l0_0 l0_1 l0_2 x7_1).bind fun t217 => ((furrowworksref04_can.f k1 t217 a1 ([] : List Int)).bind fun t220 => (if t220 = true then (furrowworksref04_Wrong.l0 k1 a1 x7_1 (wrap64 (x7_1 + 1)) l0_0 l0_1 l0_2) else (furrowworksref04_Wrong.l0 k1 a1 x6_1 (wrap64 (x7_1 + 1)) l0_0 l0_1 l0_2)))) else (furrowworksref04_Wrong.l0 k1 a1 x6_1 (wrap64 (x7_1 + 1)) l0_0 l0_1 l0_2)) = some (r1, r2) := H
            have A17 := Aside0.mk A170
            clear A170
            by_cases c18 : t215 < t216
            · rw [if_pos c18] at H
              have c18b0 : decide (t215 < t216) = true := decide_eq_true c18
              clear c18
              replace H := Option.bind_eq_some_iff.mp H
              obtain ⟨t217, A190, H⟩ := H
              replace H : ((furrowworksref04_can.f k1 t217 a1 ([] : List Int)).bind fun t220 => (if t220 = true then (furrowworksref04_Wrong.l0 k1 a1 x7_1 (wrap64 (x7_1 + 1)) l0_0 l0_1 l0_2) else (furrowworksref04_Wrong.l0 k1 a1 x6_1 (wrap64 (x7_1 + 1)) l0_0 l0_1 l0_2))) = some (r1, r2) := H
              have A19 := Aside0.mk A190
              clear A190
              replace H := Option.bind_eq_some_iff.mp H
              obtain ⟨t220, A200, H⟩ := H
              replace H : (if t220 = true then (furrowworksref04_Wrong.l0 k1 a1 x7_1 (wrap64 (x7_1 + 1)) l0_0 l0_1 l0_2) else (furrowworksref04_Wrong.l0 k1 a1 x6_1 (wrap64 (x7_1 + 1)) l0_0 l0_1 l0_2)) = some (r1, r2) := H
              have A20 := Aside0.mk A200
              clear A200
              by_cases c21 : t220 = true
              · subst c21
                have H1 : (furrowworksref04_Wrong.l0 k1 a1 x7_1 (wrap64 (x7_1 + 1)) l0_0 l0_1 l0_2) = some (r1, r2) := by rw [if_pos rfl] at H; exact H
                clear H
                have H := H1
                clear H1
                have H' := Aside0.mk H
                clear H
                have hcz22_0 : wr.cell? ⟨gb211, 0, none⟩ = some (.slice A0_0 l0_0.length c0_0) := (blk_cell BK211.out 0).trans rfl
                have hcz22_1 : wr.cell? ⟨gb211, 1, none⟩ = some (.slice A0_1 l0_1.length c0_1) := (blk_cell BK211.out 1).trans rfl
                have hcz22_2 : wr.cell? ⟨gb211, 2, none⟩ = some (.slice A0_2 l0_2.length c0_2) := (blk_cell BK211.out 2).trans rfl
                have hfz22_0 := blk_frozen BK211.out 0
                have hfz22_1 := blk_frozen BK211.out 1
                have hfz22_2 := blk_frozen BK211.out 2
                go_wp2_with (first | ((with_reducible refine gate_callee (f := 63) rfl ?_); refine goesL_ (some 22) rfl rfl Try.func63 (by kernel_rfl) rfl #[.int .i64 (l0_0.length : Int)] rfl (by (try simp only [List.map_toArray, List.map_cons, List.map_nil]); first | done | rfl | (simp only [List.length_drop, List.length_take]; rfl)) ?_; (with_reducible refine (furrowworksref04_power.calls k1 (l0_0.length : Int) t214 _ A14.out).mono ?_); rintro e w' ⟨rfl, ⟨nd, rfl⟩⟩; refine ⟨_, rfl, ?_⟩) | ((with_reducible refine gate_callee (f := 37) rfl ?_); refine goesL_ (some 27) rfl rfl Try.func37 (by kernel_rfl) rfl #[.int .i64 x7_1] rfl (by (try simp only [List.map_toArray, List.map_cons, List.map_nil]); first | done | rfl | (simp only [List.length_drop, List.length_take]; rfl)) ?_; (with_reducible refine (furrowworksref04_Size.calls k1 x7_1 t215 _ A16.out).mono ?_); rintro e w' ⟨rfl, ⟨nd, rfl⟩⟩; refine ⟨_, rfl, ?_⟩) | ((with_reducible refine gate_callee (f := 37) rfl ?_); refine goesL_ (some 29) rfl rfl Try.func37 (by kernel_rfl) rfl #[.int .i64 x6_1] rfl (by (try simp only [List.map_toArray, List.map_cons, List.map_nil]); first | done | rfl | (simp only [List.length_drop, List.length_take]; rfl)) ?_; (with_reducible refine (furrowworksref04_Size.calls k1 x6_1 t216 _ A17.out).mono ?_); rintro e w' ⟨rfl, ⟨nd, rfl⟩⟩; refine ⟨_, rfl, ?_⟩) | (go_at_call 68; (with_reducible refine (furrowworksref04_Free.calls _ _ l0_0 _ _ l0_1 _ _ l0_2 x7_1 t217 _ ?side1 ?side2 ?side3 ?side4 ?side5 ?side6 A19.out).mono ?_); (case side1 => repeat (first | exact (Kd.C_below HR0_0.out (by repeat (first | (with_reducible first | exact HB.out | apply below_alloc | apply pw_below_drewN | apply below_drew1 | refine below_set ?_ GE211.out) | exact HB.out))) | (with_reducible refine Kd.C_alloc ?_ _) | (with_reducible refine Kd.C_drewN ?_ _) | (with_reducible refine Kd.C_drew ?_))); (case side2 => exact HC0_0.out); (case side3 => repeat (first | exact (Kd.C_below HR0_1.out (by repeat (first | (with_reducible first | exact HB.out | apply below_alloc | apply pw_below_drewN | apply below_drew1 | refine below_set ?_ GE211.out) | exact HB.out))) | (with_reducible refine Kd.C_alloc ?_ _) | (with_reducible refine Kd.C_drewN ?_ _) | (with_reducible refine Kd.C_drew ?_))); (case side4 => exact HC0_1.out); (case side5 => repeat (first | exact (Kd.C_below HR0_2.out (by repeat (first | (with_reducible first | exact HB.out | apply below_alloc | apply pw_below_drewN | apply below_drew1 | refine below_set ?_ GE211.out) | exact HB.out))) | (with_reducible refine Kd.C_alloc ?_ _) | (with_reducible refine Kd.C_drewN ?_ _) | (with_reducible refine Kd.C_drew ?_))); (case side6 => exact HC0_2.out); rintro e w23 ⟨v218, rfl, ho0, hb⟩; have n0_ := Aside0.mk (Kd.R_lower ho0 (below_size (by repeat (first | (with_reducible first | exact HB.out | apply below_alloc | apply pw_below_drewN | apply below_drew1 | refine below_set ?_ GE211.out) | exact HB.out)))); have n1_ := Aside0.mk (blk_below (g := gb211) (o := .cells #[.slice A0_0 l0_0.length c0_0, .slice A0_1 l0_1.length c0_1, .slice A0_2 l0_2.length c0_2] 24 (0, 0)) (by (with_reducible repeat (first | refine blk_drewN ?_ _ | refine blk_drew ?_ | refine blk_alloc ?_ _)); exact BK211.out) hb); have n2_ := Aside0.mk (below_step (by repeat (first | (with_reducible first | exact HB.out | apply below_alloc | apply pw_below_drewN | apply below_drew1 | refine below_set ?_ GE211.out) | exact HB.out)) hb); clear BK211; clear HB; have HO219 := n0_; have BK211 := n1_; have HB := n2_; clear n0_ n1_ n2_; (try clear hb); (try clear hb2); (try clear hk); (try clear hi); (try clear ho0); obtain ⟨Ao24, co24, eo24⟩ := Kd.R_slice HO219.out; subst eo24) | (go_at_call 67; (refine (furrowworksref04_can.calls k1 _ _ t217 a1 _ _ ([] : List Int) true _ ?side1 ?side2 ?side3 ?side4 A20.out).mono ?_); (case side1 => repeat (first | exact (Kd.R_reads' HO219.out).2.2 | (with_reducible refine Kd.C_alloc ?_ _) | (with_reducible refine Kd.C_drewN ?_ _) | (with_reducible refine Kd.C_drew ?_))); (case side2 => exact (Kd.R_reads' HO219.out).2.1); (case side3 => exact Kd.C_nil _ _); (case side4 => exact Nat.le_refl _); rintro e w25 ⟨rfl, hb⟩; have n0_ := Aside0.mk (Kd.R_below (by (with_reducible repeat (first | apply Kd.R_alloc | apply Kd.R_drewN | apply Kd.R_drew)); exact HO219.out) hb); have n1_ := Aside0.mk (blk_below (g := gb211) (o := .cells #[.slice A0_0 l0_0.length c0_0, .slice A0_1 l0_1.length c0_1, .slice A0_2 l0_2.length c0_2] 24 (0, 0)) (by (with_reducible repeat (first | refine blk_drewN ?_ _ | refine blk_drew ?_ | refine blk_alloc ?_ _)); exact BK211.out) hb); have n2_ := Aside0.mk (below_step (by repeat (first | (with_reducible first | exact HB.out | apply below_alloc | apply pw_below_drewN | apply below_drew1 | refine below_set ?_ GE211.out) | exact HB.out)) hb); clear HO219; clear BK211; clear HB; have HO219 := n0_; have BK211 := n1_; have HB := n2_; clear n0_ n1_ n2_; (try clear hb); (try clear hb2); (try clear hk); (try clear hi)))
                go_roundg k1
                case measure => have := HK1.out; omega
                case rel => exact ⟨(x7_1), (wrap64 (x7_1 + 1)), (by first | rfl | (simp; done) | (simp [*]; done)), (by first | rfl | (simp; done) | (simp [*]; done)), H', ⟨by have := HK1.out; omega⟩, ⟨by (with_reducible repeat (first | refine blk_drewN ?_ _ | refine blk_drew ?_ | refine blk_alloc ?_ _)); exact BK211.out⟩, ⟨by repeat (first | (with_reducible first | exact HB.out | apply below_alloc | apply pw_below_drewN | apply below_drew1 | refine below_set ?_ GE211.out) | exact HB.out)⟩⟩
              · replace c21 := Bool.eq_false_iff.mpr c21
                subst c21
                have H1 : (furrowworksref04_Wrong.l0 k1 a1 x6_1 (wrap64 (x7_1 + 1)) l0_0 l0_1 l0_2) = some (r1, r2) := by rw [if_neg (show ¬ (false = true) by decide)] at H; exact H
                clear H
                have H := H1
                clear H1
                have H' := Aside0.mk H
                clear H
                have hcz26_0 : wr.cell? ⟨gb211, 0, none⟩ = some (.slice A0_0 l0_0.length c0_0) := (blk_cell BK211.out 0).trans rfl
                have hcz26_1 : wr.cell? ⟨gb211, 1, none⟩ = some (.slice A0_1 l0_1.length c0_1) := (blk_cell BK211.out 1).trans rfl
                have hcz26_2 : wr.cell? ⟨gb211, 2, none⟩ = some (.slice A0_2 l0_2.length c0_2) := (blk_cell BK211.out 2).trans rfl
                have hfz26_0 := blk_frozen BK211.out 0
                have hfz26_1 := blk_frozen BK211.out 1
                have hfz26_2 := blk_frozen BK211.out 2
                go_wp2_with (first | ((with_reducible refine gate_callee (f := 63) rfl ?_); refine goesL_ (some 22) rfl rfl Try.func63 (by kernel_rfl) rfl #[.int .i64 (l0_0.length : Int)] rfl (by (try simp only [List.map_toArray, List.map_cons, List.map_nil]); first | done | rfl | (simp only [List.length_drop, List.length_take]; rfl)) ?_; (with_reducible refine (furrowworksref04_power.calls k1 (l0_0.length : Int) t214 _ A14.out).mono ?_); rintro e w' ⟨rfl, ⟨nd, rfl⟩⟩; refine ⟨_, rfl, ?_⟩) | ((with_reducible refine gate_callee (f := 37) rfl ?_); refine goesL_ (some 27) rfl rfl Try.func37 (by kernel_rfl) rfl #[.int .i64 x7_1] rfl (by (try simp only [List.map_toArray, List.map_cons, List.map_nil]); first | done | rfl | (simp only [List.length_drop, List.length_take]; rfl)) ?_; (with_reducible refine (furrowworksref04_Size.calls k1 x7_1 t215 _ A16.out).mono ?_); rintro e w' ⟨rfl, ⟨nd, rfl⟩⟩; refine ⟨_, rfl, ?_⟩) | ((with_reducible refine gate_callee (f := 37) rfl ?_); refine goesL_ (some 29) rfl rfl Try.func37 (by kernel_rfl) rfl #[.int .i64 x6_1] rfl (by (try simp only [List.map_toArray, List.map_cons, List.map_nil]); first | done | rfl | (simp only [List.length_drop, List.length_take]; rfl)) ?_; (with_reducible refine (furrowworksref04_Size.calls k1 x6_1 t216 _ A17.out).mono ?_); rintro e w' ⟨rfl, ⟨nd, rfl⟩⟩; refine ⟨_, rfl, ?_⟩) | (go_at_call 68; (with_reducible refine (furrowworksref04_Free.calls _ _ l0_0 _ _ l0_1 _ _ l0_2 x7_1 t217 _ ?side1 ?side2 ?side3 ?side4 ?side5 ?side6 A19.out).mono ?_); (case side1 => repeat (first | exact (Kd.C_below HR0_0.out (by repeat (first | (with_reducible first | exact HB.out | apply below_alloc | apply pw_below_drewN | apply below_drew1 | refine below_set ?_ GE211.out) | exact HB.out))) | (with_reducible refine Kd.C_alloc ?_ _) | (with_reducible refine Kd.C_drewN ?_ _) | (with_reducible refine Kd.C_drew ?_))); (case side2 => exact HC0_0.out); (case side3 => repeat (first | exact (Kd.C_below HR0_1.out (by repeat (first | (with_reducible first | exact HB.out | apply below_alloc | apply pw_below_drewN | apply below_drew1 | refine below_set ?_ GE211.out) | exact HB.out))) | (with_reducible refine Kd.C_alloc ?_ _) | (with_reducible refine Kd.C_drewN ?_ _) | (with_reducible refine Kd.C_drew ?_))); (case side4 => exact HC0_1.out); (case side5 => repeat (first | exact (Kd.C_below HR0_2.out (by repeat (first | (with_reducible first | exact HB.out | apply below_alloc | apply pw_below_drewN | apply below_drew1 | refine below_set ?_ GE211.out) | exact HB.out))) | (with_reducible refine Kd.C_alloc ?_ _) | (with_reducible refine Kd.C_drewN ?_ _) | (with_reducible refine Kd.C_drew ?_))); (case side6 => exact HC0_2.out); rintro e w27 ⟨v218, rfl, ho0, hb⟩; have n0_ := Aside0.mk (Kd.R_lower ho0 (below_size (by repeat (first | (with_reducible first | exact HB.out | apply below_alloc | apply pw_below_drewN | apply below_drew1 | refine below_set ?_ GE211.out) | exact HB.out)))); have n1_ := Aside0.mk (blk_below (g := gb211) (o := .cells #[.slice A0_0 l0_0.length c0_0, .slice A0_1 l0_1.length c0_1, .slice A0_2 l0_2.length c0_2] 24 (0, 0)) (by (with_reducible repeat (first | refine blk_drewN ?_ _ | refine blk_drew ?_ | refine blk_alloc ?_ _)); exact BK211.out) hb); have n2_ := Aside0.mk (below_step (by repeat (first | (with_reducible first | exact HB.out | apply below_alloc | apply pw_below_drewN | apply below_drew1 | refine below_set ?_ GE211.out) | exact HB.out)) hb); clear BK211; clear HB; have HO219 := n0_; have BK211 := n1_; have HB := n2_; clear n0_ n1_ n2_; (try clear hb); (try clear hb2); (try clear hk); (try clear hi); (try clear ho0); obtain ⟨Ao28, co28, eo28⟩ := Kd.R_slice HO219.out; subst eo28) | (go_at_call 67; (refine (furrowworksref04_can.calls k1 _ _ t217 a1 _ _ ([] : List Int) false _ ?side1 ?side2 ?side3 ?side4 A20.out).mono ?_); (case side1 => repeat (first | exact (Kd.R_reads' HO219.out).2.2 | (with_reducible refine Kd.C_alloc ?_ _) | (with_reducible refine Kd.C_drewN ?_ _) | (with_reducible refine Kd.C_drew ?_))); (case side2 => exact (Kd.R_reads' HO219.out).2.1); (case side3 => exact Kd.C_nil _ _); (case side4 => exact Nat.le_refl _); rintro e w29 ⟨rfl, hb⟩; have n0_ := Aside0.mk (Kd.R_below (by (with_reducible repeat (first | apply Kd.R_alloc | apply Kd.R_drewN | apply Kd.R_drew)); exact HO219.out) hb); have n1_ := Aside0.mk (blk_below (g := gb211) (o := .cells #[.slice A0_0 l0_0.length c0_0, .slice A0_1 l0_1.length c0_1, .slice A0_2 l0_2.length c0_2] 24 (0, 0)) (by (with_reducible repeat (first | refine blk_drewN ?_ _ | refine blk_drew ?_ | refine blk_alloc ?_ _)); exact BK211.out) hb); have n2_ := Aside0.mk (below_step (by repeat (first | (with_reducible first | exact HB.out | apply below_alloc | apply pw_below_drewN | apply below_drew1 | refine below_set ?_ GE211.out) | exact HB.out)) hb); clear HO219; clear BK211; clear HB; have HO219 := n0_; have BK211 := n1_; have HB := n2_; clear n0_ n1_ n2_; (try clear hb); (try clear hb2); (try clear hk); (try clear hi)))
                go_roundg k1
                case measure => have := HK1.out; omega
                case rel => exact ⟨(x6_1), (wrap64 (x7_1 + 1)), (by first | rfl | (simp; done) | (simp [*]; done)), (by first | rfl | (simp; done) | (simp [*]; done)), H', ⟨by have := HK1.out; omega⟩, ⟨by (with_reducible repeat (first | refine blk_drewN ?_ _ | refine blk_drew ?_ | refine blk_alloc ?_ _)); exact BK211.out⟩, ⟨by repeat (first | (with_reducible first | exact HB.out | apply below_alloc | apply pw_below_drewN | apply below_drew1 | refine below_set ?_ GE211.out) | exact HB.out)⟩⟩
            · rw [if_neg c18] at H
              have c18b0 : decide (t215 < t216) = false := decide_eq_false c18
              clear c18
              have H' := Aside0.mk H
              clear H
              have hcz30_0 : wr.cell? ⟨gb211, 0, none⟩ = some (.slice A0_0 l0_0.length c0_0) := (blk_cell BK211.out 0).trans rfl
              have hcz30_1 : wr.cell? ⟨gb211, 1, none⟩ = some (.slice A0_1 l0_1.length c0_1) := (blk_cell BK211.out 1).trans rfl
              have hcz30_2 : wr.cell? ⟨gb211, 2, none⟩ = some (.slice A0_2 l0_2.length c0_2) := (blk_cell BK211.out 2).trans rfl
              have hfz30_0 := blk_frozen BK211.out 0
              have hfz30_1 := blk_frozen BK211.out 1
              have hfz30_2 := blk_frozen BK211.out 2
              go_wp2_with (first | ((with_reducible refine gate_callee (f := 63) rfl ?_); refine goesL_ (some 22) rfl rfl Try.func63 (by kernel_rfl) rfl #[.int .i64 (l0_0.length : Int)] rfl (by (try simp only [List.map_toArray, List.map_cons, List.map_nil]); first | done | rfl | (simp only [List.length_drop, List.length_take]; rfl)) ?_; (with_reducible refine (furrowworksref04_power.calls k1 (l0_0.length : Int) t214 _ A14.out).mono ?_); rintro e w' ⟨rfl, ⟨nd, rfl⟩⟩; refine ⟨_, rfl, ?_⟩) | ((with_reducible refine gate_callee (f := 37) rfl ?_); refine goesL_ (some 27) rfl rfl Try.func37 (by kernel_rfl) rfl #[.int .i64 x7_1] rfl (by (try simp only [List.map_toArray, List.map_cons, List.map_nil]); first | done | rfl | (simp only [List.length_drop, List.length_take]; rfl)) ?_; (with_reducible refine (furrowworksref04_Size.calls k1 x7_1 t215 _ A16.out).mono ?_); rintro e w' ⟨rfl, ⟨nd, rfl⟩⟩; refine ⟨_, rfl, ?_⟩) | ((with_reducible refine gate_callee (f := 37) rfl ?_); refine goesL_ (some 29) rfl rfl Try.func37 (by kernel_rfl) rfl #[.int .i64 x6_1] rfl (by (try simp only [List.map_toArray, List.map_cons, List.map_nil]); first | done | rfl | (simp only [List.length_drop, List.length_take]; rfl)) ?_; (with_reducible refine (furrowworksref04_Size.calls k1 x6_1 t216 _ A17.out).mono ?_); rintro e w' ⟨rfl, ⟨nd, rfl⟩⟩; refine ⟨_, rfl, ?_⟩))
              go_roundg k1
              case measure => have := HK1.out; omega
              case rel => exact ⟨(x6_1), (wrap64 (x7_1 + 1)), (by first | rfl | (simp; done) | (simp [*]; done)), (by first | rfl | (simp; done) | (simp [*]; done)), H', ⟨by have := HK1.out; omega⟩, ⟨by (with_reducible repeat (first | refine blk_drewN ?_ _ | refine blk_drew ?_ | refine blk_alloc ?_ _)); exact BK211.out⟩, ⟨by repeat (first | (with_reducible first | exact HB.out | apply below_alloc | apply pw_below_drewN | apply below_drew1 | refine below_set ?_ GE211.out) | exact HB.out)⟩⟩
          · rw [if_neg c15] at H
            have c15b0 : decide (x7_1 < t214) = false := decide_eq_false c15
            clear c15
            simp only [Option.some.injEq, Prod.mk.injEq] at H
            obtain ⟨rfl, rfl⟩ := H
            have hcz31_0 : wr.cell? ⟨gb211, 0, none⟩ = some (.slice A0_0 l0_0.length c0_0) := (blk_cell BK211.out 0).trans rfl
            have hcz31_1 : wr.cell? ⟨gb211, 1, none⟩ = some (.slice A0_1 l0_1.length c0_1) := (blk_cell BK211.out 1).trans rfl
            have hcz31_2 : wr.cell? ⟨gb211, 2, none⟩ = some (.slice A0_2 l0_2.length c0_2) := (blk_cell BK211.out 2).trans rfl
            have hfz31_0 := blk_frozen BK211.out 0
            have hfz31_1 := blk_frozen BK211.out 1
            have hfz31_2 := blk_frozen BK211.out 2
            go_wp2_with (first | ((with_reducible refine gate_callee (f := 63) rfl ?_); refine goesL_ (some 22) rfl rfl Try.func63 (by kernel_rfl) rfl #[.int .i64 (l0_0.length : Int)] rfl (by (try simp only [List.map_toArray, List.map_cons, List.map_nil]); first | done | rfl | (simp only [List.length_drop, List.length_take]; rfl)) ?_; (with_reducible refine (furrowworksref04_power.calls k1 (l0_0.length : Int) t214 _ A14.out).mono ?_); rintro e w' ⟨rfl, ⟨nd, rfl⟩⟩; refine ⟨_, rfl, ?_⟩))
            go_ret2
            exact ⟨by first | rfl | (simp [errW_none, errW_some] <;> rfl) | (simp [*, errW_none, errW_some] <;> rfl), by repeat (first | (with_reducible first | exact HB.out | apply below_alloc | apply pw_below_drewN | apply below_drew1 | refine below_set ?_ GE211.out) | exact HB.out)⟩
  · replace c4 := Bool.eq_false_iff.mpr c4
    subst c4
    have H1 : (some (0, 1)) = some (r1, r2) := by rw [if_neg (show ¬ (false = true) by decide)] at H; exact H
    clear H
    have H := H1
    clear H1
    simp only [Option.some.injEq, Prod.mk.injEq] at H
    obtain ⟨rfl, rfl⟩ := H
    go_enter Try.func25, Try.ntmps25
    go_wp2_with (first | ((with_reducible refine gate_dst (N := 2) rfl ?_); refine box_event ?hg (N := 2) ?hd (cs := #[.slice A0_0 l0_0.length c0_0, .slice A0_1 l0_1.length c0_1, .slice A0_2 l0_2.length c0_2]) (t := 24) ?hr ?_; (case hd => rfl); (case hg => rfl); (case hr => first | (go_simp; done) | (go_simp; rfl)); intro gb211 hg w32 hbox hb; have n0_ := Aside0.mk (below_step (by repeat (first | (with_reducible first | exact HB.out | apply below_alloc | apply pw_below_drewN | apply below_drew1) | exact HB.out)) hb); have n1_ := Aside0.mk (hbox); have n2_ := Aside0.mk ((by rw [hg]; exact (below_size (by repeat (first | (with_reducible first | exact HB.out | apply below_alloc | apply pw_below_drewN | apply below_drew1) | exact HB.out))) : w.heap.size ≤ gb211)); have n3_ := Aside0.mk ((by rw [hg]; exact (below_size (by repeat (first | (with_reducible first | exact HB.out | apply below_alloc | apply pw_below_drewN | apply below_drew1) | exact HB.out))) : w.heap.size ≤ gb211)); clear HB; have HB := n0_; have BK211 := n1_; have GW211 := n2_; have GE211 := n3_; clear n0_ n1_ n2_ n3_; clear hb hbox hg; have hcz33_0 : w32.cell? ⟨gb211, 0, none⟩ = some (.slice A0_0 l0_0.length c0_0) := (blk_cell BK211.out 0).trans rfl; have hcz33_1 : w32.cell? ⟨gb211, 1, none⟩ = some (.slice A0_1 l0_1.length c0_1) := (blk_cell BK211.out 1).trans rfl; have hcz33_2 : w32.cell? ⟨gb211, 2, none⟩ = some (.slice A0_2 l0_2.length c0_2) := (blk_cell BK211.out 2).trans rfl; have hfz33_0 := blk_frozen BK211.out 0; have hfz33_1 := blk_frozen BK211.out 1; have hfz33_2 := blk_frozen BK211.out 2) | ((with_reducible refine gate_callee (f := 36) rfl ?_); refine goesL_ (some 9) rfl rfl Try.func36 (by kernel_rfl) rfl #[.agg #[.slice A0_0 l0_0.length c0_0, .slice A0_1 l0_1.length c0_1, .slice A0_2 l0_2.length c0_2]] rfl (by (try simp only [List.map_toArray, List.map_cons, List.map_nil]); first | done | rfl | (simp only [List.length_drop, List.length_take]; rfl)) ?_; (with_reducible refine (furrowworksref04_Furrow.calls k _ _ l0_0 _ _ l0_1 _ _ l0_2 false _ ?side1 ?side2 ?side3 ?side4 ?side5 ?side6 A3.out).mono ?_); (case side1 => repeat (first | exact (Kd.C_below HR0_0.out HB.out) | (with_reducible refine Kd.C_alloc ?_ _) | (with_reducible refine Kd.C_drewN ?_ _) | (with_reducible refine Kd.C_drew ?_))); (case side2 => exact HC0_0.out); (case side3 => repeat (first | exact (Kd.C_below HR0_1.out HB.out) | (with_reducible refine Kd.C_alloc ?_ _) | (with_reducible refine Kd.C_drewN ?_ _) | (with_reducible refine Kd.C_drew ?_))); (case side4 => exact HC0_1.out); (case side5 => repeat (first | exact (Kd.C_below HR0_2.out HB.out) | (with_reducible refine Kd.C_alloc ?_ _) | (with_reducible refine Kd.C_drewN ?_ _) | (with_reducible refine Kd.C_drew ?_))); (case side6 => exact HC0_2.out); rintro e w34 ⟨rfl, hb⟩; refine ⟨_, rfl, ?_⟩; have n0_ := Aside0.mk (blk_below (g := gb211) (o := .cells #[.slice A0_0 l0_0.length c0_0, .slice A0_1 l0_1.length c0_1, .slice A0_2 l0_2.length c0_2] 24 (0, 0)) (by (with_reducible repeat (first | refine blk_drewN ?_ _ | refine blk_drew ?_ | refine blk_alloc ?_ _)); exact BK211.out) hb); have n1_ := Aside0.mk (below_step (by repeat (first | (with_reducible first | exact HB.out | apply below_alloc | apply pw_below_drewN | apply below_drew1 | refine below_set ?_ GE211.out) | exact HB.out)) hb); clear BK211; clear HB; have BK211 := n0_; have HB := n1_; clear n0_ n1_; (try clear hb); (try clear hb2); (try clear hk); (try clear hi)))
    go_ret2
    exact ⟨by first | rfl | (simp [errW_none, errW_some] <;> rfl) | (simp [*, errW_none, errW_some] <;> rfl), by repeat (first | (with_reducible first | exact HB.out | apply below_alloc | apply pw_below_drewN | apply below_drew1 | refine below_set ?_ GE211.out) | exact HB.out)⟩

end Go.Proofs.Ytafmgmaelnpehaa.PFurrowAsks
end

section
namespace Go.Proofs.Ytafmgmaelnpehaa.PFurrowAsks
open Go.RowKit Go.Proofs.YtafmgmaelnpehaaW.PrintWords Go.Proofs.YtafmgmaelnpehaaW.PrintLast Go.Proofs.YtafmgmaelnpehaaW.PrintMore
attribute [local go_sem] max2_int min2_int max_two min_two max_three min_three max_four min_four   -- for this text's walks alone
set_option linter.unusedVariables false
set_option linter.unusedSimpArgs false

/-! ### furrowworksref04_Shallow: function 27 -/
def furrowworksref04_Shallow.l0 : Nat → Int → Int → Int → Int → List (S28) → List (S28) → List (S28) → Option (Int × Int × Int)
  | 0, _, _, _, _, _, _, _ => none
  | k + 1, x1, x7, x8, x9, x242000, x242001, x242002 => if x9 < (x242002.length : Int) then (if 0 ≤ x9 then (if ((rd_T28 x242002 x9).f1) < x1 then ((furrowworksref04_power.f k x9).bind fun t244 => (if ((rd_T28 x242002 x9).f0) < x1 then ((furrowworksref04_power.f k x9).bind fun t246 => (furrowworksref04_Shallow.l0 k x1 (wrap64 (x7 + t244)) (wrap64 (x8 + t246)) (wrap64 (x9 + 1)) x242000 x242001 x242002)) else (furrowworksref04_Shallow.l0 k x1 (wrap64 (x7 + t244)) x8 (wrap64 (x9 + 1)) x242000 x242001 x242002))) else (if ((rd_T28 x242002 x9).f0) < x1 then ((furrowworksref04_power.f k x9).bind fun t248 => (furrowworksref04_Shallow.l0 k x1 x7 (wrap64 (x8 + t248)) (wrap64 (x9 + 1)) x242000 x242001 x242002)) else (furrowworksref04_Shallow.l0 k x1 x7 x8 (wrap64 (x9 + 1)) x242000 x242001 x242002))) else (none)) else (some (x7, x8, 0))
def furrowworksref04_Shallow.f (k : Nat) (l0_0 : List (S28)) (l0_1 : List (S28)) (l0_2 : List (S28)) (a1 : Int) : Option (Int × Int × Int) := (furrowworksref04_Furrow.f k l0_0 l0_1 l0_2).bind fun t242 => (if t242 = true then (if a1 < 0 then (some (0, 0, 2)) else (furrowworksref04_Shallow.l0 k a1 0 0 0 l0_0 l0_1 l0_2)) else (some (0, 0, 1)))
theorem furrowworksref04_Shallow.mono_l : ∀ k, (∀ y0 y1 y2 y3 y4 y5 y6, LeO (furrowworksref04_Shallow.l0 k y0 y1 y2 y3 y4 y5 y6) (furrowworksref04_Shallow.l0 (k + 1) y0 y1 y2 y3 y4 y5 y6))
  | 0 => fun _ _ _ _ _ _ _ r h => by simp [furrowworksref04_Shallow.l0] at h
  | k + 1 => by
    have ih0 := furrowworksref04_Shallow.mono_l k
    · intro y0 y1 y2 y3 y4 y5 y6
      unfold furrowworksref04_Shallow.l0
      repeat' first
      | (with_reducible exact ih0 _ _ _ _ _ _ _)
      | (with_reducible exact furrowworksref04_Furrow.mono _ _ _ _)
      | (with_reducible exact furrowworksref04_power.mono _ _)
      | (with_reducible exact LeO.refl _)
      | (with_reducible exact LeO.none _)
      | (with_reducible refine LeO.ite ?_ ?_)
      | (with_reducible refine LeO.bind ?_ (fun _ => ?_))
      | exact ih0 _ _ _ _ _ _ _
      | exact furrowworksref04_Furrow.mono _ _ _ _
      | exact furrowworksref04_power.mono _ _
      | exact LeO.none _
      | refine LeO.ite ?_ ?_
      | refine LeO.bind ?_ (fun _ => ?_)
theorem furrowworksref04_Shallow.mono : ∀ a0 a1 a2 a3 k, LeO (furrowworksref04_Shallow.f k a0 a1 a2 a3) (furrowworksref04_Shallow.f (k + 1) a0 a1 a2 a3) := by
  intro a0 a1 a2 a3 k
  have ih0 := furrowworksref04_Shallow.mono_l k
  unfold furrowworksref04_Shallow.f
  repeat' first
      | (with_reducible exact ih0 _ _ _ _ _ _ _)
      | (with_reducible exact furrowworksref04_Furrow.mono _ _ _ _)
      | (with_reducible exact furrowworksref04_power.mono _ _)
      | (with_reducible exact LeO.refl _)
      | (with_reducible exact LeO.none _)
      | (with_reducible refine LeO.ite ?_ ?_)
      | (with_reducible refine LeO.bind ?_ (fun _ => ?_))
      | exact ih0 _ _ _ _ _ _ _
      | exact furrowworksref04_Furrow.mono _ _ _ _
      | exact furrowworksref04_power.mono _ _
      | exact LeO.none _
      | refine LeO.ite ?_ ?_
      | refine LeO.bind ?_ (fun _ => ?_)
set_option maxHeartbeats 8000000 in
set_option maxRecDepth 100000 in
theorem furrowworksref04_Shallow.calls (k : Nat) (A0_0 : Option Addr) (c0_0 : Nat) (l0_0 : List (S28)) (A0_1 : Option Addr) (c0_1 : Nat) (l0_1 : List (S28)) (A0_2 : Option Addr) (c0_2 : Nat) (l0_2 : List (S28)) (a1 : Int) (r1 : Int) (r2 : Int) (r3 : Int) (w : World) (hr0_0 : Kd.C k28 w A0_0 l0_0.length l0_0) (hc0_0 : l0_0.length ≤ c0_0) (hr0_1 : Kd.C k28 w A0_1 l0_1.length l0_1) (hc0_1 : l0_1.length ≤ c0_1) (hr0_2 : Kd.C k28 w A0_2 l0_2.length l0_2) (hc0_2 : l0_2.length ≤ c0_2) (h : furrowworksref04_Shallow.f k l0_0 l0_1 l0_2 a1 = some (r1, r2, r3)) :
    Calls Try.prog 27 #[.agg #[.slice A0_0 l0_0.length c0_0, .slice A0_1 l0_1.length c0_1, .slice A0_2 l0_2.length c0_2], .int .i64 a1] w fun e w' => e = .returned (.tuple #[.int .i64 r1, .int .i64 r2, .int .i64 r3]) ∧ Below w.heap.size w w' := by
  have hu24 := Try.underlying24
  have HR0_0 := Aside0.mk hr0_0
  have HC0_0 := Aside0.mk hc0_0
  clear hr0_0 hc0_0
  have HR0_1 := Aside0.mk hr0_1
  have HC0_1 := Aside0.mk hc0_1
  clear hr0_1 hc0_1
  have HR0_2 := Aside0.mk hr0_2
  have HC0_2 := Aside0.mk hc0_2
  clear hr0_2 hc0_2
  have HB := Aside0.mk (Below.refl w.heap.size w)
  have H : ((furrowworksref04_Furrow.f k l0_0 l0_1 l0_2).bind fun t242 => (if t242 = true then (if a1 < 0 then (some (0, 0, 2)) else (furrowworksref04_Shallow.l0 k a1 0 0 0 l0_0 l0_1 l0_2)) else (some (0, 0, 1)))) = some (r1, r2, r3) := h
  clear h
  replace H := Option.bind_eq_some_iff.mp H
  obtain ⟨t242, A30, H⟩ := H
  replace H : (if t242 = true then (if a1 < 0 then (some (0, 0, 2)) else (furrowworksref04_Shallow.l0 k a1 0 0 0 l0_0 l0_1 l0_2)) else (some (0, 0, 1))) = some (r1, r2, r3) := H
  have A3 := Aside0.mk A30
  clear A30
  by_cases c4 : t242 = true
  · subst c4
    have H1 : (if a1 < 0 then (some (0, 0, 2)) else (furrowworksref04_Shallow.l0 k a1 0 0 0 l0_0 l0_1 l0_2)) = some (r1, r2, r3) := by rw [if_pos rfl] at H; exact H
    clear H
    have H := H1
    clear H1
    by_cases c5 : a1 < 0
    · rw [if_pos c5] at H
      have c5b0 : decide (a1 < 0) = true := decide_eq_true c5
      clear c5
      simp only [Option.some.injEq, Prod.mk.injEq] at H
      obtain ⟨rfl, rfl, rfl⟩ := H
      go_enter Try.func27, Try.ntmps27
      go_wp2_with (first | ((with_reducible refine gate_dst (N := 2) rfl ?_); refine box_event ?hg (N := 2) ?hd (cs := #[.slice A0_0 l0_0.length c0_0, .slice A0_1 l0_1.length c0_1, .slice A0_2 l0_2.length c0_2]) (t := 24) ?hr ?_; (case hd => rfl); (case hg => rfl); (case hr => first | (go_simp; done) | (go_simp; rfl)); intro gb241 hg w6 hbox hb; have n0_ := Aside0.mk (below_step (by repeat (first | (with_reducible first | exact HB.out | apply below_alloc | apply pw_below_drewN | apply below_drew1) | exact HB.out)) hb); have n1_ := Aside0.mk (hbox); have n2_ := Aside0.mk ((by rw [hg]; exact (below_size (by repeat (first | (with_reducible first | exact HB.out | apply below_alloc | apply pw_below_drewN | apply below_drew1) | exact HB.out))) : w.heap.size ≤ gb241)); have n3_ := Aside0.mk ((by rw [hg]; exact (below_size (by repeat (first | (with_reducible first | exact HB.out | apply below_alloc | apply pw_below_drewN | apply below_drew1) | exact HB.out))) : w.heap.size ≤ gb241)); clear HB; have HB := n0_; have BK241 := n1_; have GW241 := n2_; have GE241 := n3_; clear n0_ n1_ n2_ n3_; clear hb hbox hg; have hcz7_0 : w6.cell? ⟨gb241, 0, none⟩ = some (.slice A0_0 l0_0.length c0_0) := (blk_cell BK241.out 0).trans rfl; have hcz7_1 : w6.cell? ⟨gb241, 1, none⟩ = some (.slice A0_1 l0_1.length c0_1) := (blk_cell BK241.out 1).trans rfl; have hcz7_2 : w6.cell? ⟨gb241, 2, none⟩ = some (.slice A0_2 l0_2.length c0_2) := (blk_cell BK241.out 2).trans rfl; have hfz7_0 := blk_frozen BK241.out 0; have hfz7_1 := blk_frozen BK241.out 1; have hfz7_2 := blk_frozen BK241.out 2) | ((with_reducible refine gate_callee (f := 36) rfl ?_); refine goesL_ (some 11) rfl rfl Try.func36 (by kernel_rfl) rfl #[.agg #[.slice A0_0 l0_0.length c0_0, .slice A0_1 l0_1.length c0_1, .slice A0_2 l0_2.length c0_2]] rfl (by (try simp only [List.map_toArray, List.map_cons, List.map_nil]); first | done | rfl | (simp only [List.length_drop, List.length_take]; rfl)) ?_; (with_reducible refine (furrowworksref04_Furrow.calls k _ _ l0_0 _ _ l0_1 _ _ l0_2 true _ ?side1 ?side2 ?side3 ?side4 ?side5 ?side6 A3.out).mono ?_); (case side1 => repeat (first | exact (Kd.C_below HR0_0.out HB.out) | (with_reducible refine Kd.C_alloc ?_ _) | (with_reducible refine Kd.C_drewN ?_ _) | (with_reducible refine Kd.C_drew ?_))); (case side2 => exact HC0_0.out); (case side3 => repeat (first | exact (Kd.C_below HR0_1.out HB.out) | (with_reducible refine Kd.C_alloc ?_ _) | (with_reducible refine Kd.C_drewN ?_ _) | (with_reducible refine Kd.C_drew ?_))); (case side4 => exact HC0_1.out); (case side5 => repeat (first | exact (Kd.C_below HR0_2.out HB.out) | (with_reducible refine Kd.C_alloc ?_ _) | (with_reducible refine Kd.C_drewN ?_ _) | (with_reducible refine Kd.C_drew ?_))); (case side6 => exact HC0_2.out); rintro e w8 ⟨rfl, hb⟩; refine ⟨_, rfl, ?_⟩; have n0_ := Aside0.mk (blk_below (g := gb241) (o := .cells #[.slice A0_0 l0_0.length c0_0, .slice A0_1 l0_1.length c0_1, .slice A0_2 l0_2.length c0_2] 24 (0, 0)) (by (with_reducible repeat (first | refine blk_drewN ?_ _ | refine blk_drew ?_ | refine blk_alloc ?_ _)); exact BK241.out) hb); have n1_ := Aside0.mk (below_step (by repeat (first | (with_reducible first | exact HB.out | apply below_alloc | apply pw_below_drewN | apply below_drew1 | refine below_set ?_ GE241.out) | exact HB.out)) hb); clear BK241; clear HB; have BK241 := n0_; have HB := n1_; clear n0_ n1_; (try clear hb); (try clear hb2); (try clear hk); (try clear hi)))
      go_ret3
      exact ⟨by first | rfl | (simp [errW_none, errW_some] <;> rfl) | (simp [*, errW_none, errW_some] <;> rfl), by repeat (first | (with_reducible first | exact HB.out | apply below_alloc | apply pw_below_drewN | apply below_drew1 | refine below_set ?_ GE241.out) | exact HB.out)⟩
    · rw [if_neg c5] at H
      have c5b0 : decide (a1 < 0) = false := decide_eq_false c5
      clear c5
      have H' := Aside0.mk H
      clear H
      go_enter Try.func27, Try.ntmps27
      go_wp2_with (first | ((with_reducible refine gate_dst (N := 2) rfl ?_); refine box_event ?hg (N := 2) ?hd (cs := #[.slice A0_0 l0_0.length c0_0, .slice A0_1 l0_1.length c0_1, .slice A0_2 l0_2.length c0_2]) (t := 24) ?hr ?_; (case hd => rfl); (case hg => rfl); (case hr => first | (go_simp; done) | (go_simp; rfl)); intro gb241 hg w9 hbox hb; have n0_ := Aside0.mk (below_step (by repeat (first | (with_reducible first | exact HB.out | apply below_alloc | apply pw_below_drewN | apply below_drew1) | exact HB.out)) hb); have n1_ := Aside0.mk (hbox); have n2_ := Aside0.mk ((by rw [hg]; exact (below_size (by repeat (first | (with_reducible first | exact HB.out | apply below_alloc | apply pw_below_drewN | apply below_drew1) | exact HB.out))) : w.heap.size ≤ gb241)); have n3_ := Aside0.mk ((by rw [hg]; exact (below_size (by repeat (first | (with_reducible first | exact HB.out | apply below_alloc | apply pw_below_drewN | apply below_drew1) | exact HB.out))) : w.heap.size ≤ gb241)); clear HB; have HB := n0_; have BK241 := n1_; have GW241 := n2_; have GE241 := n3_; clear n0_ n1_ n2_ n3_; clear hb hbox hg; have hcz10_0 : w9.cell? ⟨gb241, 0, none⟩ = some (.slice A0_0 l0_0.length c0_0) := (blk_cell BK241.out 0).trans rfl; have hcz10_1 : w9.cell? ⟨gb241, 1, none⟩ = some (.slice A0_1 l0_1.length c0_1) := (blk_cell BK241.out 1).trans rfl; have hcz10_2 : w9.cell? ⟨gb241, 2, none⟩ = some (.slice A0_2 l0_2.length c0_2) := (blk_cell BK241.out 2).trans rfl; have hfz10_0 := blk_frozen BK241.out 0; have hfz10_1 := blk_frozen BK241.out 1; have hfz10_2 := blk_frozen BK241.out 2) | ((with_reducible refine gate_callee (f := 36) rfl ?_); refine goesL_ (some 11) rfl rfl Try.func36 (by kernel_rfl) rfl #[.agg #[.slice A0_0 l0_0.length c0_0, .slice A0_1 l0_1.length c0_1, .slice A0_2 l0_2.length c0_2]] rfl (by (try simp only [List.map_toArray, List.map_cons, List.map_nil]); first | done | rfl | (simp only [List.length_drop, List.length_take]; rfl)) ?_; (with_reducible refine (furrowworksref04_Furrow.calls k _ _ l0_0 _ _ l0_1 _ _ l0_2 true _ ?side1 ?side2 ?side3 ?side4 ?side5 ?side6 A3.out).mono ?_); (case side1 => repeat (first | exact (Kd.C_below HR0_0.out HB.out) | (with_reducible refine Kd.C_alloc ?_ _) | (with_reducible refine Kd.C_drewN ?_ _) | (with_reducible refine Kd.C_drew ?_))); (case side2 => exact HC0_0.out); (case side3 => repeat (first | exact (Kd.C_below HR0_1.out HB.out) | (with_reducible refine Kd.C_alloc ?_ _) | (with_reducible refine Kd.C_drewN ?_ _) | (with_reducible refine Kd.C_drew ?_))); (case side4 => exact HC0_1.out); (case side5 => repeat (first | exact (Kd.C_below HR0_2.out HB.out) | (with_reducible refine Kd.C_alloc ?_ _) | (with_reducible refine Kd.C_drewN ?_ _) | (with_reducible refine Kd.C_drew ?_))); (case side6 => exact HC0_2.out); rintro e w11 ⟨rfl, hb⟩; refine ⟨_, rfl, ?_⟩; have n0_ := Aside0.mk (blk_below (g := gb241) (o := .cells #[.slice A0_0 l0_0.length c0_0, .slice A0_1 l0_1.length c0_1, .slice A0_2 l0_2.length c0_2] 24 (0, 0)) (by (with_reducible repeat (first | refine blk_drewN ?_ _ | refine blk_drew ?_ | refine blk_alloc ?_ _)); exact BK241.out) hb); have n1_ := Aside0.mk (below_step (by repeat (first | (with_reducible first | exact HB.out | apply below_alloc | apply pw_below_drewN | apply below_drew1 | refine below_set ?_ GE241.out) | exact HB.out)) hb); clear BK241; clear HB; have BK241 := n0_; have HB := n1_; clear n0_ n1_; (try clear hb); (try clear hb2); (try clear hk); (try clear hi)))
      go_loopg [7, 8, 9] k (fun kq v7 v8 v9 w' => ∃ (x7_1 : Int) (x8_1 : Int) (x9_1 : Int), v7 = .int .i64 x7_1 ∧ v8 = .int .i64 x8_1 ∧ v9 = .int .i64 x9_1 ∧ Aside0 (furrowworksref04_Shallow.l0 kq a1 x7_1 x8_1 x9_1 l0_0 l0_1 l0_2 = some (r1, r2, r3)) ∧ Aside0 (kq ≤ k) ∧ Aside0 (w'.heap[gb241]? = some (.cells #[(.slice A0_0 l0_0.length c0_0), (.slice A0_1 l0_1.length c0_1), (.slice A0_2 l0_2.length c0_2)] 24 (0, 0))) ∧ Aside0 (Below w.heap.size w w'))
      case atStart => exact ⟨(0), (0), (0), (by first | rfl | (simp; done) | (simp [*]; done)), (by first | rfl | (simp; done) | (simp [*]; done)), (by first | rfl | (simp; done) | (simp [*]; done)), H', ⟨Nat.le_refl _⟩, ⟨by (with_reducible repeat (first | refine blk_drewN ?_ _ | refine blk_drew ?_ | refine blk_alloc ?_ _)); exact BK241.out⟩, ⟨by repeat (first | (with_reducible first | exact HB.out | apply below_alloc | apply pw_below_drewN | apply below_drew1 | refine below_set ?_ GE241.out) | exact HB.out)⟩⟩
      case round =>
        clear H'
        try clear c2
        try clear p2
        try clear c3
        try clear c4
        try clear c5
        try clear c5b0
        try clear hcz10_0
        try clear hcz10_1
        try clear hcz10_2
        try clear hcz7_0
        try clear hcz7_1
        try clear hcz7_2
        try clear hfz10_0
        try clear hfz10_1
        try clear hfz10_2
        try clear hfz7_0
        try clear hfz7_1
        try clear hfz7_2
        obtain ⟨x7_1, x8_1, x9_1, rfl, rfl, rfl, HA, HK1, BK241, HB⟩ := hrel
        cases gk with
        | zero => exact absurd HA.out (by simp [furrowworksref04_Shallow.l0])
        | succ k1 =>
          have H := HA.out
          clear HA
          simp only [furrowworksref04_Shallow.l0] at H
          by_cases c12 : x9_1 < (l0_2.length : Int)
          · rw [if_pos c12] at H
            have c12b0 : decide (x9_1 < (l0_2.length : Int)) = true := decide_eq_true c12
            clear c12
            by_cases c13 : 0 ≤ x9_1
            · rw [if_pos c13] at H
              have c13b0 : decide (0 ≤ x9_1) = true := decide_eq_true c13
              clear c13
              by_cases c14 : ((rd_T28 l0_2 x9_1).f1) < a1
              · rw [if_pos c14] at H
                have c14b0 : decide (((rd_T28 l0_2 x9_1).f1) < a1) = true := decide_eq_true c14
                clear c14
                replace H := Option.bind_eq_some_iff.mp H
                obtain ⟨t244, A150, H⟩ := H
                replace H : (if ((rd_T28 l0_2 x9_1).f0) < a1 then ((furrowworksref04_power.f k1 x9_1).bind fun t246 => (furrowworksref04_Shallow.l0 k1 a1 (wrap64 (x7_1 + t244)) (wrap64 (x8_1 + t246)) (wrap64 (x9_1 + 1)) l0_0 l0_1 l0_2)) else (furrowworksref04_Shallow.l0 k1 a1 (wrap64 (x7_1 + t244)) x8_1 (wrap64 (x9_1 + 1)) l0_0 l0_1 l0_2)) = some (r1, r2, r3) := H
                have A15 := Aside0.mk A150
                clear A150
                by_cases c16 : ((rd_T28 l0_2 x9_1).f0) < a1
                · rw [if_pos c16] at H
                  have c16b0 : decide (((rd_T28 l0_2 x9_1).f0) < a1) = true := decide_eq_true c16
                  clear c16
                  replace H := Option.bind_eq_some_iff.mp H
                  obtain ⟨t246, A170, H⟩ := H
                  replace H : (furrowworksref04_Shallow.l0 k1 a1 (wrap64 (x7_1 + t244)) (wrap64 (x8_1 + t246)) (wrap64 (x9_1 + 1)) l0_0 l0_1 l0_2) = some (r1, r2, r3) := H
                  have A17 := Aside0.mk A170
                  clear A170
                  have H' := Aside0.mk H
                  clear H
                  have hcz18_0 : wr.cell? ⟨gb241, 0, none⟩ = some (.slice A0_0 l0_0.length c0_0) := (blk_cell BK241.out 0).trans rfl
                  have hcz18_1 : wr.cell? ⟨gb241, 1, none⟩ = some (.slice A0_1 l0_1.length c0_1) := (blk_cell BK241.out 1).trans rfl
                  have hcz18_2 : wr.cell? ⟨gb241, 2, none⟩ = some (.slice A0_2 l0_2.length c0_2) := (blk_cell BK241.out 2).trans rfl
                  have hfz18_0 := blk_frozen BK241.out 0
                  have hfz18_1 := blk_frozen BK241.out 1
                  have hfz18_2 := blk_frozen BK241.out 2
                  have p243 : 0 ≤ (x9_1 : Int) := of_decide_eq_true (by first | (with_reducible assumption) | assumption)
                  have q243 : x9_1 < (l0_2.length : Int) := of_decide_eq_true (by first | (with_reducible assumption) | assumption)
                  obtain ⟨ad243, e243, hx243_0, hx243_1⟩ := at_T28 HR0_2.out x9_1 p243 q243
                  cases e243
                  replace hx243_0 := (HB.out.cell (World.block_lt_of_cell? w _ hx243_0)).trans hx243_0
                  replace hx243_1 := (HB.out.cell (World.block_lt_of_cell? w _ hx243_1)).trans hx243_1
                  replace p243 := eq_true p243
                  replace q243 := eq_true q243
                  go_wp2_with (first | ((with_reducible refine gate_callee (f := 63) rfl ?_); refine goesL_ (some 32) rfl rfl Try.func63 (by kernel_rfl) rfl #[.int .i64 x9_1] rfl (by (try simp only [List.map_toArray, List.map_cons, List.map_nil]); first | done | rfl | (simp only [List.length_drop, List.length_take]; rfl)) ?_; (with_reducible refine (furrowworksref04_power.calls k1 x9_1 t244 _ A15.out).mono ?_); rintro e w' ⟨rfl, ⟨nd, rfl⟩⟩; refine ⟨_, rfl, ?_⟩; have p245 : 0 ≤ (x9_1 : Int) := of_decide_eq_true (by first | (with_reducible assumption) | assumption); have q245 : x9_1 < (l0_2.length : Int) := of_decide_eq_true (by first | (with_reducible assumption) | assumption); obtain ⟨ad245, e245, hx245_0, hx245_1⟩ := at_T28 HR0_2.out x9_1 p245 q245; obtain rfl : ad243 = ad245 := (by injection e245); replace hx245_0 := (HB.out.cell (World.block_lt_of_cell? w _ hx245_0)).trans hx245_0; replace hx245_1 := (HB.out.cell (World.block_lt_of_cell? w _ hx245_1)).trans hx245_1; replace p245 := eq_true p245; replace q245 := eq_true q245) | ((with_reducible refine gate_callee (f := 63) rfl ?_); refine goesL_ (some 44) rfl rfl Try.func63 (by kernel_rfl) rfl #[.int .i64 x9_1] rfl (by (try simp only [List.map_toArray, List.map_cons, List.map_nil]); first | done | rfl | (simp only [List.length_drop, List.length_take]; rfl)) ?_; (with_reducible refine (furrowworksref04_power.calls k1 x9_1 t246 _ A17.out).mono ?_); rintro e w' ⟨rfl, ⟨nd, rfl⟩⟩; refine ⟨_, rfl, ?_⟩))
                  go_roundg k1
                  case measure => have := HK1.out; omega
                  case rel => exact ⟨(wrap64 (x7_1 + t244)), (wrap64 (x8_1 + t246)), (wrap64 (x9_1 + 1)), (by first | rfl | (simp; done) | (simp [*]; done)), (by first | rfl | (simp; done) | (simp [*]; done)), (by first | rfl | (simp; done) | (simp [*]; done)), H', ⟨by have := HK1.out; omega⟩, ⟨by (with_reducible repeat (first | refine blk_drewN ?_ _ | refine blk_drew ?_ | refine blk_alloc ?_ _)); exact BK241.out⟩, ⟨by repeat (first | (with_reducible first | exact HB.out | apply below_alloc | apply pw_below_drewN | apply below_drew1 | refine below_set ?_ GE241.out) | exact HB.out)⟩⟩
                · rw [if_neg c16] at H
                  have c16b0 : decide (((rd_T28 l0_2 x9_1).f0) < a1) = false := decide_eq_false c16
                  clear c16
                  have H' := Aside0.mk H
                  clear H
                  have hcz19_0 : wr.cell? ⟨gb241, 0, none⟩ = some (.slice A0_0 l0_0.length c0_0) := (blk_cell BK241.out 0).trans rfl
                  have hcz19_1 : wr.cell? ⟨gb241, 1, none⟩ = some (.slice A0_1 l0_1.length c0_1) := (blk_cell BK241.out 1).trans rfl
                  have hcz19_2 : wr.cell? ⟨gb241, 2, none⟩ = some (.slice A0_2 l0_2.length c0_2) := (blk_cell BK241.out 2).trans rfl
                  have hfz19_0 := blk_frozen BK241.out 0
                  have hfz19_1 := blk_frozen BK241.out 1
                  have hfz19_2 := blk_frozen BK241.out 2
                  have p243 : 0 ≤ (x9_1 : Int) := of_decide_eq_true (by first | (with_reducible assumption) | assumption)
                  have q243 : x9_1 < (l0_2.length : Int) := of_decide_eq_true (by first | (with_reducible assumption) | assumption)
                  obtain ⟨ad243, e243, hx243_0, hx243_1⟩ := at_T28 HR0_2.out x9_1 p243 q243
                  cases e243
                  replace hx243_0 := (HB.out.cell (World.block_lt_of_cell? w _ hx243_0)).trans hx243_0
                  replace hx243_1 := (HB.out.cell (World.block_lt_of_cell? w _ hx243_1)).trans hx243_1
                  replace p243 := eq_true p243
                  replace q243 := eq_true q243
                  go_wp2_with (first | ((with_reducible refine gate_callee (f := 63) rfl ?_); refine goesL_ (some 32) rfl rfl Try.func63 (by kernel_rfl) rfl #[.int .i64 x9_1] rfl (by (try simp only [List.map_toArray, List.map_cons, List.map_nil]); first | done | rfl | (simp only [List.length_drop, List.length_take]; rfl)) ?_; (with_reducible refine (furrowworksref04_power.calls k1 x9_1 t244 _ A15.out).mono ?_); rintro e w' ⟨rfl, ⟨nd, rfl⟩⟩; refine ⟨_, rfl, ?_⟩; have p245 : 0 ≤ (x9_1 : Int) := of_decide_eq_true (by first | (with_reducible assumption) | assumption); have q245 : x9_1 < (l0_2.length : Int) := of_decide_eq_true (by first | (with_reducible assumption) | assumption); obtain ⟨ad245, e245, hx245_0, hx245_1⟩ := at_T28 HR0_2.out x9_1 p245 q245; obtain rfl : ad243 = ad245 := (by injection e245); replace hx245_0 := (HB.out.cell (World.block_lt_of_cell? w _ hx245_0)).trans hx245_0; replace hx245_1 := (HB.out.cell (World.block_lt_of_cell? w _ hx245_1)).trans hx245_1; replace p245 := eq_true p245; replace q245 := eq_true q245))
                  go_roundg k1
                  case measure => have := HK1.out; omega
                  case rel => exact ⟨(wrap64 (x7_1 + t244)), (x8_1), (wrap64 (x9_1 + 1)), (by first | rfl | (simp; done) | (simp [*]; done)), (by first | rfl | (simp; done) | (simp [*]; done)), (by first | rfl | (simp; done) | (simp [*]; done)), H', ⟨by have := HK1.out; omega⟩, ⟨by (with_reducible repeat (first | refine blk_drewN ?_ _ | refine blk_drew ?_ | refine blk_alloc ?_ _)); exact BK241.out⟩, ⟨by repeat (first | (with_reducible first | exact HB.out | apply below_alloc | apply pw_below_drewN | apply below_drew1 | refine below_set ?_ GE241.out) | exact HB.out)⟩⟩
              · rw [if_neg c14] at H
                have c14b0 : decide (((rd_T28 l0_2 x9_1).f1) < a1) = false := decide_eq_false c14
                clear c14
                by_cases c20 : ((rd_T28 l0_2 x9_1).f0) < a1
                · rw [if_pos c20] at H
                  have c20b0 : decide (((rd_T28 l0_2 x9_1).f0) < a1) = true := decide_eq_true c20
                  clear c20
                  replace H := Option.bind_eq_some_iff.mp H
                  obtain ⟨t248, A210, H⟩ := H
                  replace H : (furrowworksref04_Shallow.l0 k1 a1 x7_1 (wrap64 (x8_1 + t248)) (wrap64 (x9_1 + 1)) l0_0 l0_1 l0_2) = some (r1, r2, r3) := H
                  have A21 := Aside0.mk A210
                  clear A210
                  have H' := Aside0.mk H
                  clear H
                  have hcz22_0 : wr.cell? ⟨gb241, 0, none⟩ = some (.slice A0_0 l0_0.length c0_0) := (blk_cell BK241.out 0).trans rfl
                  have hcz22_1 : wr.cell? ⟨gb241, 1, none⟩ = some (.slice A0_1 l0_1.length c0_1) := (blk_cell BK241.out 1).trans rfl
                  have hcz22_2 : wr.cell? ⟨gb241, 2, none⟩ = some (.slice A0_2 l0_2.length c0_2) := (blk_cell BK241.out 2).trans rfl
                  have hfz22_0 := blk_frozen BK241.out 0
                  have hfz22_1 := blk_frozen BK241.out 1
                  have hfz22_2 := blk_frozen BK241.out 2
                  have p243 : 0 ≤ (x9_1 : Int) := of_decide_eq_true (by first | (with_reducible assumption) | assumption)
                  have q243 : x9_1 < (l0_2.length : Int) := of_decide_eq_true (by first | (with_reducible assumption) | assumption)
                  obtain ⟨ad243, e243, hx243_0, hx243_1⟩ := at_T28 HR0_2.out x9_1 p243 q243
                  cases e243
                  replace hx243_0 := (HB.out.cell (World.block_lt_of_cell? w _ hx243_0)).trans hx243_0
                  replace hx243_1 := (HB.out.cell (World.block_lt_of_cell? w _ hx243_1)).trans hx243_1
                  replace p243 := eq_true p243
                  replace q243 := eq_true q243
                  have p247 : 0 ≤ (x9_1 : Int) := of_decide_eq_true (by first | (with_reducible assumption) | assumption)
                  have q247 : x9_1 < (l0_2.length : Int) := of_decide_eq_true (by first | (with_reducible assumption) | assumption)
                  obtain ⟨ad247, e247, hx247_0, hx247_1⟩ := at_T28 HR0_2.out x9_1 p247 q247
                  obtain rfl : ad243 = ad247 := (by injection e247)
                  replace hx247_0 := (HB.out.cell (World.block_lt_of_cell? w _ hx247_0)).trans hx247_0
                  replace hx247_1 := (HB.out.cell (World.block_lt_of_cell? w _ hx247_1)).trans hx247_1
                  replace p247 := eq_true p247
                  replace q247 := eq_true q247
                  go_wp2_with (first | ((with_reducible refine gate_callee (f := 63) rfl ?_); refine goesL_ (some 44) rfl rfl Try.func63 (by kernel_rfl) rfl #[.int .i64 x9_1] rfl (by (try simp only [List.map_toArray, List.map_cons, List.map_nil]); first | done | rfl | (simp only [List.length_drop, List.length_take]; rfl)) ?_; (with_reducible refine (furrowworksref04_power.calls k1 x9_1 t248 _ A21.out).mono ?_); rintro e w' ⟨rfl, ⟨nd, rfl⟩⟩; refine ⟨_, rfl, ?_⟩))
                  go_roundg k1
                  case measure => have := HK1.out; omega
                  case rel => exact ⟨(x7_1), (wrap64 (x8_1 + t248)), (wrap64 (x9_1 + 1)), (by first | rfl | (simp; done) | (simp [*]; done)), (by first | rfl | (simp; done) | (simp [*]; done)), (by first | rfl | (simp; done) | (simp [*]; done)), H', ⟨by have := HK1.out; omega⟩, ⟨by (with_reducible repeat (first | refine blk_drewN ?_ _ | refine blk_drew ?_ | refine blk_alloc ?_ _)); exact BK241.out⟩, ⟨by repeat (first | (with_reducible first | exact HB.out | apply below_alloc | apply pw_below_drewN | apply below_drew1 | refine below_set ?_ GE241.out) | exact HB.out)⟩⟩
                · rw [if_neg c20] at H
                  have c20b0 : decide (((rd_T28 l0_2 x9_1).f0) < a1) = false := decide_eq_false c20
                  clear c20
                  have H' := Aside0.mk H
                  clear H
                  have hcz23_0 : wr.cell? ⟨gb241, 0, none⟩ = some (.slice A0_0 l0_0.length c0_0) := (blk_cell BK241.out 0).trans rfl
                  have hcz23_1 : wr.cell? ⟨gb241, 1, none⟩ = some (.slice A0_1 l0_1.length c0_1) := (blk_cell BK241.out 1).trans rfl
                  have hcz23_2 : wr.cell? ⟨gb241, 2, none⟩ = some (.slice A0_2 l0_2.length c0_2) := (blk_cell BK241.out 2).trans rfl
                  have hfz23_0 := blk_frozen BK241.out 0
                  have hfz23_1 := blk_frozen BK241.out 1
                  have hfz23_2 := blk_frozen BK241.out 2
                  have p243 : 0 ≤ (x9_1 : Int) := of_decide_eq_true (by first | (with_reducible assumption) | assumption)
                  have q243 : x9_1 < (l0_2.length : Int) := of_decide_eq_true (by first | (with_reducible assumption) | assumption)
                  obtain ⟨ad243, e243, hx243_0, hx243_1⟩ := at_T28 HR0_2.out x9_1 p243 q243
                  cases e243
                  replace hx243_0 := (HB.out.cell (World.block_lt_of_cell? w _ hx243_0)).trans hx243_0
                  replace hx243_1 := (HB.out.cell (World.block_lt_of_cell? w _ hx243_1)).trans hx243_1
                  replace p243 := eq_true p243
                  replace q243 := eq_true q243
                  have p247 : 0 ≤ (x9_1 : Int) := of_decide_eq_true (by first | (with_reducible assumption) | assumption)
                  have q247 : x9_1 < (l0_2.length : Int) := of_decide_eq_true (by first | (with_reducible assumption) | assumption)
                  obtain ⟨ad247, e247, hx247_0, hx247_1⟩ := at_T28 HR0_2.out x9_1 p247 q247
                  obtain rfl : ad243 = ad247 := (by injection e247)
                  replace hx247_0 := (HB.out.cell (World.block_lt_of_cell? w _ hx247_0)).trans hx247_0
                  replace hx247_1 := (HB.out.cell (World.block_lt_of_cell? w _ hx247_1)).trans hx247_1
                  replace p247 := eq_true p247
                  replace q247 := eq_true q247
                  go_wp2
                  go_roundg k1
                  case measure => have := HK1.out; omega
                  case rel => exact ⟨(x7_1), (x8_1), (wrap64 (x9_1 + 1)), (by first | rfl | (simp; done) | (simp [*]; done)), (by first | rfl | (simp; done) | (simp [*]; done)), (by first | rfl | (simp; done) | (simp [*]; done)), H', ⟨by have := HK1.out; omega⟩, ⟨by (with_reducible repeat (first | refine blk_drewN ?_ _ | refine blk_drew ?_ | refine blk_alloc ?_ _)); exact BK241.out⟩, ⟨by repeat (first | (with_reducible first | exact HB.out | apply below_alloc | apply pw_below_drewN | apply below_drew1 | refine below_set ?_ GE241.out) | exact HB.out)⟩⟩
            · rw [if_neg c13] at H
              exact absurd H (by simp)
          · rw [if_neg c12] at H
            have c12b0 : decide (x9_1 < (l0_2.length : Int)) = false := decide_eq_false c12
            clear c12
            simp only [Option.some.injEq, Prod.mk.injEq] at H
            obtain ⟨rfl, rfl, rfl⟩ := H
            have hcz24_0 : wr.cell? ⟨gb241, 0, none⟩ = some (.slice A0_0 l0_0.length c0_0) := (blk_cell BK241.out 0).trans rfl
            have hcz24_1 : wr.cell? ⟨gb241, 1, none⟩ = some (.slice A0_1 l0_1.length c0_1) := (blk_cell BK241.out 1).trans rfl
            have hcz24_2 : wr.cell? ⟨gb241, 2, none⟩ = some (.slice A0_2 l0_2.length c0_2) := (blk_cell BK241.out 2).trans rfl
            have hfz24_0 := blk_frozen BK241.out 0
            have hfz24_1 := blk_frozen BK241.out 1
            have hfz24_2 := blk_frozen BK241.out 2
            go_wp2
            go_ret3
            exact ⟨by first | rfl | (simp [errW_none, errW_some] <;> rfl) | (simp [*, errW_none, errW_some] <;> rfl), by repeat (first | (with_reducible first | exact HB.out | apply below_alloc | apply pw_below_drewN | apply below_drew1 | refine below_set ?_ GE241.out) | exact HB.out)⟩
  · replace c4 := Bool.eq_false_iff.mpr c4
    subst c4
    have H1 : (some (0, 0, 1)) = some (r1, r2, r3) := by rw [if_neg (show ¬ (false = true) by decide)] at H; exact H
    clear H
    have H := H1
    clear H1
    simp only [Option.some.injEq, Prod.mk.injEq] at H
    obtain ⟨rfl, rfl, rfl⟩ := H
    go_enter Try.func27, Try.ntmps27
    go_wp2_with (first | ((with_reducible refine gate_dst (N := 2) rfl ?_); refine box_event ?hg (N := 2) ?hd (cs := #[.slice A0_0 l0_0.length c0_0, .slice A0_1 l0_1.length c0_1, .slice A0_2 l0_2.length c0_2]) (t := 24) ?hr ?_; (case hd => rfl); (case hg => rfl); (case hr => first | (go_simp; done) | (go_simp; rfl)); intro gb241 hg w25 hbox hb; have n0_ := Aside0.mk (below_step (by repeat (first | (with_reducible first | exact HB.out | apply below_alloc | apply pw_below_drewN | apply below_drew1) | exact HB.out)) hb); have n1_ := Aside0.mk (hbox); have n2_ := Aside0.mk ((by rw [hg]; exact (below_size (by repeat (first | (with_reducible first | exact HB.out | apply below_alloc | apply pw_below_drewN | apply below_drew1) | exact HB.out))) : w.heap.size ≤ gb241)); have n3_ := Aside0.mk ((by rw [hg]; exact (below_size (by repeat (first | (with_reducible first | exact HB.out | apply below_alloc | apply pw_below_drewN | apply below_drew1) | exact HB.out))) : w.heap.size ≤ gb241)); clear HB; have HB := n0_; have BK241 := n1_; have GW241 := n2_; have GE241 := n3_; clear n0_ n1_ n2_ n3_; clear hb hbox hg; have hcz26_0 : w25.cell? ⟨gb241, 0, none⟩ = some (.slice A0_0 l0_0.length c0_0) := (blk_cell BK241.out 0).trans rfl; have hcz26_1 : w25.cell? ⟨gb241, 1, none⟩ = some (.slice A0_1 l0_1.length c0_1) := (blk_cell BK241.out 1).trans rfl; have hcz26_2 : w25.cell? ⟨gb241, 2, none⟩ = some (.slice A0_2 l0_2.length c0_2) := (blk_cell BK241.out 2).trans rfl; have hfz26_0 := blk_frozen BK241.out 0; have hfz26_1 := blk_frozen BK241.out 1; have hfz26_2 := blk_frozen BK241.out 2) | ((with_reducible refine gate_callee (f := 36) rfl ?_); refine goesL_ (some 11) rfl rfl Try.func36 (by kernel_rfl) rfl #[.agg #[.slice A0_0 l0_0.length c0_0, .slice A0_1 l0_1.length c0_1, .slice A0_2 l0_2.length c0_2]] rfl (by (try simp only [List.map_toArray, List.map_cons, List.map_nil]); first | done | rfl | (simp only [List.length_drop, List.length_take]; rfl)) ?_; (with_reducible refine (furrowworksref04_Furrow.calls k _ _ l0_0 _ _ l0_1 _ _ l0_2 false _ ?side1 ?side2 ?side3 ?side4 ?side5 ?side6 A3.out).mono ?_); (case side1 => repeat (first | exact (Kd.C_below HR0_0.out HB.out) | (with_reducible refine Kd.C_alloc ?_ _) | (with_reducible refine Kd.C_drewN ?_ _) | (with_reducible refine Kd.C_drew ?_))); (case side2 => exact HC0_0.out); (case side3 => repeat (first | exact (Kd.C_below HR0_1.out HB.out) | (with_reducible refine Kd.C_alloc ?_ _) | (with_reducible refine Kd.C_drewN ?_ _) | (with_reducible refine Kd.C_drew ?_))); (case side4 => exact HC0_1.out); (case side5 => repeat (first | exact (Kd.C_below HR0_2.out HB.out) | (with_reducible refine Kd.C_alloc ?_ _) | (with_reducible refine Kd.C_drewN ?_ _) | (with_reducible refine Kd.C_drew ?_))); (case side6 => exact HC0_2.out); rintro e w27 ⟨rfl, hb⟩; refine ⟨_, rfl, ?_⟩; have n0_ := Aside0.mk (blk_below (g := gb241) (o := .cells #[.slice A0_0 l0_0.length c0_0, .slice A0_1 l0_1.length c0_1, .slice A0_2 l0_2.length c0_2] 24 (0, 0)) (by (with_reducible repeat (first | refine blk_drewN ?_ _ | refine blk_drew ?_ | refine blk_alloc ?_ _)); exact BK241.out) hb); have n1_ := Aside0.mk (below_step (by repeat (first | (with_reducible first | exact HB.out | apply below_alloc | apply pw_below_drewN | apply below_drew1 | refine below_set ?_ GE241.out) | exact HB.out)) hb); clear BK241; clear HB; have BK241 := n0_; have HB := n1_; clear n0_ n1_; (try clear hb); (try clear hb2); (try clear hk); (try clear hi)))
    go_ret3
    exact ⟨by first | rfl | (simp [errW_none, errW_some] <;> rfl) | (simp [*, errW_none, errW_some] <;> rfl), by repeat (first | (with_reducible first | exact HB.out | apply below_alloc | apply pw_below_drewN | apply below_drew1 | refine below_set ?_ GE241.out) | exact HB.out)⟩

end Go.Proofs.Ytafmgmaelnpehaa.PFurrowAsks
end

section
set_option linter.unusedVariables false
set_option linter.unusedSimpArgs false
namespace Go.Proofs.Ytafmgmaelnpehaa
open Go.RowKit Go.Fu PFurrowAsks Go.Proofs.YtafmgmaelnpehaaW.PrintWords
theorem wrap_id {a : Int} (h1 : -1000000000 ≤ a) (h2 : a ≤ 1000000000) : wrap64 a = a := by unfold wrap64; omega
theorem power_l (n : Nat) (hn : n ≤ 20) : ∀ (d i : Nat), i + d = n → Ev (fun k => furrowworksref04_power.l0 k n ((2 : Int) ^ i) i) ((2 : Int) ^ n)
  | 0, i, h => by
    refine ⟨1, fun k hk => ?_⟩
    obtain ⟨k, rfl⟩ : ∃ m, k = m + 1 := ⟨k - 1, by omega⟩
    simp only [furrowworksref04_power.l0]
    rw [if_neg (by omega), show i = n by omega]
  | d + 1, i, h => by
    refine Ev.step (f := fun k => furrowworksref04_power.l0 k n ((2 : Int) ^ (i + 1)) ((i + 1 : Nat) : Int)) (fun k => ?_) (power_l n hn d (i + 1) (by omega))
    have hp : (2 : Int) ^ i ≤ 1048576 := by
      have : (2 : Nat) ^ i ≤ 2 ^ 20 := Nat.pow_le_pow_right (by omega) (by omega)
      have h2 : ((2 ^ i : Nat) : Int) ≤ ((2 ^ 20 : Nat) : Int) := by exact_mod_cast this
      simpa using h2
    have h0 : 0 ≤ (2 : Int) ^ i := Int.pow_nonneg (by omega)
    simp only [furrowworksref04_power.l0]
    rw [if_pos (by omega), wrap_id (a := 2 * 2 ^ i) (by omega) (by omega), wrap_id (a := (i : Int) + 1) (by omega) (by omega), Int.pow_succ, Int.mul_comm]
    norm_cast
theorem power_ev (n : Nat) (hn : n ≤ 20) : Ev (fun k => furrowworksref04_power.f k n) ((2 : Int) ^ n) := power_l n hn n 0 (by omega)
theorem size_l : ∀ (j s c : Nat), s < 2 ^ j → j ≤ 8 → c + j ≤ 100 → Ev (fun k => furrowworksref04_Size.l0 k s c) (((c + ones j s : Nat) : Int))
  | 0, s, c, h, _, _ => by
    obtain rfl : s = 0 := by simpa using h
    refine ⟨1, fun k hk => ?_⟩
    obtain ⟨k, rfl⟩ : ∃ m, k = m + 1 := ⟨k - 1, by omega⟩
    simp only [furrowworksref04_Size.l0]
    rw [if_neg (by omega)]
    simp [ones]
  | j + 1, s, c, h, hj, hc => by
    have hs : s < 256 := Nat.lt_of_lt_of_le h (Nat.pow_le_pow_right (by omega) hj : 2 ^ (j + 1) ≤ 2 ^ 8)
    by_cases h0 : s = 0
    · subst h0
      have : ∀ j, ones j 0 = 0 := fun j => by induction j with
        | zero => rfl
        | succ j ih => simp [ones, ih]
      refine ⟨1, fun k hk => ?_⟩
      obtain ⟨k, rfl⟩ : ∃ m, k = m + 1 := ⟨k - 1, by omega⟩
      simp only [furrowworksref04_Size.l0]
      rw [if_neg (by omega), this]
      rfl
    · have ih := size_l j (s / 2) (c + s % 2) (by rw [Nat.pow_succ] at h; omega) (by omega) (by omega)
      refine Ev.step (f := fun k => furrowworksref04_Size.l0 k ((s / 2 : Nat) : Int) ((c + s % 2 : Nat) : Int)) (fun k => ?_) (by simpa [ones, Nat.add_assoc] using ih)
      simp only [furrowworksref04_Size.l0]
      have e1 : Int.tdiv (s : Int) 2 = ((s / 2 : Nat) : Int) := by rw [Int.tdiv_eq_ediv_of_nonneg (by omega)]; omega
      have e2 : Int.tmod (s : Int) 2 = ((s % 2 : Nat) : Int) := by rw [Int.tmod_eq_emod_of_nonneg (by omega)]; omega
      rw [if_pos (by omega), e1, e2, wrap_id (by omega) (by omega), wrap_id (by omega) (by omega)]
      norm_cast
theorem ones_le8 (j s : Nat) (h : s < 2 ^ j) (hj : j ≤ 8) : ones j s = ones 8 s := by
  have : ∀ (k j s : Nat), s < 2 ^ j → ones (j + k) s = ones j s := by
    intro k j
    induction j with
    | zero =>
      intro s h
      obtain rfl : s = 0 := by simpa using h
      have : ∀ j, ones j 0 = 0 := fun j => by induction j with
        | zero => rfl
        | succ j ih => simp [ones, ih]
      rw [this, this]
    | succ j ih =>
      intro s h
      rw [show j + 1 + k = (j + k) + 1 by omega]
      simp only [ones]
      rw [ih (s / 2) (by rw [Nat.pow_succ] at h; omega)]
  have := this (8 - j) j s h
  rw [show j + (8 - j) = 8 by omega] at this
  exact this.symm
theorem size_ev (s : Nat) (hs : s < 256) : Ev (fun k => furrowworksref04_Size.f k s) ((ones 8 s : Nat) : Int) := by
  have := size_l 8 s 0 hs (by omega) (by omega)
  rw [Nat.zero_add] at this
  exact this
theorem has_ev (s i : Nat) (hs : s < 256) (hi : i ≤ 8) : Ev (fun k => furrowworksref04_Has.f k s i) (decide (s / 2 ^ i % 2 = 1)) := by
  obtain ⟨k, hk⟩ := has_is s i hs hi
  exact Ev.of (fun k => furrowworksref04_Has.mono _ _ k) hk
/-- A bend of three offsets. -/
theorem bend_is (l : List Int) (n : Nat) (hl : l.length ≤ 100) (h1 : 1 ≤ n) (h2 : n + 1 < l.length) (hb : ∀ x ∈ l, -1000 ≤ x ∧ x ≤ 1000) : furrowworksref04_bend.f l n = some (bendI (l.getD (n - 1) 0) (l.getD n 0) (l.getD (n + 1) 0)) := by
  have g : ∀ i, i < l.length → -1000 ≤ l.getD i 0 ∧ l.getD i 0 ≤ 1000 := fun i hi => by
    rw [List.getD_eq_getElem?_getD, List.getElem?_eq_getElem hi]
    exact hb _ (List.getElem_mem hi)
  have a1 := g (n - 1) (by omega)
  have a2 := g n (by omega)
  have a3 := g (n + 1) (by omega)
  have n1 : wrap64 ((n : Int) - 1) = ((n - 1 : Nat) : Int) := by unfold wrap64; omega
  have n2 : wrap64 ((n : Int) + 1) = ((n + 1 : Nat) : Int) := by unfold wrap64; omega
  have r : ∀ i : Nat, rd l (i : Int) = l.getD i 0 := fun i => by unfold rd; rw [Int.toNat_natCast]
  unfold furrowworksref04_bend.f
  rw [n1, n2, r, r, r]
  generalize l.getD (n - 1) 0 = a at *
  generalize l.getD n 0 = b at *
  generalize l.getD (n + 1) 0 = c at *
  rw [if_pos (by omega), if_pos (by omega), if_pos (by omega), if_pos (by omega), if_pos (by omega), if_pos (by omega)]
  congr 1
  unfold mx bendI wrap64
  split <;> split <;> omega
/-- Some truth begins so, and bends no more from there on. -/
def GoodX (l : List (Int × Int)) (most : Int) (b : List Int) : Prop :=
  ∃ x : Nat → Int, Truth l x ∧ (∀ i, i < b.length → x i = b.getD i 0) ∧ ∀ m, 1 ≤ m → b.length ≤ m + 1 → m + 1 < l.length → bnd x m ≤ most
theorem good_step {l : List (Int × Int)} {most : Int} {b : List Int} (hb : b.length < l.length) : GoodX l most b ↔ ∃ o, InS l b.length o ∧ (b.length < 2 ∨ bendI (b.getD (b.length - 2) 0) (b.getD (b.length - 1) 0) o ≤ most) ∧ GoodX l most (b ++ [o]) := by
  have gl : ∀ o i, i < b.length → (b ++ [o]).getD i 0 = b.getD i 0 := fun o i hi => by
    simp only [List.getD_eq_getElem?_getD, List.getElem?_append_left hi]
  have gr : ∀ o, (b ++ [o]).getD b.length 0 = o := fun o => by simp [List.getD_eq_getElem?_getD]
  constructor
  · rintro ⟨x, hT, hx, hm⟩
    refine ⟨x b.length, hT _ hb, ?_, x, hT, fun i hi => ?_, fun m h1 h2 h3 => hm m h1 (by simp at h2; omega) h3⟩
    · by_cases h2 : b.length < 2
      · exact .inl h2
      · refine .inr ?_
        have := hm (b.length - 1) (by omega) (by omega) (by omega)
        unfold bnd at this
        rw [show b.length - 1 - 1 = b.length - 2 by omega, show b.length - 1 + 1 = b.length by omega, hx (b.length - 2) (by omega), hx (b.length - 1) (by omega)] at this
        exact this
    · simp only [List.length_append, List.length_singleton] at hi
      by_cases e : i = b.length
      · subst e; rw [gr]
      · rw [gl _ _ (by omega)]; exact hx i (by omega)
  · rintro ⟨o, ho, hbd, x, hT, hx, hm⟩
    have hxl : ∀ i, i < b.length → x i = b.getD i 0 := fun i hi => by rw [hx i (by simp; omega), gl _ _ hi]
    have hxo : x b.length = o := by rw [hx _ (by simp), gr]
    refine ⟨x, hT, hxl, fun m h1 h2 h3 => ?_⟩
    by_cases e : m + 1 = b.length
    · rcases hbd with hbd | hbd
      · omega
      · unfold bnd
        rw [hxl (m - 1) (by omega), hxl m (by omega), e, hxo, show m - 1 = b.length - 2 by omega, show m = b.length - 1 by omega]
        exact hbd
    · exact hm m h1 (by simp; omega) h3
theorem good_end {l : List (Int × Int)} {most : Int} {b : List Int} (hb : b.length = l.length) (hin : ∀ i, i < b.length → InS l i (b.getD i 0)) : GoodX l most b :=
  ⟨fun i => b.getD i 0, fun i hi => hin i (by omega), fun i hi => rfl, fun m h1 h2 h3 => by omega⟩
/-- What 'can' answers, of offsets that begin so. -/
theorem can_go (l : List S28) (most : Int) (hl : l.length ≤ 8) (hok : ∀ x ∈ l.map toP, okSpan x) : ∀ (d : Nat) (b : List Int), b.length + d = l.length → (∀ i, i < b.length → InS (l.map toP) i (b.getD i 0)) →
    ∃ r, Ev (fun k => furrowworksref04_can.f k l most b) r ∧ (r = true ↔ GoodX (l.map toP) most b)
  | 0, b, hd, hin => by
    refine ⟨true, ⟨1, fun k hk => ?_⟩, by simp; exact good_end (by simp; omega) hin⟩
    obtain ⟨k, rfl⟩ : ∃ m, k = m + 1 := ⟨k - 1, by omega⟩
    simp only [furrowworksref04_can.f]
    rw [if_pos (by omega)]
  | d + 1, b, hd, hin => by
    have hbl : b.length < l.length := by omega
    have hbd : ∀ x ∈ b, -1000 ≤ x ∧ x ≤ 1000 := by
      intro x hx
      obtain ⟨i, hi, rfl⟩ := List.getElem_of_mem hx
      have h1 := hin i hi
      obtain ⟨h2, h3, h4⟩ := hok _ (getD_mem (l.map toP) i (by simp; omega))
      rw [show b.getD i 0 = b[i] by simp [List.getD_eq_getElem?_getD, hi]] at h1
      obtain ⟨h5, h6⟩ := h1
      omega
    have hsp : (rd_T28 l (b.length : Int)).f0 = ((l.map toP).getD b.length (0, 0)).1 ∧ (rd_T28 l (b.length : Int)).f1 = ((l.map toP).getD b.length (0, 0)).2 := by
      unfold rd_T28
      rw [Int.toNat_natCast]
      simp [List.getD_eq_getElem?_getD, hbl, toP]
    obtain ⟨lo, hlo⟩ : ∃ lo, ((l.map toP).getD b.length (0, 0)).1 = lo := ⟨_, rfl⟩
    obtain ⟨hi, hhi⟩ : ∃ hi, ((l.map toP).getD b.length (0, 0)).2 = hi := ⟨_, rfl⟩
    have hb3 := hok _ (getD_mem (l.map toP) b.length (by simp; omega))
    obtain ⟨k1, k2, k3⟩ := hb3
    rw [hlo] at k1 k2
    rw [hhi] at k2 k3
    have hIn : ∀ o, InS (l.map toP) b.length o ↔ lo ≤ o ∧ o ≤ hi := fun o => by unfold InS; rw [hlo, hhi]
    -- the loop over offsets
    have loop : ∀ (e : Nat) (o : Int), lo ≤ o → o + e = hi + 1 → ∃ r, Ev (fun k => furrowworksref04_can.l0 k l most b b.length o) r ∧ (r = true ↔ ∃ o', o ≤ o' ∧ o' ≤ hi ∧ (b.length < 2 ∨ bendI (b.getD (b.length - 2) 0) (b.getD (b.length - 1) 0) o' ≤ most) ∧ GoodX (l.map toP) most (b ++ [o'])) := by
      intro e
      induction e with
      | zero =>
        intro o h1 h2
        refine ⟨false, ⟨1, fun k hk => ?_⟩, by simp; intro o' h3 h4; omega⟩
        obtain ⟨k, rfl⟩ : ∃ m, k = m + 1 := ⟨k - 1, by omega⟩
        simp only [furrowworksref04_can.l0]
        rw [hsp.2, hhi, if_pos (by omega), if_pos (by omega), if_neg (by omega)]
      | succ e ih =>
        intro o h1 h2
        obtain ⟨r1, hr1, hr2⟩ := ih (o + 1) (by omega) (by omega)
        obtain ⟨r3, hr3, hr4⟩ := can_go l most hl hok d (b ++ [o]) (by simp; omega) (fun i hi' => by
          simp only [List.length_append, List.length_singleton] at hi'
          by_cases e' : i = b.length
          · subst e'
            rw [show (b ++ [o]).getD b.length 0 = o by simp [List.getD_eq_getElem?_getD]]
            exact (hIn o).2 ⟨h1, by omega⟩
          · rw [show (b ++ [o]).getD i 0 = b.getD i 0 by simp only [List.getD_eq_getElem?_getD, List.getElem?_append_left (show i < b.length by omega)]]
            exact hin i (by omega))
        obtain ⟨c, hc⟩ : ∃ c, c = (decide (b.length < 2) || decide (bendI (b.getD (b.length - 2) 0) (b.getD (b.length - 1) 0) o ≤ most)) := ⟨_, rfl⟩
        have hcc : c = true ↔ (b.length < 2 ∨ bendI (b.getD (b.length - 2) 0) (b.getD (b.length - 1) 0) o ≤ most) := by rw [hc]; simp
        have hwo : wrap64 (o + 1) = o + 1 := wrap_id (by omega) (by omega)
        -- the joint
        have hj : Ev (fun k => furrowworksref04_can.j1 k l most b b.length o (b ++ [o]) c) (if c = true ∧ r3 = true then true else r1) := by
          by_cases hct : c = true
          · refine Ev.step (f := fun k => (furrowworksref04_can.f k l most (b ++ [o])).bind fun t => if t = true then some true else furrowworksref04_can.l0 k l most b b.length (o + 1)) (fun k => ?_) (Ev.bind hr3 ?_)
            · simp only [furrowworksref04_can.j1, hwo]
              rw [if_pos hct]
            · by_cases h3 : r3 = true
              · simp only [h3, if_true, hct, and_self]; exact Ev.now true
              · have h3' : r3 = false := by simpa using h3
                simp only [h3', Bool.false_eq_true, if_false, and_false]; exact hr1
          · refine Ev.step (f := fun k => furrowworksref04_can.l0 k l most b b.length (o + 1)) (fun k => ?_) (by simp only [hct, false_and, if_false]; exact hr1)
            simp only [furrowworksref04_can.j1, hwo]
            rw [if_neg hct]
        refine ⟨if c = true ∧ r3 = true then true else r1, Ev.step (f := fun k => furrowworksref04_can.j1 k l most b b.length o (b ++ [o]) c) (fun k => ?_) hj, ?_⟩
        · simp only [furrowworksref04_can.l0]
          rw [hsp.2, hhi, if_pos (by omega), if_pos (by omega), if_pos (by omega)]
          simp only [Option.bind_some, List.nil_append, List.length_nil, Nat.zero_add]
          rw [if_pos (by omega), if_pos (by omega)]
          by_cases h2' : b.length < 2
          · rw [if_pos (by omega)]
            have : c = true := hcc.2 (.inl h2')
            rw [this]
          · rw [if_neg (by omega)]
            have e1 : wrap64 ((b.length : Int) - 1) = ((b.length - 1 : Nat) : Int) := by unfold wrap64; omega
            have gl : ∀ i, i < b.length → (b ++ [o]).getD i 0 = b.getD i 0 := fun i hi => by simp only [List.getD_eq_getElem?_getD, List.getElem?_append_left hi]
            have hbe := bend_is (b ++ [o]) (b.length - 1) (by simp; omega) (by omega) (by simp; omega) (fun x hx => by
              rcases List.mem_append.1 hx with hx | hx
              · exact hbd x hx
              · rw [List.mem_singleton.1 hx]; omega)
            rw [show b.length - 1 - 1 = b.length - 2 by omega, show b.length - 1 + 1 = b.length by omega, gl _ (by omega), gl _ (by omega), show (b ++ [o]).getD b.length 0 = o by simp [List.getD_eq_getElem?_getD]] at hbe
            rw [e1, hbe, Option.bind_some]
            have : c = decide (bendI (b.getD (b.length - 2) 0) (b.getD (b.length - 1) 0) o ≤ most) := by rw [hc, decide_eq_false h2']; rfl
            rw [this]
        · constructor
          · intro h
            by_cases hc3 : c = true ∧ r3 = true
            · exact ⟨o, Int.le_refl _, by omega, hcc.1 hc3.1, hr4.1 hc3.2⟩
            · rw [if_neg hc3] at h
              obtain ⟨o', q1, q2, q3, q4⟩ := hr2.1 h
              exact ⟨o', by omega, q2, q3, q4⟩
          · rintro ⟨o', q1, q2, q3, q4⟩
            by_cases hc3 : c = true ∧ r3 = true
            · rw [if_pos hc3]
            · rw [if_neg hc3]
              refine hr2.2 ⟨o', ?_, q2, q3, q4⟩
              by_cases e' : o' = o
              · subst e'
                exact absurd ⟨hcc.2 q3, hr4.2 q4⟩ hc3
              · omega
    obtain ⟨r, h1, h2⟩ := loop (hi + 1 - lo).toNat lo (Int.le_refl _) (by omega)
    refine ⟨r, Ev.step (f := fun k => furrowworksref04_can.l0 k l most b b.length lo) (fun k => ?_) h1, ?_⟩
    · simp only [furrowworksref04_can.f]
      rw [if_neg (by omega), if_pos (by omega), if_pos (by omega), hsp.1, hlo]
    · rw [h2, good_step (by simp; omega)]
      constructor
      · rintro ⟨o, q1, q2, q3, q4⟩
        exact ⟨o, (hIn o).2 ⟨q1, q2⟩, q3, q4⟩
      · rintro ⟨o, q1, q3, q4⟩
        obtain ⟨q1, q2⟩ := (hIn o).1 q1
        exact ⟨o, q1, q2, q3, q4⟩
theorem can_ev (l : List S28) (most : Int) (hl : l.length ≤ 8) (hok : ∀ x ∈ l.map toP, okSpan x) : Ev (fun k => furrowworksref04_can.f k l most []) (canB (l.map toP) (upP most)) := by
  obtain ⟨r, h1, h2⟩ := can_go l most hl hok l.length [] (by simp) (fun i hi => by simp at hi)
  have : r = canB (l.map toP) (upP most) := by
    rw [Bool.eq_iff_iff, h2, canB_iff _ _ hok]
    constructor
    · rintro ⟨x, hT, _, hm⟩
      exact ⟨x, hT, fun n h1 h2 => decide_eq_true (hm n h1 (by simp) h2)⟩
    · rintro ⟨x, hT, hm⟩
      exact ⟨x, hT, fun i hi => by simp at hi, fun m h1 _ h3 => of_decide_eq_true (hm m h1 h3)⟩
  rw [← this]
  exact h1
end Go.Proofs.Ytafmgmaelnpehaa
end

section
set_option linter.unusedVariables false
set_option linter.unusedSimpArgs false
namespace Go.Proofs.Ytafmgmaelnpehaa
open Go.RowKit Go.TL Go.Shelf Go.Fu
attribute [local go_sem] Oper.semAt_some
open PFurrowAsks
theorem rd_d' (F : Fur) (k : Nat) : F.d k = ((rd_T28 F.l2 k).f0, (rd_T28 F.l2 k).f1) := by simp [Fur.d, rd_T28, toP, z28, z28']
theorem rd_wd' (F : Fur) (k : Nat) : F.wd k = ((rd_T28 F.l1 k).f0, (rd_T28 F.l1 k).f1) := by simp [Fur.wd, rd_T28, toP, z28, z28']
def SoI (F : Fur) (w : World) (b4 j : Nat) (t : Array Value) (W : World) : Prop :=
  ∃ k : Nat, k ≤ F.l1.length ∧ j = F.l1.length - k ∧ F.At W ∧ Below w.heap.size w W ∧ Box3 W w.heap.size 24 F.s0 F.s1 F.s2 ∧ Box2 W (w.heap.size + 1) 28 0 0 ∧ Box2 W b4 28 (sumL (listOf F.soil F.l2.length) k).1 (sumL (listOf F.soil F.l2.length) k).2 ∧ w.heap.size + 1 < b4 ∧
    Slots [none, some (.pointer (some ⟨w.heap.size, 0, none⟩)), some (.pointer (some ⟨w.heap.size + 1, 0, none⟩)), none, some (.pointer (some ⟨b4, 0, none⟩)), some (.int .i64 k), none, none, none, none, none, none, none, none, none, none, none, none, none, none, none, none, none, none, none, none, none, none, none, none, none, none, none, none, none, none, none, none, none, none, none, none, none, none, none, none, none, none] t
def SoM (F : Fur) (w : World) (b4 k b6 b7 : Nat) (p q : Int) (t : Array Value) (W : World) : Prop :=
  F.At W ∧ Below w.heap.size w W ∧ Box3 W w.heap.size 24 F.s0 F.s1 F.s2 ∧ Box2 W (w.heap.size + 1) 28 0 0 ∧ Box2 W b4 28 p q ∧ Box2 W b6 28 (rd_T28 F.l1 k).f0 (rd_T28 F.l1 k).f1 ∧ Box2 W b7 28 (rd_T28 F.l2 k).f0 (rd_T28 F.l2 k).f1 ∧
    Slots [none, some (.pointer (some ⟨w.heap.size, 0, none⟩)), some (.pointer (some ⟨w.heap.size + 1, 0, none⟩)), none, some (.pointer (some ⟨b4, 0, none⟩)), some (.int .i64 k), some (.pointer (some ⟨b6, 0, none⟩)), some (.pointer (some ⟨b7, 0, none⟩)), none, none, none, none, none, none, none, none, none, none, none, none, none, none, none, none, none, none, none, none, none, none, none, none, none, none, none, none, none, none, none, none, none, none, none, none, none, none, none, none] t
set_option maxRecDepth 100000 in
set_option maxHeartbeats 1000000 in
theorem so_spans {F : Fur} {w W : World} {b4 k : Nat} {p q : Int} (hF : F.At W) (hB : Below w.heap.size w W) (h3 : Box3 W w.heap.size 24 F.s0 F.s1 F.s2) (h2 : Box2 W (w.heap.size + 1) 28 0 0) (h4 : Box2 W b4 28 p q) (k1 : k < F.l1.length) (k2 : k < F.l2.length) (t : Array Value)
    (hSl : Slots [none, some (.pointer (some ⟨w.heap.size, 0, none⟩)), some (.pointer (some ⟨w.heap.size + 1, 0, none⟩)), none, some (.pointer (some ⟨b4, 0, none⟩)), some (.int .i64 k), none, none, none, none, none, none, none, none, none, none, none, none, none, none, none, none, none, none, none, none, none, none, none, none, none, none, none, none, none, none, none, none, none, none, none, none, none, none, none, none, none, none] t) :
    Exec Try.prog none (sub (Try.f29.body.getD .skip) [1, 1, 1, 0, 1, 0, 0, 1, 0, 0, 0]) t W (andThen (fun t W => ∃ b6 b7, SoM F w b4 k b6 b7 p q t W) fun _ _ _ => False) := by
  obtain ⟨x, hx⟩ := Slots.open_ hSl; simp only [fill, Nat.reduceAdd] at hx; subst hx; clear hSl
  obtain ⟨a1, hA1, c10, c11⟩ := at_T28 hF.r1 k (by omega) (by omega)
  obtain ⟨a2, hA2, c20, c21⟩ := at_T28 hF.r2 k (by omega) (by omega)
  simp only [Int.toNat_natCast] at c10 c11 c20 c21
  have e1 : F.s1 = .slice (some a1) F.l1.length F.c1 := by unfold Fur.s1; rw [hA1]
  have e2 : F.s2 = .slice (some a2) F.l2.length F.c2 := by unfold Fur.s2; rw [hA2]
  have hF3 := h3
  have e0 : ∃ v0, F.s0 = v0 := ⟨_, rfl⟩
  obtain ⟨v0, e0⟩ := e0
  rw [e0, e1, e2] at h3
  generalize hp1 : rd_T28 F.l1 k = p1 at *
  generalize hp2 : rd_T28 F.l2 k = p2 at *
  obtain ⟨x1, y1⟩ := p1
  obtain ⟨x2, y2⟩ := p2
  simp only at c10 c11 c20 c21
  have g : ∀ {W' : World} {a : Addr} {v : Value}, Below W.heap.size W W' → W.cell? a = some v → W'.cell? a = some v := fun hb hc => (Grow.of_below (B := 0) hb).cell hc
  have hu22 := Try.underlying22
  have hu24 := Try.underlying24
  have hu28 := Try.underlying28
  refine region_tree (c := (sub (Try.f29.body.getD .skip) [1, 1, 1, 0, 1, 0, 0, 1, 0, 0, 0])) (id := 7) (.one 0 true (.one 1 true (.one 2 true (.one 3 true (.one 4 true (.one 5 true (.one 6 true (.one 7 true (.one 8 true (.one 9 true (.two 10 11 (.one 11 false (.one 12 false (.one 13 false (.nil)))) (.one 10 false (.one 12 false (.one 13 false (.nil))))))))))))))) (Opq (regOps (sub (Try.f29.body.getD .skip) [1, 1, 1, 0, 1, 0, 0, 1, 0, 0, 0]))) rfl (by kernel_rfl) (by kernel_rfl) (by kernel_rfl) (by kernel_rfl) (by kernel_rfl) (by kernel_rfl) [0, 1, 0, 6, 8, 0, 32, 0, 192, 256, 0, 0, 3103, 8191] (by kernel_rfl) (by kernel_rfl) (fun W' => Below W.heap.size W W') (fun _ _ _ => False) (fun _ _ _ h => h.elim) (fun _ _ _ _ _ _ _ _ h => h.elim) fun ds Q' hQn hQp => ?_
  have hS : Below W.heap.size W W.drew := (Below.refl _ W).drew
  have d1 := h3.cell1
  have d2 := h3.cell2
  obtain ⟨X, hX⟩ : ∃ X, X = ((W.drew.alloc (.cells #[.int .i64 0, .int .i64 0] 28)).alloc (.cells #[.int .i64 0, .int .i64 0] 28)) := ⟨_, rfl⟩
  have hXb : Below W.heap.size W X := by rw [hX]; exact (hS.alloc hS.size _).alloc (by simp) _
  have hx0 : Box2 X W.heap.size 28 0 0 := by rw [hX]; show Box2 _ W.drew.heap.size 28 0 0; (simp only [Boxed, Box2, heap_alloc_at, heap_set_at, World.size_alloc, World.size_setCell]; repeat (first | rfl | rw [if_pos (by omega)] | rw [if_neg (by omega)]))
  have hx1 : Box2 X (W.heap.size + 1) 28 0 0 := by rw [hX]; show Box2 _ (W.drew.heap.size + 1) 28 0 0; (simp only [Boxed, Box2, heap_alloc_at, heap_set_at, World.size_alloc, World.size_setCell]; repeat (first | rfl | rw [if_pos (by omega)] | rw [if_neg (by omega)]))
  refine tr_take ⟨(Op.fieldAddr 24 (Operand.tmp 1) 1), some 20, 0, true, none⟩ (.pointer (some ⟨w.heap.size, 1, none⟩)) (by kernel_rfl) rfl (by first | exact rfl | trivial) (fun wq hq => ?_) hS ?_; (focus (simp [go_sem, mkO]; done)); simp only [Act.put, Array.getInternal_eq_getElem, List.getElem_toArray, List.getElem_cons_succ, List.getElem_cons_zero, List.setIfInBounds_toArray, List.set_cons_succ, List.set_cons_zero]
  refine tr_take ⟨(Op.load 22 (Operand.tmp 20)), some 21, 22, true, none⟩ (.slice (some a1) F.l1.length F.c1) (by kernel_rfl) rfl (by first | exact rfl | trivial) (fun wq hq => ?_) hS ?_; (focus (simp [go_sem, mkO, g hq d1]; done)); simp only [Act.put, Array.getInternal_eq_getElem, List.getElem_toArray, List.getElem_cons_succ, List.getElem_cons_zero, List.setIfInBounds_toArray, List.set_cons_succ, List.set_cons_zero]
  refine tr_take ⟨(Op.move (Operand.tmp 5)), some 22, 3, true, none⟩ (.int .i64 k) (by kernel_rfl) rfl (by first | exact rfl | trivial) (fun wq hq => ?_) hS ?_; (focus (exact rfl)); simp only [Act.put, Array.getInternal_eq_getElem, List.getElem_toArray, List.getElem_cons_succ, List.getElem_cons_zero, List.setIfInBounds_toArray, List.set_cons_succ, List.set_cons_zero]
  refine tr_take ⟨(Op.indexAddr 22 (Operand.tmp 21) (Operand.tmp 22)), some 23, 0, true, none⟩ (.pointer (some (a1.add (k * 2)))) (by kernel_rfl) rfl (by first | exact rfl | trivial) (fun wq hq => ?_) hS ?_; (focus (simp [go_sem, mkO, hu22, k1]; done)); simp only [Act.put, Array.getInternal_eq_getElem, List.getElem_toArray, List.getElem_cons_succ, List.getElem_cons_zero, List.setIfInBounds_toArray, List.set_cons_succ, List.set_cons_zero]
  refine tr_take ⟨(Op.load 28 (Operand.tmp 23)), some 24, 28, true, none⟩ (.agg #[.int .i64 x1, .int .i64 y1]) (by kernel_rfl) rfl (by first | exact rfl | trivial) (fun wq hq => ?_) hS ?_; (focus (simp [go_sem, mkO, hu28, g hq c10, g hq c11]; done)); simp only [Act.put, Array.getInternal_eq_getElem, List.getElem_toArray, List.getElem_cons_succ, List.getElem_cons_zero, List.setIfInBounds_toArray, List.set_cons_succ, List.set_cons_zero]
  refine tr_take ⟨(Op.fieldAddr 24 (Operand.tmp 1) 2), some 25, 0, true, none⟩ (.pointer (some ⟨w.heap.size, 2, none⟩)) (by kernel_rfl) rfl (by first | exact rfl | trivial) (fun wq hq => ?_) hS ?_; (focus (simp [go_sem, mkO]; done)); simp only [Act.put, Array.getInternal_eq_getElem, List.getElem_toArray, List.getElem_cons_succ, List.getElem_cons_zero, List.setIfInBounds_toArray, List.set_cons_succ, List.set_cons_zero]
  refine tr_take ⟨(Op.load 22 (Operand.tmp 25)), some 26, 22, true, none⟩ (.slice (some a2) F.l2.length F.c2) (by kernel_rfl) rfl (by first | exact rfl | trivial) (fun wq hq => ?_) hS ?_; (focus (simp [go_sem, mkO, g hq d2]; done)); simp only [Act.put, Array.getInternal_eq_getElem, List.getElem_toArray, List.getElem_cons_succ, List.getElem_cons_zero, List.setIfInBounds_toArray, List.set_cons_succ, List.set_cons_zero]
  refine tr_take ⟨(Op.move (Operand.tmp 5)), some 27, 3, true, none⟩ (.int .i64 k) (by kernel_rfl) rfl (by first | exact rfl | trivial) (fun wq hq => ?_) hS ?_; (focus (exact rfl)); simp only [Act.put, Array.getInternal_eq_getElem, List.getElem_toArray, List.getElem_cons_succ, List.getElem_cons_zero, List.setIfInBounds_toArray, List.set_cons_succ, List.set_cons_zero]
  refine tr_take ⟨(Op.indexAddr 22 (Operand.tmp 26) (Operand.tmp 27)), some 28, 0, true, none⟩ (.pointer (some (a2.add (k * 2)))) (by kernel_rfl) rfl (by first | exact rfl | trivial) (fun wq hq => ?_) hS ?_; (focus (simp [go_sem, mkO, hu22, k2]; done)); simp only [Act.put, Array.getInternal_eq_getElem, List.getElem_toArray, List.getElem_cons_succ, List.getElem_cons_zero, List.setIfInBounds_toArray, List.set_cons_succ, List.set_cons_zero]
  refine tr_take ⟨(Op.load 28 (Operand.tmp 28)), some 29, 28, true, none⟩ (.agg #[.int .i64 x2, .int .i64 y2]) (by kernel_rfl) rfl (by first | exact rfl | trivial) (fun wq hq => ?_) hS ?_; (focus (simp [go_sem, mkO, hu28, g hq c20, g hq c21]; done)); simp only [Act.put, Array.getInternal_eq_getElem, List.getElem_toArray, List.getElem_cons_succ, List.getElem_cons_zero, List.setIfInBounds_toArray, List.set_cons_succ, List.set_cons_zero]
  refine ⟨?_, ?_⟩
  · refine tr_make ⟨(Op.alloc 28), some 6, 0, false, none⟩ (.pointer (some ⟨W.heap.size, 0, none⟩)) (W.drew.alloc (.cells #[.int .i64 0, .int .i64 0] 28)) (by kernel_rfl) rfl (by first | exact rfl | trivial) (by simp [go_sem, mkO, hu28]) (hS.alloc hS.size _) ?_; simp only [Act.put, Array.getInternal_eq_getElem, List.getElem_toArray, List.getElem_cons_succ, List.getElem_cons_zero, List.setIfInBounds_toArray, List.set_cons_succ, List.set_cons_zero]
    replace hS := hS.alloc hS.size (.cells #[.int .i64 0, .int .i64 0] 28)
    refine tr_make ⟨(Op.alloc 28), some 7, 0, false, none⟩ (.pointer (some ⟨W.heap.size + 1, 0, none⟩)) ((W.drew.alloc (.cells #[.int .i64 0, .int .i64 0] 28)).alloc (.cells #[.int .i64 0, .int .i64 0] 28)) (by kernel_rfl) rfl (by first | exact rfl | trivial) (by simp [go_sem, mkO, hu28]) (hS.alloc hS.size _) ?_; simp only [Act.put, Array.getInternal_eq_getElem, List.getElem_toArray, List.getElem_cons_succ, List.getElem_cons_zero, List.setIfInBounds_toArray, List.set_cons_succ, List.set_cons_zero]
    rw [← hX]
    replace hS := hXb
    have s0 := hx0.cell0
    have s1 := hx0.cell1
    have s2 := hx0.frozen
    refine tr_store ⟨(Op.store 28 (Operand.tmp 6) (Operand.tmp 24)), none, 0, false, none⟩ (put2 X (W.heap.size) x1 y1) (by kernel_rfl) rfl (by first | exact rfl | trivial) (by simp [go_sem, mkO, put2, s0, s1, s2, hu28]) (hS.put2 (by omega) _ _) ?_; simp only [Act.put, Array.getInternal_eq_getElem, List.getElem_toArray, List.getElem_cons_succ, List.getElem_cons_zero, List.setIfInBounds_toArray, List.set_cons_succ, List.set_cons_zero]
    clear s0 s1 s2
    replace hS := hS.put2 (b := W.heap.size) (by omega) x1 y1
    have k1_0 := hx0.put2 x1 y1
    have k1_1 := hx1.put2_far (b := W.heap.size) (by omega) x1 y1
    generalize (put2 X (W.heap.size) x1 y1) = Y1 at *
    have s0 := k1_1.cell0
    have s1 := k1_1.cell1
    have s2 := k1_1.frozen
    refine tr_store ⟨(Op.store 28 (Operand.tmp 7) (Operand.tmp 29)), none, 0, false, none⟩ (put2 Y1 (W.heap.size + 1) x2 y2) (by kernel_rfl) rfl (by first | exact rfl | trivial) (by simp [go_sem, mkO, put2, s0, s1, s2, hu28]) (hS.put2 (by omega) _ _) ?_; simp only [Act.put, Array.getInternal_eq_getElem, List.getElem_toArray, List.getElem_cons_succ, List.getElem_cons_zero, List.setIfInBounds_toArray, List.set_cons_succ, List.set_cons_zero]
    clear s0 s1 s2
    replace hS := hS.put2 (b := W.heap.size + 1) (by omega) x2 y2
    have k2_0 := k1_0.put2_far (b := W.heap.size + 1) (by omega) x2 y2
    have k2_1 := k1_1.put2 x2 y2
    generalize (put2 Y1 (W.heap.size + 1) x2 y2) = Y2 at *
    refine hQn _ _ (Keep.of_below hS) ⟨W.heap.size, W.heap.size + 1, hF.below hS, hB.trans (hS.mono hB.size), (hS.block _ hF3.lt).trans hF3, (hS.block _ h2.lt).trans h2, (hS.block _ h4.lt).trans h4, by rw [hp1]; exact k2_0, by rw [hp2]; exact k2_1, (by simp only [Slots, Fits, and_self])⟩
  · refine tr_make ⟨(Op.alloc 28), some 7, 0, false, none⟩ (.pointer (some ⟨W.heap.size, 0, none⟩)) (W.drew.alloc (.cells #[.int .i64 0, .int .i64 0] 28)) (by kernel_rfl) rfl (by first | exact rfl | trivial) (by simp [go_sem, mkO, hu28]) (hS.alloc hS.size _) ?_; simp only [Act.put, Array.getInternal_eq_getElem, List.getElem_toArray, List.getElem_cons_succ, List.getElem_cons_zero, List.setIfInBounds_toArray, List.set_cons_succ, List.set_cons_zero]
    replace hS := hS.alloc hS.size (.cells #[.int .i64 0, .int .i64 0] 28)
    refine tr_make ⟨(Op.alloc 28), some 6, 0, false, none⟩ (.pointer (some ⟨W.heap.size + 1, 0, none⟩)) ((W.drew.alloc (.cells #[.int .i64 0, .int .i64 0] 28)).alloc (.cells #[.int .i64 0, .int .i64 0] 28)) (by kernel_rfl) rfl (by first | exact rfl | trivial) (by simp [go_sem, mkO, hu28]) (hS.alloc hS.size _) ?_; simp only [Act.put, Array.getInternal_eq_getElem, List.getElem_toArray, List.getElem_cons_succ, List.getElem_cons_zero, List.setIfInBounds_toArray, List.set_cons_succ, List.set_cons_zero]
    rw [← hX]
    replace hS := hXb
    have s0 := hx1.cell0
    have s1 := hx1.cell1
    have s2 := hx1.frozen
    refine tr_store ⟨(Op.store 28 (Operand.tmp 6) (Operand.tmp 24)), none, 0, false, none⟩ (put2 X (W.heap.size + 1) x1 y1) (by kernel_rfl) rfl (by first | exact rfl | trivial) (by simp [go_sem, mkO, put2, s0, s1, s2, hu28]) (hS.put2 (by omega) _ _) ?_; simp only [Act.put, Array.getInternal_eq_getElem, List.getElem_toArray, List.getElem_cons_succ, List.getElem_cons_zero, List.setIfInBounds_toArray, List.set_cons_succ, List.set_cons_zero]
    clear s0 s1 s2
    replace hS := hS.put2 (b := W.heap.size + 1) (by omega) x1 y1
    have k1_0 := hx0.put2_far (b := W.heap.size + 1) (by omega) x1 y1
    have k1_1 := hx1.put2 x1 y1
    generalize (put2 X (W.heap.size + 1) x1 y1) = Y1 at *
    have s0 := k1_0.cell0
    have s1 := k1_0.cell1
    have s2 := k1_0.frozen
    refine tr_store ⟨(Op.store 28 (Operand.tmp 7) (Operand.tmp 29)), none, 0, false, none⟩ (put2 Y1 (W.heap.size) x2 y2) (by kernel_rfl) rfl (by first | exact rfl | trivial) (by simp [go_sem, mkO, put2, s0, s1, s2, hu28]) (hS.put2 (by omega) _ _) ?_; simp only [Act.put, Array.getInternal_eq_getElem, List.getElem_toArray, List.getElem_cons_succ, List.getElem_cons_zero, List.setIfInBounds_toArray, List.set_cons_succ, List.set_cons_zero]
    clear s0 s1 s2
    replace hS := hS.put2 (b := W.heap.size) (by omega) x2 y2
    have k2_0 := k1_0.put2 x2 y2
    have k2_1 := k1_1.put2_far (b := W.heap.size) (by omega) x2 y2
    generalize (put2 Y1 (W.heap.size) x2 y2) = Y2 at *
    refine hQn _ _ (Keep.of_below hS) ⟨W.heap.size + 1, W.heap.size, hF.below hS, hB.trans (hS.mono hB.size), (hS.block _ hF3.lt).trans hF3, (hS.block _ h2.lt).trans h2, (hS.block _ h4.lt).trans h4, by rw [hp1]; exact k2_1, by rw [hp2]; exact k2_0, (by simp only [Slots, Fits, and_self])⟩
set_option maxRecDepth 100000 in
set_option maxHeartbeats 1000000 in
theorem refSoil_c (F : Fur) (w : World) (h : F.At w) :
    Calls Try.prog 29 #[F.val] w fun e w' => e = .returned (.tuple #[.agg #[.int .i64 (soilV F.va F).1.1, .int .i64 (soilV F.va F).1.2], .int .i64 (soilV F.va F).2]) ∧ Below w.heap.size w w' := by
  refine calls_of_exec Try.func29 rfl ?_
  simp only [Try.ntmps29, List.size_toArray, List.length_cons, List.length_nil, Nat.reduceAdd, Nat.reduceSub, Array.replicate_succ, Array.replicate_zero, List.push_toArray, List.append_toArray, List.nil_append, List.cons_append]
  simp only [Fur.val]
  refine exec_seq (exec_region_o fun ds => ?_)
  gi_wp2
  refine eq_mk (((Keep.refl w).alloc _).alloc _) ?_
  show Exec _ _ _ _ _ _
  have b1 : Box3 ((w.alloc (.cells #[F.s0, F.s1, F.s2] 24)).alloc (.cells #[.int .i64 0, .int .i64 0] 28)) w.heap.size 24 F.s0 F.s1 F.s2 := (Box3.new w 24 F.s0 F.s1 F.s2).grow (Grow.alloc 0 _ _)
  have b2 : Box2 ((w.alloc (.cells #[F.s0, F.s1, F.s2] 24)).alloc (.cells #[.int .i64 0, .int .i64 0] 28)) (w.heap.size + 1) 28 0 0 := by (simp only [Boxed, Box2, heap_alloc_at, heap_set_at, World.size_alloc, World.size_setCell]; repeat (first | rfl | rw [if_pos (by omega)] | rw [if_neg (by omega)]))
  have hB := ((Below.refl w.heap.size w).alloc (Nat.le_refl _) (.cells #[F.s0, F.s1, F.s2] 24)).alloc (by simp) (.cells #[.int .i64 0, .int .i64 0] 28)
  generalize (w.alloc (.cells #[F.s0, F.s1, F.s2] 24)).alloc (.cells #[.int .i64 0, .int .i64 0] 28) = V at *
  have hF := h.below hB
  have c0 := b1.cell0
  have c1 := b1.cell1
  have c2 := b1.cell2
  have fin : ∀ (a b e : Int) (t : Array Value) (W W' : World), t[2]? = some (.pointer (some ⟨w.heap.size + 1, 0, none⟩)) → t[3]? = some (.int .i64 e) → Box2 W (w.heap.size + 1) 28 a b → Below w.heap.size w W → soilV F.va F = ((a, b), e) → Grow w.heap.size W W' →
      ∃ u, (results Try.f29 t).run Try.prog W' = .ok u W' ∧ Ending.returned u = .returned (.tuple #[.agg #[.int .i64 (soilV F.va F).1.1, .int .i64 (soilV F.va F).1.2], .int .i64 (soilV F.va F).2]) ∧ Below w.heap.size w W' := by
    intro a b e t W W' t2 t3 hb hW hv hG
    have h2 := hG.box2 hb
    have k0 := h2.cell0
    have k1 := h2.cell1
    rw [hv]
    exact ⟨.tuple #[.agg #[.int .i64 a, .int .i64 b], .int .i64 e], by simp [results, Try.f29, go_sem, t2, t3, k0, k1], rfl, hW.trans (hG.below (Nat.le_refl _) hW.size)⟩
  have fin2 : ∀ (a b e : Int) (t : Array Value) (W W' : World), t[2]? = some (.pointer (some ⟨w.heap.size + 1, 0, none⟩)) → t[3]? = some (.int .i64 e) → Box2 W (w.heap.size + 1) 28 a b → Below w.heap.size w W → soilV F.va F = ((a, b), e) → Grow w.heap.size W W' →
      ∃ u, (results Try.f29 t).run Try.prog W' = .ok u W' ∧ u = .tuple #[.agg #[.int .i64 (soilV F.va F).1.1, .int .i64 (soilV F.va F).1.2], .int .i64 (soilV F.va F).2] ∧ Below w.heap.size w W' := by
    intro a b e t W W' t2 t3 hb hW hv hG
    obtain ⟨u, h1, h2, h3⟩ := fin a b e t W W' t2 t3 hb hW hv hG
    exact ⟨u, h1, by injection h2, h3⟩
  obtain ⟨vb, hvb⟩ : ∃ b, F.va = b := ⟨_, rfl⟩
  have hfur := furrowworksref04_Furrow.calls 20 F.A0 F.c0 F.l0 F.A1 F.c1 F.l1 F.A2 F.c2 F.l2 vb V hF.r0 hF.h0 hF.r1 hF.h1 hF.r2 hF.h2 (by rw [← hvb]; exact refFurrow_is F.l0 F.l1 F.l2)
  have HV := Lib.hid hvb
  clear hvb
  refine exec_seq (exec_seq (exec_region_o fun ds => ?_))
  gi_wp2_with fail
  refine ⟨trivial, rfl, (callsIn_wide.2 hfur).mono ?_⟩
  rintro e X ⟨rfl, hx⟩
  have hK := Keep.of_below hx
  replace b1 : Box3 X w.heap.size 24 F.s0 F.s1 F.s2 := (hx.block _ b1.lt).trans b1
  replace b2 : Box2 X (w.heap.size + 1) 28 0 0 := (hx.block _ b2.lt).trans b2
  replace hF := hF.below hx
  replace hB := hB.trans (hx.mono hB.size)
  clear hx hfur c0 c1 c2
  gi_wp2
  refine eq_mk hK ?_
  show Exec _ _ _ _ _ _
  clear hK
  clear V
  cases vb with
  | false =>
    refine exec_cond (b := true) (by simp [ev, go_sem, Act.eval]) (fun _ => ?_) (fun h => by cases h)
    have k0 := b2.cell0
    have k1 := b2.cell1
    have k2 := b2.frozen
    refine exec_seq (exec_region_o fun ds => ?_)
    gi_wp2
    have b2' : Box2 ((X.setCell ⟨w.heap.size + 1, 0, none⟩ (.int .i64 0)).setCell ⟨w.heap.size + 1, 1, none⟩ (.int .i64 0)) (w.heap.size + 1) 28 0 0 := by (simp only [Boxed, Box2, heap_alloc_at, heap_set_at, World.size_alloc, World.size_setCell]; repeat (first | rfl | exact b2 | rw [if_pos (by omega)] | rw [if_neg (by omega)] | rw [show _ = _ from b2]))
    have hB' : Below w.heap.size w ((X.setCell ⟨w.heap.size + 1, 0, none⟩ (.int .i64 0)).setCell ⟨w.heap.size + 1, 1, none⟩ (.int .i64 0)) := (hB.setCell (by show w.heap.size ≤ w.heap.size + 1; omega) _).setCell (by show w.heap.size ≤ w.heap.size + 1; omega) _
    refine eq_mk (((Keep.refl _).setCell _ _).setCell _ _) (exec_ret ⟨.inr rfl, fun W' hG => by first | exact fin 0 0 1 _ _ _ rfl rfl b2' hB' (by rw [HV.out]; rfl) hG | exact fin2 0 0 1 _ _ _ rfl rfl b2' hB' (by rw [HV.out]; rfl) hG⟩)
  | true =>
  refine exec_cond (b := false) (by simp [ev, go_sem, Act.eval]) (fun h => by cases h) (fun _ => exec_skip ?_)
  show Exec _ _ _ _ _ _
  have hok := Fur.soilOk HV.out
  have hlt := b2.lt
  refine exec_seq (exec_region_o fun ds => ?_)
  gi_wp2
  refine eq_mk ((Keep.refl _).alloc _) ?_
  show Exec _ _ _ _ _ _
  have ha := (Below.refl X.heap.size X).alloc (Nat.le_refl _) (.cells #[.int .i64 0, .int .i64 0] 28)
  have b4 := Box2.new X 28 0 0
  replace b1 : Box3 _ w.heap.size 24 F.s0 F.s1 F.s2 := (ha.block _ b1.lt).trans b1
  replace b2 : Box2 _ (w.heap.size + 1) 28 0 0 := (ha.block _ b2.lt).trans b2
  replace hF := hF.below ha
  replace hB := hB.trans (ha.mono hB.size)
  generalize X.alloc (.cells #[.int .i64 0, .int .i64 0] 28) = Y at *
  clear ha
  generalize X.heap.size = b4n at *
  clear X
  refine exec_seq (exec_seq (exec_region_o fun ds => ?_))
  gi_wp2
  refine eq_mk (Keep.refl _) ?_
  show Exec _ _ _ _ _ _
  refine exec_block ?_
  refine exec_loop (SoI F w b4n) F.l1.length ⟨0, by omega, by omega, hF, hB, b1, b2, b4, hlt, by simp [Slots, Fits]⟩ ?_
  clear hF hB b1 b2 b4
  clear Y
  rintro j t W ⟨k, hk, rfl, hF, hB, b1, b2, b4, hb4, hSl⟩
  obtain ⟨x, hx⟩ := Slots.open_ hSl; simp only [fill, Nat.reduceAdd] at hx; subst hx; clear hSl
  have c1 := b1.cell1
  have hs1 : F.s1 = .slice F.A1 F.l1.length F.c1 := rfl
  rw [hs1] at c1
  clear hs1
  refine exec_seq (exec_seq (exec_region_o fun ds => ?_))
  gi_wp2
  refine eq_mk (Keep.refl _) ?_
  show Exec _ _ _ _ _ _
  refine exec_cond (b := decide (k < F.l1.length)) rfl (fun hp => exec_skip ?_) (fun hp => exec_exit ?_)
  · have hkl : k < F.l1.length := of_decide_eq_true hp
    obtain ⟨h8, he12, hbd⟩ := hok
    show Exec _ _ _ _ _ _
    have hsum := sum_bd (listOf F.soil F.l2.length) (fun x hx => by
      obtain ⟨k, hk, rfl⟩ := List.mem_map.1 hx
      exact hbd k (List.mem_range.1 hk)) k (by rw [listOf_len]; omega)
    have hnext : sumL (listOf F.soil F.l2.length) (k + 1) = ((sumL (listOf F.soil F.l2.length) k).1 + (F.soil k).1, (sumL (listOf F.soil F.l2.length) k).2 + (F.soil k).2) := by
      show (_ + ((listOf F.soil F.l2.length).getD k (0, 0)).1, _ + ((listOf F.soil F.l2.length).getD k (0, 0)).2) = _
      rw [show (listOf F.soil F.l2.length).getD k (0, 0) = F.soil k by simp [listOf, List.getD_eq_getElem?_getD, show k < F.l2.length by omega]]
    have hbk := hbd k (by omega)
    have hsk : F.soil k = ((rd_T28 F.l2 k).f0 * (rd_T28 F.l1 k).f0, (rd_T28 F.l2 k).f1 * (rd_T28 F.l1 k).f1) := by
      unfold Fur.soil
      rw [rd_d', rd_wd']
    rw [hsk] at hnext hbk
    generalize (sumL (listOf F.soil F.l2.length) k).1 = p at *
    generalize (sumL (listOf F.soil F.l2.length) k).2 = q at *
    refine exec_seq (exec_block (exec_seq ((so_spans hF hB b1 b2 b4 hkl (by omega) _ (by simp only [Slots, Fits, and_self])).mono ?_)))
    clear hF hB b1 b2 b4 c1 hp
    clear W
    rintro e t W hM
    cases e <;> first | exact hM.elim | skip
    obtain ⟨b6, b7, hF, hB, b1, b2, b4, h6, h7, hSl⟩ := hM
    show Exec _ _ _ _ _ _
    obtain ⟨x, hx⟩ := Slots.open_ hSl; simp only [fill, Nat.reduceAdd] at hx; subst hx; clear hSl
    obtain ⟨x1, hx1⟩ : ∃ x, (rd_T28 F.l1 k).f0 = x := ⟨_, rfl⟩
    obtain ⟨y1, hy1⟩ : ∃ x, (rd_T28 F.l1 k).f1 = x := ⟨_, rfl⟩
    obtain ⟨x2, hx2⟩ : ∃ x, (rd_T28 F.l2 k).f0 = x := ⟨_, rfl⟩
    obtain ⟨y2, hy2⟩ : ∃ x, (rd_T28 F.l2 k).f1 = x := ⟨_, rfl⟩
    rw [hx1, hy1] at h6
    rw [hx2, hy2] at h7
    rw [hx1, hy1, hx2, hy2] at hnext
    rw [hx1, hy1, hx2, hy2] at hbk
    clear hx1 hy1 hx2 hy2 hsk
    have k40 := b4.cell0
    have k41 := b4.cell1
    have k4f := b4.frozen
    have k60 := h6.cell0
    have k61 := h6.cell1
    have k70 := h7.cell0
    have k71 := h7.cell1
    have hk8 : (k : Int) ≤ 8 := by omega
    simp only at hbk
    have hm1 : wrap64 (x1 * x2) = x2 * x1 := by rw [Int.mul_comm]; unfold wrap64; omega
    have hm2 : wrap64 (y1 * y2) = y2 * y1 := by rw [Int.mul_comm]; unfold wrap64; omega
    have hs1 : wrap64 (p + wrap64 (x1 * x2)) = p + x2 * x1 := by
      have : wrap64 (x1 * x2) = x2 * x1 := hm1
      rw [this]
      unfold wrap64
      have := hsum.1
      omega
    have hs2 : wrap64 (q + wrap64 (y1 * y2)) = q + y2 * y1 := by
      have : wrap64 (y1 * y2) = y2 * y1 := hm2
      rw [this]
      unfold wrap64
      have := hsum.2
      omega
    have HS1 := Lib.hid hs1
    have HS2 := Lib.hid hs2
    have HN := Lib.hid hnext
    have HE := Lib.hid he12
    clear hs1 hs2 hm1 hm2 hnext hsum hbk he12
    refine exec_region_o fun ds => ?_
    gi_wp2
    refine eq_mk (((Keep.refl _).setCell _ _).setCell _ _) ?_
    show Exec _ _ _ _ _ _
    have g4 : Box2 (put2 W b4n (p + x2 * x1) (q + y2 * y1)) b4n 28 (p + x2 * x1) (q + y2 * y1) := b4.put2 _ _
    have g1 : Box3 (put2 W b4n (p + x2 * x1) (q + y2 * y1)) w.heap.size 24 F.s0 F.s1 F.s2 := (Below.heap_setCell _ _ _ _ (by show _ ≠ b4n; omega)).trans ((Below.heap_setCell _ _ _ _ (by show _ ≠ b4n; omega)).trans b1)
    have g2 := b2.put2_far (b := b4n) (by omega) (p + x2 * x1) (q + y2 * y1)
    have gB := hB.put2 (b := b4n) (by omega) (p + x2 * x1) (q + y2 * y1)
    have gF := h.below gB
    rw [HS1.out, HS2.out]
    have eW : (W.setCell ⟨b4n, 0, none⟩ (.int .i64 (p + x2 * x1))).setCell ⟨b4n, 1, none⟩ (.int .i64 (q + y2 * y1)) = put2 W b4n (p + x2 * x1) (q + y2 * y1) := rfl
    rw [eW]
    generalize put2 W b4n (p + x2 * x1) (q + y2 * y1) = W2 at *
    clear eW
    refine exec_region_o fun ds => ?_
    gi_wp2
    refine eq_mk (Keep.refl _) ⟨F.l1.length - (k + 1), by omega, k + 1, by omega, rfl, gF, gB, g1, g2, by rw [HN.out]; exact g4, hb4, by simp [Slots, Fits]⟩
  · have hkl : k = F.l1.length := by have := of_decide_eq_false hp; omega
    obtain ⟨h8, he12, hbd⟩ := hok
    show Exec _ _ _ _ _ _
    have k40 := b4.cell0
    have k41 := b4.cell1
    have k20 := b2.cell0
    have k21 := b2.cell1
    have k2f := b2.frozen
    have hv : soilV F.va F = (((sumL (listOf F.soil F.l2.length) k).1, (sumL (listOf F.soil F.l2.length) k).2), 0) := by
      rw [HV.out, hkl, he12]
      rfl
    have HVV := Lib.hid hv
    clear hv he12 hkl
    generalize (sumL (listOf F.soil F.l2.length) k).1 = p at *
    generalize (sumL (listOf F.soil F.l2.length) k).2 = q at *
    refine exec_seq (exec_region_o fun ds => ?_)
    gi_wp2
    have b2' : Box2 ((W.setCell ⟨w.heap.size + 1, 0, none⟩ (.int .i64 p)).setCell ⟨w.heap.size + 1, 1, none⟩ (.int .i64 q)) (w.heap.size + 1) 28 p q := by (simp only [Boxed, Box2, heap_alloc_at, heap_set_at, World.size_alloc, World.size_setCell]; repeat (first | rfl | exact b2 | rw [if_pos (by omega)] | rw [if_neg (by omega)] | rw [show _ = _ from b2]))
    have hB' : Below w.heap.size w ((W.setCell ⟨w.heap.size + 1, 0, none⟩ (.int .i64 p)).setCell ⟨w.heap.size + 1, 1, none⟩ (.int .i64 q)) := (hB.setCell (by show w.heap.size ≤ w.heap.size + 1; omega) _).setCell (by show w.heap.size ≤ w.heap.size + 1; omega) _
    exact eq_mk (((Keep.refl _).setCell _ _).setCell _ _) (exec_ret ⟨.inr rfl, fun W' hG => by first | exact fin p q 0 _ _ _ rfl rfl b2' hB' HVV.out hG | exact fin2 p q 0 _ _ _ rfl rfl b2' hB' HVV.out hG⟩)
end Go.Proofs.Ytafmgmaelnpehaa
end

section
set_option linter.unusedVariables false
set_option linter.unusedSimpArgs false
namespace Go.Proofs.Ytafmgmaelnpehaa
open Go.RowKit Go.Fu PFurrowAsks Go.Proofs.YtafmgmaelnpehaaW.PrintWords
theorem freeL_toP (l : List S28) (s : Nat) : (freeL l s l.length).map toP = freeS s (l.map toP) := by
  apply List.ext_getElem
  · rw [List.length_map, freeL_len, freeS_len, List.length_map]
  · intro i h1 h2
    have hi : i < l.length := by simpa [freeL_len] using h1
    have e1 : ((freeL l s l.length).map toP)[i]'h1 = toP (freeX l s i) := by simp [freeL]
    have e2 : (freeS s (l.map toP))[i]'h2 = (freeS s (l.map toP)).getD i (0, 0) := by simp [List.getD_eq_getElem?_getD, h2]
    rw [e1, e2, freeS_get _ _ _ (by simpa using hi)]
    unfold freeX
    split
    · rfl
    · simp [rd_T28, List.getD_eq_getElem?_getD, hi]
theorem full_ones : (List.range 9).all (fun n => (List.range (2 ^ n - 1)).all fun s => decide (ones 8 s < ones 8 (2 ^ n - 1))) = true := by decide +kernel
theorem ones_lt_full (n s : Nat) (hn : n ≤ 8) (hs : s < 2 ^ n - 1) : ones 8 s < ones 8 (2 ^ n - 1) := by
  have h := List.all_eq_true.1 full_ones n (List.mem_range.2 (by omega))
  have h2 := List.all_eq_true.1 h s (List.mem_range.2 hs)
  exact of_decide_eq_true h2
structure WrInv (l : List (Int × Int)) (most : Int) (best set : Nat) : Prop where
  lt : best < 2 ^ l.length
  can : canB (freeS best l) (upP most) = true
  old : best < set ∨ best = 2 ^ l.length - 1
  min : ∀ t, t < set → canB (freeS t l) (upP most) = true → ones 8 best ≤ ones 8 t ∧ (ones 8 t = ones 8 best → best ≤ t)
theorem pow256 {n : Nat} (hn : n ≤ 8) : 2 ^ n ≤ 256 := Nat.pow_le_pow_right (by omega) hn
theorem wrong_loop (l0 l1 l2 : List S28) (most : Int) (hl : l0.length ≤ 8) (hok : ∀ x ∈ l0.map toP, okSpan x) : ∀ (d set best : Nat), set + d = 2 ^ l0.length → WrInv (l0.map toP) most best set →
    ∃ r, Ev (fun k => furrowworksref04_Wrong.l0 k most best set l0 l1 l2) (((r : Nat) : Int), 0) ∧ IsWrong (l0.map toP) most r
  | 0, set, best, hd, hI => by
    have h256 := pow256 hl
    have hp : (2 : Int) ^ l0.length = ((2 ^ l0.length : Nat) : Int) := by norm_cast
    obtain ⟨K1, h1⟩ := power_ev l0.length (by omega)
    simp only at h1
    refine ⟨best, ⟨K1 + 1, fun k hk => ?_⟩, hI.lt, hI.can, fun s hs => hI.min s (by rw [List.length_map] at hs; omega)⟩
    obtain ⟨m, rfl⟩ : ∃ m, k = m + 1 := ⟨k - 1, by omega⟩
    simp only [furrowworksref04_Wrong.l0]
    rw [h1 m (by omega), Option.bind_some, hp, if_neg (by omega)]
  | d + 1, set, best, hd, hI => by
    have h256 := pow256 hl
    have hp : (2 : Int) ^ l0.length = ((2 ^ l0.length : Nat) : Int) := by norm_cast
    have hs : set < 2 ^ l0.length := by omega
    have hll : (l0.map toP).length = l0.length := by simp
    have hlt := hI.lt
    rw [hll] at hlt
    have hw : wrap64 ((set : Int) + 1) = ((set + 1 : Nat) : Int) := by unfold wrap64; omega
    have hcan := can_ev (freeL l0 set l0.length) most (by rw [freeL_len]; exact hl) (by rw [freeL_toP]; exact freeS_ok _ _ hok)
    rw [freeL_toP] at hcan
    have hfr : furrowworksref04_Free.f l0 l1 l2 (set : Int) = some (freeL l0 set l0.length) := by
      unfold furrowworksref04_Free.f
      rw [if_pos ⟨hl, by omega, by omega⟩, Int.toNat_natCast]
    obtain ⟨c, hc⟩ : ∃ c, canB (freeS set (l0.map toP)) (upP most) = c := ⟨_, rfl⟩
    rw [hc] at hcan
    -- the next best
    obtain ⟨b', hb'⟩ : ∃ b', b' = if ones 8 set < ones 8 best ∧ c = true then set else best := ⟨_, rfl⟩
    have hI' : WrInv (l0.map toP) most b' (set + 1) := by
      by_cases h : ones 8 set < ones 8 best ∧ c = true
      · rw [if_pos h] at hb'
        subst hb'
        refine ⟨by rw [hll]; exact hs, by rw [hc]; exact h.2, .inl (by omega), fun t ht htc => ?_⟩
        by_cases e : t = b'
        · subst e; exact ⟨Nat.le_refl _, fun _ => Nat.le_refl _⟩
        · have := (hI.min t (by omega) htc).1
          exact ⟨by omega, fun e => by omega⟩
      · rw [if_neg h] at hb'
        subst hb'
        refine ⟨hI.lt, hI.can, ?_, fun t ht htc => ?_⟩
        · rcases hI.old with h | h
          · exact .inl (by omega)
          · exact .inr h
        · by_cases e : t = set
          · subst e
            have hge : ¬ ones 8 t < ones 8 b' := fun hh => h ⟨hh, by rw [← hc]; exact htc⟩
            refine ⟨by omega, fun e => ?_⟩
            rcases hI.old with h1 | h1
            · omega
            · rw [hll] at h1
              by_cases h2 : t < 2 ^ l0.length - 1
              · have := ones_lt_full _ _ hl h2
                rw [h1] at e
                omega
              · omega
          · exact hI.min t (by omega) htc
    obtain ⟨r, hr1, hr2⟩ := wrong_loop l0 l1 l2 most hl hok d (set + 1) b' (by omega) hI'
    obtain ⟨K1, h1⟩ := power_ev l0.length (by omega)
    obtain ⟨K2, h2⟩ := size_ev set (by omega)
    obtain ⟨K3, h3⟩ := size_ev best (by omega)
    obtain ⟨K4, h4⟩ := hcan
    obtain ⟨K5, h5⟩ := hr1
    simp only at h1 h2 h3 h4 h5
    refine ⟨r, ⟨K1 + K2 + K3 + K4 + K5 + 1, fun k hk => ?_⟩, hr2⟩
    obtain ⟨m, rfl⟩ : ∃ m, k = m + 1 := ⟨k - 1, by omega⟩
    have h5' := h5 m (by omega)
    simp only [furrowworksref04_Wrong.l0]
    rw [h1 m (by omega), Option.bind_some, hp, if_pos (by omega), h2 m (by omega), Option.bind_some, h3 m (by omega), Option.bind_some, hw]
    by_cases hlt' : ones 8 set < ones 8 best
    · rw [if_pos (by omega), hfr, Option.bind_some, h4 m (by omega), Option.bind_some]
      by_cases hct : c = true
      · rw [if_pos hct]
        rw [hb', if_pos ⟨hlt', hct⟩] at h5'
        exact h5'
      · rw [if_neg hct]
        rw [hb', if_neg (fun h => hct h.2)] at h5'
        exact h5'
    · rw [if_neg (by omega)]
      rw [hb', if_neg (fun h => hlt' h.1)] at h5'
      exact h5'
theorem refWrong_ev (l0 l1 l2 : List S28) (most : Int) : Ev (fun k => furrowworksref04_Wrong.f k l0 l1 l2 most) (wrongV (valid l0 l1 l2) most (l0.map toP)) := by
  have hv : Ev (fun k => furrowworksref04_Furrow.f k l0 l1 l2) (valid l0 l1 l2) := Ev.of (fun k => furrowworksref04_Furrow.mono _ _ _ k) (refFurrow_is l0 l1 l2)
  unfold furrowworksref04_Wrong.f
  refine Ev.bind hv ?_
  by_cases h : valid l0 l1 l2 = true
  · simp only [h, if_true, wrongV]
    by_cases hm : 0 ≤ most
    · simp only [show ¬ most < 0 by omega, if_false, hm, if_true]
      have h8 := (valid_lens h).1
      have hok : ∀ x ∈ l0.map toP, okSpan x := fun x hx => by
        obtain ⟨y, hy, rfl⟩ := List.mem_map.1 hx
        obtain ⟨k, hk, rfl⟩ := List.getElem_of_mem hy
        obtain ⟨h1, h2⟩ := valid_bd h k hk
        exact ⟨by show -1000 ≤ (l0[k]).f0; omega, h1.2.1, by show (l0[k]).f1 ≤ 1000; omega⟩
      have h256 := pow256 h8
      have hpos := Nat.two_pow_pos l0.length
      obtain ⟨r, hr1, hr2⟩ := wrong_loop l0 l1 l2 most h8 hok (2 ^ l0.length) 0 (2 ^ l0.length - 1) (by omega)
        ⟨by rw [List.length_map]; omega, by have := free_all (l0.map toP) most hm hok; rw [List.length_map] at this; exact this, .inr (by rw [List.length_map]), fun t ht => by omega⟩
      rw [wrongN_eq hr2]
      refine Ev.bind (power_ev _ (by omega)) ?_
      have hw : wrap64 ((2 : Int) ^ l0.length - 1) = ((2 ^ l0.length - 1 : Nat) : Int) := by
        have hp : (2 : Int) ^ l0.length = ((2 ^ l0.length : Nat) : Int) := by norm_cast
        rw [hp]
        unfold wrap64
        omega
      simp only [hw]
      exact hr1
    · simp only [show most < 0 by omega, if_true, hm, if_false]
      exact Ev.now _
  · simp only [h, if_false, wrongV]
    exact Ev.now _
/-! ### Bits -/
theorem or_all : (List.range 8).all (fun k => (List.range (2 ^ k)).all fun s => bits .or .i64 (s : Int) (wrap64 (2 ^ k)) == ((s + 2 ^ k : Nat) : Int)) = true := by kernel_rfl
theorem or_is (k s : Nat) (hk : k < 8) (hs : s < 2 ^ k) : bits .or .i64 (s : Int) (wrap64 (2 ^ k)) = ((s + 2 ^ k : Nat) : Int) := by
  have h := List.all_eq_true.1 or_all k (List.mem_range.2 hk)
  have h2 := List.all_eq_true.1 h s (List.mem_range.2 hs)
  exact eq_of_beq h2
/-- A set of stations, as a number. -/
def setN (p : Nat → Bool) : Nat → Nat
  | 0 => 0
  | k + 1 => setN p k + if p k then 2 ^ k else 0
theorem setN_lt (p : Nat → Bool) : ∀ k, setN p k < 2 ^ k
  | 0 => by simp [setN]
  | k + 1 => by
    have := setN_lt p k
    unfold setN
    rw [Nat.pow_succ]
    split <;> omega
theorem shM_set (p : Nat → Bool) : ∀ k, k ≤ 8 → shM p k = ((setN p k : Nat) : Int)
  | 0, _ => rfl
  | k + 1, h => by
    unfold shM setN
    rw [shM_set p k (by omega)]
    split
    · rw [or_is k _ (by omega) (setN_lt p k)]
    · simp
theorem setN_bit (p : Nat → Bool) : ∀ (n i : Nat), setN p n / 2 ^ i % 2 = if i < n ∧ p i = true then 1 else 0
  | 0, i => by simp [setN]
  | n + 1, i => by
    have ih := setN_bit p n i
    have hlt := setN_lt p n
    unfold setN
    rcases Nat.lt_trichotomy i n with h | h | h
    · have e : (setN p n + if p n = true then 2 ^ n else 0) / 2 ^ i % 2 = setN p n / 2 ^ i % 2 := by
        split
        · have : 2 ^ n = 2 ^ i * (2 * 2 ^ (n - i - 1)) := by
            rw [← Nat.pow_succ', ← Nat.pow_add]
            congr 1
            omega
          rw [this, Nat.add_mul_div_left _ _ (Nat.two_pow_pos i), Nat.add_mul_mod_self_left]
        · simp
      rw [e, ih]
      congr 1
      apply propext
      constructor
      · rintro ⟨_, h2⟩; exact ⟨by omega, h2⟩
      · rintro ⟨_, h2⟩; exact ⟨h, h2⟩
    · subst h
      split
      · rename_i hp
        rw [Nat.add_div_right _ (Nat.two_pow_pos i), Nat.div_eq_of_lt hlt]
        simp [hp]
      · rename_i hp
        rw [Nat.add_zero, Nat.div_eq_of_lt hlt]
        simp [hp]
    · have : setN p n + (if p n = true then 2 ^ n else 0) < 2 ^ i := by
        have h1 : 2 ^ (n + 1) ≤ 2 ^ i := Nat.pow_le_pow_right (by omega) (by omega)
        rw [Nat.pow_succ] at h1
        split <;> omega
      rw [Nat.div_eq_of_lt this]
      simp
      intro h1
      omega
/-! ### Shallow and Soil -/
theorem rd_d (F : Fur) (k : Nat) : F.d k = ((rd_T28 F.l2 k).f0, (rd_T28 F.l2 k).f1) := rd_d' F k
theorem shallow_loop (F : Fur) (least : Int) (hl : F.l2.length ≤ 8) : ∀ (d i : Nat), i + d = F.l2.length →
    Ev (fun k => furrowworksref04_Shallow.l0 k least ((setN (fun k => decide ((F.d k).2 < least)) i : Nat) : Int) ((setN (fun k => decide ((F.d k).1 < least)) i : Nat) : Int) i F.l0 F.l1 F.l2)
      (((setN (fun k => decide ((F.d k).2 < least)) F.l2.length : Nat) : Int), ((setN (fun k => decide ((F.d k).1 < least)) F.l2.length : Nat) : Int), 0)
  | 0, i, hd => by
    refine ⟨1, fun k hk => ?_⟩
    obtain ⟨m, rfl⟩ : ∃ m, k = m + 1 := ⟨k - 1, by omega⟩
    simp only [furrowworksref04_Shallow.l0]
    rw [if_neg (by omega), show i = F.l2.length by omega]
  | d + 1, i, hd => by
    have ih := shallow_loop F least hl d (i + 1) (by omega)
    have b1 := setN_lt (fun k => decide ((F.d k).2 < least)) i
    have b2 := setN_lt (fun k => decide ((F.d k).1 < least)) i
    have h256 : 2 ^ i ≤ 256 := pow256 (by omega)
    have e1 : ∀ p : Nat → Bool, setN p (i + 1) = setN p i + if p i then 2 ^ i else 0 := fun _ => rfl
    rw [e1, e1] at ih
    simp only [rd_d F i] at ih
    generalize setN (fun k => decide ((F.d k).2 < least)) i = P at *
    generalize setN (fun k => decide ((F.d k).1 < least)) i = Q at *
    obtain ⟨K1, h1⟩ := power_ev i (by omega)
    obtain ⟨K2, h2⟩ := ih
    simp only at h1 h2
    have hw : wrap64 ((i : Int) + 1) = ((i + 1 : Nat) : Int) := by unfold wrap64; omega
    have hp : (2 : Int) ^ i = ((2 ^ i : Nat) : Int) := by norm_cast
    have hP : wrap64 ((P : Int) + ((2 ^ i : Nat) : Int)) = ((P + 2 ^ i : Nat) : Int) := by unfold wrap64; omega
    have hQ : wrap64 ((Q : Int) + ((2 ^ i : Nat) : Int)) = ((Q + 2 ^ i : Nat) : Int) := by unfold wrap64; omega
    refine ⟨K1 + K2 + 1, fun k hk => ?_⟩
    obtain ⟨m, rfl⟩ : ∃ m, k = m + 1 := ⟨k - 1, by omega⟩
    have h2' := h2 m (by omega)
    have h1' := h1 m (by omega)
    simp only [furrowworksref04_Shallow.l0]
    rw [if_pos (by omega), if_pos (by omega), h1', hw]
    simp only [Option.bind_some, hp, hP, hQ]
    by_cases c1 : (rd_T28 F.l2 (i : Int)).f1 < least <;> by_cases c2 : (rd_T28 F.l2 (i : Int)).f0 < least <;> simp only [c1, c2, decide_true, decide_false, if_true, if_false, Bool.false_eq_true, Nat.add_zero] at h2' ⊢ <;> exact h2'
theorem refShallow_ev (F : Fur) (least : Int) : Ev (fun k => furrowworksref04_Shallow.f k F.l0 F.l1 F.l2 least) (shV F.va least F) := by
  have hv : Ev (fun k => furrowworksref04_Furrow.f k F.l0 F.l1 F.l2) (valid F.l0 F.l1 F.l2) := Ev.of (fun k => furrowworksref04_Furrow.mono _ _ _ k) (refFurrow_is _ _ _)
  unfold furrowworksref04_Shallow.f
  refine Ev.bind hv ?_
  unfold shV Fur.va
  by_cases h : valid F.l0 F.l1 F.l2 = true
  · simp only [h, if_true]
    by_cases hm : 0 ≤ least
    · simp only [show ¬ least < 0 by omega, if_false, hm, if_true]
      have h8 : F.l2.length ≤ 8 := by have := valid_lens h; omega
      rw [shM_set _ _ h8, shM_set _ _ h8]
      exact shallow_loop F least h8 F.l2.length 0 (by omega)
    · simp only [show least < 0 by omega, if_true, hm, if_false]
      exact Ev.now _
  · simp only [h, if_false]
    exact Ev.now _
/-! ### The contracts of the document's functions -/
open Go.TL in
theorem refWrong_c (F : Fur) (most : Int) (w : World) (h : F.At w) :
    Calls Try.prog 25 #[F.val, .int .i64 most] w fun e w' => e = .returned (.tuple #[.int .i64 (wrongV F.va most F.pl).1, .int .i64 (wrongV F.va most F.pl).2]) ∧ Below w.heap.size w w' := by
  obtain ⟨k, hk⟩ := (refWrong_ev F.l0 F.l1 F.l2 most).rounds
  exact furrowworksref04_Wrong.calls k F.A0 F.c0 F.l0 F.A1 F.c1 F.l1 F.A2 F.c2 F.l2 most _ _ w h.r0 h.h0 h.r1 h.h1 h.r2 h.h2 hk
open Go.TL in
theorem refShallow_c (F : Fur) (least : Int) (w : World) (h : F.At w) :
    Calls Try.prog 27 #[F.val, .int .i64 least] w fun e w' => e = .returned (.tuple #[.int .i64 (shV F.va least F).1, .int .i64 (shV F.va least F).2.1, .int .i64 (shV F.va least F).2.2]) ∧ Below w.heap.size w w' := by
  obtain ⟨k, hk⟩ := (refShallow_ev F least).rounds
  exact furrowworksref04_Shallow.calls k F.A0 F.c0 F.l0 F.A1 F.c1 F.l1 F.A2 F.c2 F.l2 least _ _ _ w h.r0 h.h0 h.r1 h.h1 h.r2 h.h2 hk
end Go.Proofs.Ytafmgmaelnpehaa
end

section
set_option linter.unusedVariables false
set_option linter.unusedSimpArgs false
namespace Go.Proofs.Ytafmgmaelnpehaa
open Go.RowKit Go.TL Go.Shelf Go.Fu
attribute [local go_sem] Oper.semAt_some
open PFurrowAsks Go.Proofs.YtafmgmaelnpehaaW.PrintWords
theorem box3_below {W W' : World} {B : Nat} {t : TypeId} {a b c : Value} (h : Below W.heap.size W W') (hb : Box3 W B t a b c) : Box3 W' B t a b c := (h.block _ hb.lt).trans hb
set_option maxRecDepth 100000 in
set_option maxHeartbeats 2000000 in
theorem asks_any (F : Fur) (most least : Int) (w : World) (h : F.At w) : Calls Try.prog 4 #[F.val, .int .i64 most, .int .i64 least] w fun e w' => e = .returned (.bool true) ∧ Below w.heap.size w w' := by
  refine calls_of_exec Try.func4 rfl ?_
  simp only [Try.ntmps4, List.size_toArray, List.length_cons, List.length_nil, Nat.reduceAdd, Nat.reduceSub, Array.replicate_succ, Array.replicate_zero, List.push_toArray, List.append_toArray, List.nil_append, List.cons_append]
  simp only [Fur.val]
  refine exec_seq (exec_region_o fun ds => ?_)
  gi_wp2
  refine eq_mk ((Keep.refl w).alloc _) ?_
  show Exec _ _ _ _ _ _
  have b1 := Box3.new w 24 F.s0 F.s1 F.s2
  have hB := (Below.refl w.heap.size w).alloc (Nat.le_refl _) (.cells #[F.s0, F.s1, F.s2] 24)
  generalize w.alloc (.cells #[F.s0, F.s1, F.s2] 24) = W0 at *
  have hF := h.below hB
  clear h
  have c0 := b1.cell0
  have c1 := b1.cell1
  have c2 := b1.cell2
  obtain ⟨hv, hhv⟩ : ∃ b, heavyB F.l0 F.l1 F.l2 4 6 = b := ⟨_, rfl⟩
  have hvy := heavy_any F 4 6 W0 hF
  rw [hhv] at hvy
  refine exec_seq (exec_seq (exec_region_o fun ds => ?_))
  gi_wp2_with fail
  refine ⟨trivial, rfl, (callsIn_wide.2 hvy).mono ?_⟩
  rintro e X ⟨rfl, hx⟩
  have hK := Keep.of_below hx
  replace b1 : Box3 X w.heap.size 24 F.s0 F.s1 F.s2 := (hx.block _ b1.lt).trans b1
  replace hF := hF.below hx
  replace hB := hB.trans (hx.mono hB.size)
  clear hx hvy c0 c1 c2
  gi_wp2
  refine eq_mk hK ?_
  show Exec _ _ _ _ _ _
  clear hK
  clear W0
  cases hv with
  | true =>
    refine exec_cond (b := true) rfl (fun _ => ?_) (fun h => by cases h)
    refine exec_seq (exec_region_o fun ds => ?_)
    gi_wp2_with fail
    refine ⟨trivial, rfl, (callsIn_wide.2 (alive_any X)).mono ?_⟩
    rintro e Y ⟨rfl, hy⟩
    gi_wp2
    refine eq_mk (Keep.of_below hy) ?_
    show Exec _ _ _ _ _ _
    exact exec_ret ⟨.inr rfl, fun W' hG => ⟨.bool true, by simp [results, Try.f4, go_sem], rfl, (hB.trans (hy.mono hB.size)).trans (hG.below (Nat.le_refl _) (hB.trans (hy.mono hB.size)).size)⟩⟩
  | false =>
  refine exec_cond (b := false) rfl (fun h => by cases h) (fun _ => exec_skip ?_)
  show Exec _ _ _ _ _ _
  have HVY := Lib.hid hhv
  clear hhv
  have c0 := b1.cell0
  have c1 := b1.cell1
  have c2 := b1.cell2
  refine exec_seq (exec_region_o fun ds => ?_)
  gi_wp2_with fail
  refine ⟨trivial, rfl, (callsIn_wide.2 (Wrong_c F most X hF)).mono ?_⟩
  rintro e Y1 ⟨⟨rfl, _⟩, hy⟩
  replace hF := hF.below hy
  replace hB := hB.trans (hy.mono hB.size)
  replace b1 := box3_below hy b1
  have hK := Keep.of_below hy
  clear hy c0 c1 c2
  obtain ⟨wa, hwa⟩ : ∃ x, (wrongV F.va most F.pl).1 = x := ⟨_, rfl⟩
  rw [hwa]
  have Hwa := Lib.hid hwa
  clear hwa
  obtain ⟨wb, hwb⟩ : ∃ x, (wrongV F.va most F.pl).2 = x := ⟨_, rfl⟩
  rw [hwb]
  have Hwb := Lib.hid hwb
  clear hwb
  gi_wp2
  refine eq_mk hK ?_
  show Exec _ _ _ _ _ _
  clear hK
  clear X
  have c0 := b1.cell0
  have c1 := b1.cell1
  have c2 := b1.cell2
  refine exec_seq (exec_region_o fun ds => ?_)
  gi_wp2_with fail
  refine ⟨trivial, rfl, (callsIn_wide.2 (refWrong_c F most Y1 hF)).mono ?_⟩
  rintro e Y2 ⟨rfl, hy⟩
  replace hF := hF.below hy
  replace hB := hB.trans (hy.mono hB.size)
  replace b1 := box3_below hy b1
  have hK := Keep.of_below hy
  clear hy c0 c1 c2
  rw [Hwa.out, Hwb.out]
  gi_wp2
  refine eq_mk hK ?_
  show Exec _ _ _ _ _ _
  clear hK
  clear Y1
  have c0 := b1.cell0
  have c1 := b1.cell1
  have c2 := b1.cell2
  refine exec_seq (exec_region_o fun ds => ?_)
  gi_wp2_with fail
  refine ⟨trivial, rfl, (callsIn_wide.2 (Shallow_c F least Y2 hF)).mono ?_⟩
  rintro e Y3 ⟨rfl, hy⟩
  replace hF := hF.below hy
  replace hB := hB.trans (hy.mono hB.size)
  replace b1 := box3_below hy b1
  have hK := Keep.of_below hy
  clear hy c0 c1 c2
  obtain ⟨sa, hsa⟩ : ∃ x, (shV F.va least F).1 = x := ⟨_, rfl⟩
  rw [hsa]
  have Hsa := Lib.hid hsa
  clear hsa
  obtain ⟨sb, hsb⟩ : ∃ x, (shV F.va least F).2.1 = x := ⟨_, rfl⟩
  rw [hsb]
  have Hsb := Lib.hid hsb
  clear hsb
  obtain ⟨sc, hsc⟩ : ∃ x, (shV F.va least F).2.2 = x := ⟨_, rfl⟩
  rw [hsc]
  have Hsc := Lib.hid hsc
  clear hsc
  gi_wp2
  refine eq_mk hK ?_
  show Exec _ _ _ _ _ _
  clear hK
  clear Y2
  have c0 := b1.cell0
  have c1 := b1.cell1
  have c2 := b1.cell2
  refine exec_seq (exec_region_o fun ds => ?_)
  gi_wp2_with fail
  refine ⟨trivial, rfl, (callsIn_wide.2 (refShallow_c F least Y3 hF)).mono ?_⟩
  rintro e Y4 ⟨rfl, hy⟩
  replace hF := hF.below hy
  replace hB := hB.trans (hy.mono hB.size)
  replace b1 := box3_below hy b1
  have hK := Keep.of_below hy
  clear hy c0 c1 c2
  rw [Hsa.out, Hsb.out, Hsc.out]
  gi_wp2
  refine eq_mk hK ?_
  show Exec _ _ _ _ _ _
  clear hK
  clear Y3
  have c0 := b1.cell0
  have c1 := b1.cell1
  have c2 := b1.cell2
  refine exec_seq (exec_region_o fun ds => ?_)
  gi_wp2_with fail
  refine ⟨trivial, rfl, (callsIn_wide.2 (Soil_c F Y4 hF)).mono ?_⟩
  rintro e Y5 ⟨rfl, hy⟩
  replace hF := hF.below hy
  replace hB := hB.trans (hy.mono hB.size)
  replace b1 := box3_below hy b1
  have hK := Keep.of_below hy
  clear hy c0 c1 c2
  obtain ⟨oa, hoa⟩ : ∃ x, (soilV F.va F).1.1 = x := ⟨_, rfl⟩
  rw [hoa]
  have Hoa := Lib.hid hoa
  clear hoa
  obtain ⟨ob, hob⟩ : ∃ x, (soilV F.va F).1.2 = x := ⟨_, rfl⟩
  rw [hob]
  have Hob := Lib.hid hob
  clear hob
  obtain ⟨oc, hoc⟩ : ∃ x, (soilV F.va F).2 = x := ⟨_, rfl⟩
  rw [hoc]
  have Hoc := Lib.hid hoc
  clear hoc
  gi_wp2
  refine eq_mk (hK.alloc _) ?_
  show Exec _ _ _ _ _ _
  have ha := (Below.refl Y5.heap.size Y5).alloc (Nat.le_refl _) (.cells #[.int .i64 oa, .int .i64 ob] 28)
  replace hF := hF.below ha
  replace hB := hB.trans (ha.mono hB.size)
  replace b1 := box3_below ha b1
  have q17 := Box2.new Y5 28 oa ob
  generalize Y5.alloc (.cells #[.int .i64 oa, .int .i64 ob] 28) = Z5 at *
  clear ha hK
  generalize Y5.heap.size = a17 at *
  clear Y5 Y4
  have c0 := b1.cell0
  have c1 := b1.cell1
  have c2 := b1.cell2
  refine exec_seq (exec_region_o fun ds => ?_)
  gi_wp2_with fail
  refine ⟨trivial, rfl, (callsIn_wide.2 (refSoil_c F Z5 hF)).mono ?_⟩
  rintro e Y6 ⟨rfl, hy⟩
  replace hF := hF.below hy
  replace hB := hB.trans (hy.mono hB.size)
  replace b1 := box3_below hy b1
  replace q17 := box2_below hy q17
  have hK := Keep.of_below hy
  clear hy c0 c1 c2
  rw [Hoa.out, Hob.out, Hoc.out]
  gi_wp2
  refine eq_mk (hK.alloc _) ?_
  show Exec _ _ _ _ _ _
  have ha := (Below.refl Y6.heap.size Y6).alloc (Nat.le_refl _) (.cells #[.int .i64 oa, .int .i64 ob] 28)
  replace hF := hF.below ha
  replace hB := hB.trans (ha.mono hB.size)
  replace b1 := box3_below ha b1
  replace q17 := box2_below ha q17
  have q19 := Box2.new Y6 28 oa ob
  generalize Y6.alloc (.cells #[.int .i64 oa, .int .i64 ob] 28) = Z6 at *
  clear ha hK
  generalize Y6.heap.size = a19 at *
  clear Y6 Z5
  have d0 := q17.cell0
  have d1 := q17.cell1
  have e0 := q19.cell0
  have e1 := q19.cell1
  refine exec_seq (exec_region_o fun ds => ?_)
  gi_wp2_with fail
  refine ⟨trivial, rfl, (callsIn_wide.2 (alive_any _)).mono ?_⟩
  rintro e Y ⟨rfl, hy⟩
  gi_wp2
  refine eq_mk (Keep.of_below hy) ?_
  show Exec _ _ _ _ _ _
  exact exec_ret ⟨.inr rfl, fun W' hG => ⟨.bool true, by simp [results, Try.f4, go_sem], rfl, (hB.trans (hy.mono hB.size)).trans (hG.below (Nat.le_refl _) (hB.trans (hy.mono hB.size)).size)⟩⟩
end Go.Proofs.Ytafmgmaelnpehaa
end

section
set_option linter.unusedVariables false
namespace Go.Proofs.Ytafmgmaelnpehaa
open Go.ChangeShapes Go.WideShapes Go.RowKit Go.Joins Go.Deep PFurrowAsks Go.Proofs.YtafmgmaelnpehaaW.PrintWords
section
variable {H : Type} {enc : TypeId × Value → H} {w : World}
theorem row_open {n : Nat} {v : Value} {y : DataW H × List MemPlace} (h : DataW.trod enc Try.prog w 0 (fun _ => true) true n 22 [v] = some y) : ∃ A c l, v = .slice A (l : List S28).length c ∧ l.length ≤ c ∧ Row w A l := by
  rcases open_slice_pairs Try.underlying22 Try.underlying28 (by kernel_rfl) rfl rfl (by kernel_rfl) (by kernel_rfl) h with ⟨hcs, _⟩ | ⟨a, len, cap, m, n', V0, V1, D0, D1, P0, P1, hcs, _, hl, hm, hmm, _, hi⟩
  · simp only [List.cons.injEq, and_true] at hcs
    exact ⟨none, 0, [], hcs, Nat.le_refl _, rfl, by simp, fun hp => by simp at hp⟩
  · simp only [List.cons.injEq, and_true] at hcs
    have hlm : len ≤ m := by rw [hmm]; split <;> omega
    have each : ∀ i, i < len → ∃ x : S28, w.cell? (a.add (i * 2)) = some (.int .i64 x.f0) ∧ w.cell? (a.add (i * 2 + 1)) = some (.int .i64 x.f1) := by
      intro i hi'
      obtain ⟨c0, c1, t0, t1⟩ := hi i (by omega)
      obtain ⟨x, e0, _, _⟩ := DataW.trod_int Try.underlying3 t0
      obtain ⟨z, e1, _, _⟩ := DataW.trod_int Try.underlying3 t1
      simp only [List.cons.injEq, and_true] at e0 e1
      exact ⟨⟨x, z⟩, by rw [c0, e0], by rw [c1, e1]⟩
    have hex : ∃ l : List S28, l.length = len ∧ ∀ i p, l[i]? = some p → w.cell? (a.add (i * 2)) = some (.int .i64 p.f0) ∧ w.cell? (a.add (i * 2 + 1)) = some (.int .i64 p.f1) := by
      have go : ∀ k, k ≤ len → ∃ l : List S28, l.length = k ∧ ∀ i p, l[i]? = some p → w.cell? (a.add (i * 2)) = some (.int .i64 p.f0) ∧ w.cell? (a.add (i * 2 + 1)) = some (.int .i64 p.f1) := by
        intro k
        induction k with
        | zero => exact fun _ => ⟨[], rfl, fun i p hp => by simp at hp⟩
        | succ k ih =>
          intro hk
          obtain ⟨l, hl1, hl2⟩ := ih (by omega)
          obtain ⟨x, h1, h2⟩ := each k (by omega)
          refine ⟨l ++ [x], by simp [hl1], fun i p hp => ?_⟩
          rcases Nat.lt_or_ge i l.length with hlt | hge
          · rw [List.getElem?_append_left hlt] at hp
            exact hl2 i p hp
          · rw [List.getElem?_append_right hge] at hp
            have hi0 : i - l.length = 0 := by
              rcases Nat.eq_zero_or_pos (i - l.length) with h0 | h0
              · exact h0
              · obtain ⟨q, hq⟩ : ∃ q, i - l.length = q + 1 := ⟨i - l.length - 1, by omega⟩
                rw [hq] at hp
                simp at hp
            rw [hi0] at hp
            simp only [List.getElem?_cons_zero, Option.some.injEq] at hp
            subst hp
            obtain rfl : i = k := by omega
            exact ⟨h1, h2⟩
      exact go len (Nat.le_refl _)
    obtain ⟨l, hl1, hl2⟩ := hex
    refine ⟨some a, cap, l, by rw [hcs, hl1], by omega, rfl, by unfold maxLen at hm; omega, fun hp => ⟨a, rfl, fun j p hp => ?_⟩⟩
    obtain ⟨h1, h2⟩ := hl2 j p hp
    refine ⟨[.int .i64 p.f0, .int .i64 p.f1], rfl, k28_mk w p, fun i u hu => ?_⟩
    match i, hu with
    | 0, hu => simp at hu; subst hu; exact h1
    | 1, hu => simp at hu; subst hu; exact h2
    | i + 2, hu => simp at hu
set_option maxRecDepth 100000 in
theorem fur_open {r : Reach} {b0 : Nat} {v : Value} {d : DataW H} {p : List MemPlace} (hv : Value.okWide Try.prog w r b0 24 v) (h : DataW.Trod enc Try.prog w 0 (fun _ => true) true 24 v d p) : ∃ F : Fur, v = F.val ∧ F.At w := by
  obtain ⟨v0, v1, v2, y0, y1, y2, n, rfl, _, _, h0, h1, h2⟩ := open_agg3 Try.underlying24 (by kernel_rfl) (by kernel_rfl) hv h
  obtain ⟨A0, c0, l0, rfl, g0, r0⟩ := row_open h0
  obtain ⟨A1, c1, l1, rfl, g1, r1⟩ := row_open h1
  obtain ⟨A2, c2, l2, rfl, g2, r2⟩ := row_open h2
  exact ⟨⟨A0, c0, l0, A1, c1, l1, A2, c2, l2⟩, rfl, ⟨r0, g0, r1, g1, r2, g2⟩⟩
end
end Go.Proofs.Ytafmgmaelnpehaa
end

section
namespace Go.Proofs.Ytafmgmaelnpehaa.furrowAsks
open Go.ChangeShapes Go.WideShapes Go.ChangeAt Go.RowKit
open Go.ChangeMaps (open_string shut_string)
set_option linter.unusedVariables false
theorem own : ownKnob Try.prog.godebug = none := by kernel_rfl
theorem laidOut : laidOutB Try.prog = true := by kernel_rfl
set_option maxRecDepth 100000 in
theorem lifted (os : Os) (started : os.Started) (H : Type) (enc : TypeId × Value → H) :
    ReturnsInHanded {} Try.checked os 4 .any (Rows.furrowAsksSpec.pre6 enc Try.prog Try.f4 Rows.furrowAsksRow.domain false) (Rows.furrowAsksSpec.post enc Try.prog Try.f4 false true false false) := by
  refine returnsInHanded_of_change_sized (C := Try.checked) own started (by kernel_rfl) Try.func4
    (ChangeSpec.witness6 (enc := enc) (C := Try.checked) false ⟨#[], #[.agg #[.slice none 0 0, .slice none 0 0, .slice none 0 0], .int .i64 0, .int .i64 0], []⟩ 8 (by kernel_rfl) (by kernel_rfl) (by kernel_rfl) (by kernel_rfl)) ?_
  intro W base args ds gs before hval0 hW hcnd hsz0 _
  have hsz : (DataW.weightsEach Try.prog (Try.f4.params.toList ++ Rows.furrowAsksSpec.plain.varTypes Try.prog) (ds ++ gs)).all (· ≤ reachBytes) = true := hsz0
  have hval : ∀ (j : Nat) t v, Try.f4.params[j]? = some t → args[j]? = some v → Value.okWide Try.prog W .any base t v := hval0
  have hW' := hW
  obtain ⟨p, q, hA0, hV, rfl, hfz, hnd⟩ := hW
  have hA : DataW.TrodAll enc Try.prog W 0 (fun _ => true) true Try.f4.params.toList args.toList ds p := hA0
  rw [Try.params4] at hA hval hsz
  obtain ⟨v0, vs0, d0, ds0, p0, q0, hargs, rfl, rfl, h0, r0⟩ := trodAll_cons hA
  obtain ⟨v1, vs1, d1, ds1, p1, q1, rfl, rfl, rfl, h1, r1⟩ := trodAll_cons r0
  obtain ⟨v2, vs2, d2, ds2, p2, q2, rfl, rfl, rfl, h2, r2⟩ := trodAll_cons r1
  obtain ⟨rfl, rfl, rfl⟩ := trodAll_nil r2
  obtain rfl : args = #[v0, v1, v2] := by cases args; simp_all
  obtain ⟨rfl, rfl⟩ := trodVars_none hV
  have k0 := h0
  have lt0 : ∀ x ∈ p0, x.block < W.heap.size := by obtain ⟨m, hm⟩ := k0; exact DataW.trod_lt m _ _ _ hm
  obtain ⟨F0, rfl, hF0⟩ := fur_open (hval 0 24 v0 rfl rfl) h0
  obtain ⟨a1, rfl, rfl, rfl, w1⟩ := open_int Try.underlying3 (hval 1 3 v1 rfl rfl) h1
  obtain ⟨a2, rfl, rfl, rfl, w2⟩ := open_int Try.underlying3 (hval 2 3 v2 rfl rfl) h2
  clear hA0 hval0 hsz0 hsz
  refine (asks_any F0 a1 a2 W hF0).mono fun e W' ⟨he, bel⟩ => ?_
  subst he
  exact ⟨_, rfl, _, _, _, [], _, [], hW', trodAll_mk1 (shut_bool Try.underlying4 _), (trodAll_cons_mk (Below.trod laidOut (by kernel_rfl) (of_decide_eq_true (by kernel_rfl)) k0 bel lt0) (trodAll_cons_mk (shut_int Try.underlying3 w1) (trodAll_cons_mk (shut_int Try.underlying3 w2) trodAll_mk0))), rfl, bel.frame _, fun h => by cases h⟩
theorem over : Rows.furrowAsksRow.holds Try.pinned (OpenSpec.ofChange Rows.furrowAsksSpec) :=
  OpenClaim.holds_of_wide 4 Try.f4 rfl rfl rfl rfl rfl rfl rfl ⟨rfl, rfl, rfl, rfl, rfl⟩ rfl rfl rfl rfl rfl (by kernel_rfl) Try.func4 (by kernel_rfl)
    (of_decide_eq_true (by kernel_rfl)) (by unfold Func.isWrapper; first | (rw [if_pos (by decide +kernel)]; kernel_rfl) | (rw [if_neg (by decide +kernel)]; exact ⟨rfl, rfl⟩))
    (fun os started H enc _ => lifted os started H enc)
theorem proved : Rows.FurrowAsksSaid := over
#print axioms proved
end Go.Proofs.Ytafmgmaelnpehaa.furrowAsks
namespace Go.Proofs.Ytafmgmaelnpehaa
/-- The row, under a short name, for the claim. -/
theorem furrowAsks_holds : Rows.FurrowAsksSaid := furrowAsks.proved
end Go.Proofs.Ytafmgmaelnpehaa
end
