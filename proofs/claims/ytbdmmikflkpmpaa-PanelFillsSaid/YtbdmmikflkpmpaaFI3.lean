/- Parts of the proof: Panels in plain words: seatings as lists of sets; how many there are, and the first one. Panels in plain words: a seating as a list of sets, and what the others can do. Panels: who can be spared. Panels: how busy the busiest one must be. Panels: what must be waived. Panels: opened panels that are written. Panels: a judge on a panel: what is looked at. Panels: a judge on a panel: if the judge sits there. Panels: a judge on a panel: with the judge there. Panels: a judge on a panel. Panels: a row is cloned. Panels: a set is taken off the loads. Panels: a set is looked at: size and kin. Panels: panels with other loads. Panels: a set is looked at: the others. Panels: a set is taken. Panels: sets are looked at in turn. Panels: the first seating. Panels: loads as a map's keys; judges sit once more. Panels: an entry of a map is looked at, and stored. Panels: ways are counted in plain words. Pane -/
import Derived.Test.YtbdmmikflkpmpaaProg
import Derived.Test.YtbdmmikflkpmpaaFI2
import Derived.Test.YtbdmmikflkpmpaaFI1
import Derived.Maps.AppendAt
import Derived.WalkKit
import Derived.WalkSpells
import Derived.WalkLawsBesides
import Derived.Outline
import Derived.OwnWalkIn
import Derived.TacticsInMore
import Derived.LoopNIn
import Derived.LoopIn
import Derived.Shelf.RegionOpen
import Derived.Deep.QuietTactic
import Derived.BigQuiet
import Derived.Lib.Hide
set_option linter.unusedVariables false
set_option linter.unusedSimpArgs false
section
namespace Go.Proofs.Ytbdmmikflkpmpaa
open Go.RowKit Go.TL Go.Shelf Go.Pn
def okS (k f s : Nat) : Bool := pop s == k && (s &&& (2 ^ 64 - 1 - f)) == 0
def canL (l : List Nat) (s : Nat) : Bool := (List.range 6).all fun j => !s.testBit j || decide (0 < l.getD j 0)
def subL (l : List Nat) (s : Nat) : List Nat := (List.range l.length).map fun j => l.getD j 0 - b1 (s.testBit j)
def ways (n : Nat) : List (Nat × Nat) → List Nat → Nat
  | [], _ => 1
  | x :: r, l => ((List.range (2 ^ n)).map fun s => if okS x.1 x.2 s && canL l s then ways n r (subL l s) else 0).sum
def seqs (n : Nat) : Nat → List (List Nat)
  | 0 => [[]]
  | m + 1 => (List.range (2 ^ n)).flatMap fun s => (seqs n m).map (s :: ·)
def okL : List (Nat × Nat) → List Nat → List Nat → Bool
  | [], _, [] => true
  | x :: r, l, s :: t => okS x.1 x.2 s && canL l s && okL r (subL l s) t
  | _, _, _ => false
theorem ways_count (n : Nat) : ∀ (r : List (Nat × Nat)) (l : List Nat), ways n r l = ((seqs n r.length).filter (okL r l)).length
  | [], l => rfl
  | x :: r, l => by
    show _ = (((List.range (2 ^ n)).flatMap fun s => (seqs n r.length).map (s :: ·)).filter (okL (x :: r) l)).length
    rw [List.filter_flatMap, List.length_flatMap]
    unfold ways
    congr 1
    refine List.map_congr_left fun s _ => ?_
    rw [List.filter_map, List.length_map]
    by_cases h : (okS x.1 x.2 s && canL l s) = true
    · rw [if_pos h, ways_count n r]
      congr 1
      refine List.filter_congr fun t _ => ?_
      show _ = (okS x.1 x.2 s && canL l s && okL r (subL l s) t)
      rw [h, Bool.true_and]
    · rw [if_neg h]
      have h' : (okS x.1 x.2 s && canL l s) = false := by simpa using h
      rw [List.filter_eq_nil_iff.2]
      · rfl
      · intro t _
        simp only [Function.comp, okL, h']
        simp
theorem subL_get (l : List Nat) (s j : Nat) : (subL l s).getD j 0 = l.getD j 0 - b1 (s.testBit j) := by
  unfold subL
  rw [List.getD_eq_getElem?_getD, List.getElem?_map]
  by_cases h : j < l.length
  · rw [List.getElem?_eq_getElem (by simpa using h)]
    simp
  · rw [List.getElem?_eq_none (by simp; omega)]
    simp [List.getD_eq_getElem?_getD, List.getElem?_eq_none (show l.length ≤ j by omega)]
theorem canL_iff {l : List Nat} {s : Nat} : canL l s = true ↔ ∀ j, j < 6 → s.testBit j = true → 0 < l.getD j 0 := by
  unfold canL
  rw [List.all_eq_true]
  constructor
  · intro h j hj hs
    have := h j (List.mem_range.2 hj)
    simpa [hs] using this
  · intro h j hj
    have := h j (List.mem_range.1 hj)
    cases hs : s.testBit j with
    | false => rfl
    | true => simpa [hs] using this hs
theorem okL_iff : ∀ (r : List (Nat × Nat)) (l t : List Nat), okL r l t = true ↔ t.length = r.length ∧ (∀ (i : Nat) (x : Nat × Nat) (s : Nat), r[i]? = some x → t[i]? = some s → okS x.1 x.2 s = true) ∧ ∀ j, j < 6 → busyL t j ≤ l.getD j 0
  | [], l, [] => by simp [okL, busyL]
  | [], l, s :: t => by simp [okL]
  | x :: r, l, [] => by simp [okL]
  | x :: r, l, s :: t => by
    simp only [okL, Bool.and_eq_true, okL_iff r, List.length_cons, subL_get, canL_iff]
    constructor
    · rintro ⟨⟨h1, h2⟩, h3, h4, h5⟩
      refine ⟨by omega, ?_, fun j hj => ?_⟩
      · intro i y z hy hz
        match i, hy, hz with
        | 0, hy, hz => cases hy; cases hz; exact h1
        | i + 1, hy, hz => exact h4 i y z hy hz
      · have a := h2 j hj
        have b := h5 j hj
        show (if s.testBit j then 1 else 0) + busyL t j ≤ _
        cases hs : s.testBit j with
        | false => simp [hs, b1] at b ⊢; exact b
        | true => have := a hs; simp only [hs, b1, if_true] at b ⊢; omega
    · rintro ⟨h1, h2, h3⟩
      have h3' : ∀ j, j < 6 → (if s.testBit j then 1 else 0) + busyL t j ≤ l.getD j 0 := h3
      refine ⟨⟨h2 0 x s rfl rfl, fun j hj hs => ?_⟩, by omega, fun i y z hy hz => h2 (i + 1) y z hy hz, fun j hj => ?_⟩
      · have := h3' j hj
        rw [if_pos hs] at this
        omega
      · have := h3' j hj
        cases hs : s.testBit j with
        | false => simp [hs, b1] at this ⊢; exact this
        | true => simp [hs, b1] at this ⊢; omega
theorem mem_seqs (n : Nat) : ∀ (m : Nat) (t : List Nat), t ∈ seqs n m ↔ t.length = m ∧ ∀ s ∈ t, s < 2 ^ n
  | 0, t => by
    show t ∈ [[]] ↔ _
    rw [List.mem_singleton]
    constructor
    · rintro rfl; simp
    · rintro ⟨h, _⟩; exact List.eq_nil_of_length_eq_zero h
  | m + 1, t => by
    show t ∈ (List.range (2 ^ n)).flatMap _ ↔ _
    rw [List.mem_flatMap]
    constructor
    · rintro ⟨s, hs, ht⟩
      obtain ⟨u, hu, rfl⟩ := List.mem_map.1 ht
      obtain ⟨h1, h2⟩ := (mem_seqs n m u).1 hu
      refine ⟨by simp [h1], fun y hy => ?_⟩
      rcases List.mem_cons.1 hy with rfl | hy
      · exact List.mem_range.1 hs
      · exact h2 y hy
    · rintro ⟨h1, h2⟩
      match t, h1, h2 with
      | s :: u, h1, h2 => exact ⟨s, List.mem_range.2 (h2 s (by simp)), List.mem_map.2 ⟨u, (mem_seqs n m u).2 ⟨by simpa using h1, fun y hy => h2 y (by simp [hy])⟩, rfl⟩⟩
def sitG (n : Nat) : List (Nat × Nat) → List Nat → List Nat
  | [], _ => []
  | x :: r, l => match (List.range (2 ^ n)).find? (fun s => okS x.1 x.2 s && canL l s && (seqs n r.length).any (okL r (subL l s))) with
    | some s => s :: sitG n r (subL l s)
    | none => sitG n r l
theorem sitG_is (n : Nat) : ∀ (r : List (Nat × Nat)) (l : List Nat), (seqs n r.length).any (okL r l) = true → (seqs n r.length).find? (okL r l) = some (sitG n r l)
  | [], l, _ => by simp [seqs, okL, sitG]
  | x :: r, l, h => by
    show ((List.range (2 ^ n)).flatMap fun s => (seqs n r.length).map (s :: ·)).find? (okL (x :: r) l) = _
    rw [List.find?_flatMap]
    have hf : ∀ s, ((seqs n r.length).map (s :: ·)).find? (okL (x :: r) l) = if okS x.1 x.2 s && canL l s && (seqs n r.length).any (okL r (subL l s)) then some (s :: sitG n r (subL l s)) else none := by
      intro s
      rw [List.find?_map]
      by_cases h1 : (okS x.1 x.2 s && canL l s) = true
      · have e : (okL (x :: r) l ∘ (s :: ·)) = okL r (subL l s) := by funext t; simp [okL, h1]
        rw [e, h1]
        by_cases h2 : (seqs n r.length).any (okL r (subL l s)) = true
        · rw [sitG_is n r _ h2, h2]; rfl
        · rw [List.find?_eq_none.2]
          · simp [show (seqs n r.length).any (okL r (subL l s)) = false by simpa using h2]
          · intro t ht hc
            exact h2 (List.any_eq_true.2 ⟨t, ht, hc⟩)
      · have h1' : (okS x.1 x.2 s && canL l s) = false := by simpa using h1
        rw [h1', List.find?_eq_none.2]
        · simp
        · intro t ht
          simp only [Function.comp, okL, h1']
          simp
    have e : (fun s => ((seqs n r.length).map (s :: ·)).find? (okL (x :: r) l)) = fun s => if okS x.1 x.2 s && canL l s && (seqs n r.length).any (okL r (subL l s)) then some (s :: sitG n r (subL l s)) else none := funext hf
    rw [e]
    have gen : ∀ (q : Nat → Bool) (g : Nat → List Nat) (L : List Nat), (L.findSome? fun s => if q s then some (g s) else none) = (L.find? q).map g := by
      intro q g L
      induction L with
      | nil => rfl
      | cons a L ih =>
        simp only [List.findSome?_cons, List.find?_cons]
        cases q a <;> simp [ih]
    rw [gen]
    rw [show sitG n (x :: r) l = (match (List.range (2 ^ n)).find? (fun s => okS x.1 x.2 s && canL l s && (seqs n r.length).any (okL r (subL l s))) with | some s => s :: sitG n r (subL l s) | none => sitG n r l) from rfl]
    cases hq : (List.range (2 ^ n)).find? (fun s => okS x.1 x.2 s && canL l s && (seqs n r.length).any (okL r (subL l s))) with
    | some s => rfl
    | none =>
      exfalso
      have hno := List.find?_eq_none.1 hq
      obtain ⟨t, ht, hok⟩ := List.any_eq_true.1 h
      obtain ⟨s, hs, ht⟩ := List.mem_flatMap.1 ht
      obtain ⟨u, hu, rfl⟩ := List.mem_map.1 ht
      have hok' : (okS x.1 x.2 s && canL l s && okL r (subL l s) u) = true := hok
      have := hno s hs
      rw [Bool.and_eq_true] at hok'
      simp only [hok'.1, Bool.true_and] at this
      exact this (List.any_eq_true.2 ⟨u, hu, hok'.2⟩)
theorem okL_congr {r : List (Nat × Nat)} {l l' t : List Nat} (h : ∀ j, j < 6 → l.getD j 0 = l'.getD j 0) : okL r l t = okL r l' t := by
  rw [Bool.eq_iff_iff, okL_iff, okL_iff]
  constructor <;> rintro ⟨a, b, c⟩ <;> exact ⟨a, b, fun j hj => by have := c j hj; have := h j hj; omega⟩
end Go.Proofs.Ytbdmmikflkpmpaa
end

section
namespace Go.Proofs.Ytbdmmikflkpmpaa
open Go.RowKit Go.TL Go.Shelf Go.Pn
def mkS (f : Nat → Bool) : Nat → Nat
  | 0 => 0
  | n + 1 => if f n then setB (mkS f n) n else mkS f n
theorem mkS_bit (f : Nat → Bool) (j : Nat) : ∀ n, (mkS f n).testBit j = (decide (j < n) && f j)
  | 0 => by simp [mkS]
  | n + 1 => by
    unfold mkS
    have ih := mkS_bit f j n
    by_cases e : j = n
    · subst e
      cases h : f j <;> simp [h, setB_bit, ih]
    · have e1 : decide (j < n + 1) = decide (j < n) := decide_eq_decide.2 (by omega)
      have e2 : decide (n = j) = false := decide_eq_false (fun c => e c.symm)
      split
      · rw [setB_bit, ih, e1, e2, Bool.or_false]
      · rw [ih, e1]
theorem mkS_lt (f : Nat → Bool) (n : Nat) : mkS f n < 2 ^ n := Nat.lt_pow_two_of_testBit _ fun i hi => by
  rw [mkS_bit, decide_eq_false (by omega)]
  rfl
theorem bit_lt {s n j : Nat} (hs : s < 2 ^ n) (h : s.testBit j = true) : j < n := by
  apply Classical.byContradiction
  intro c
  rw [Nat.testBit_lt_two_pow (Nat.lt_of_lt_of_le hs (Nat.pow_le_pow_right (by omega) (by omega)))] at h
  cases h
theorem sumN_cut {f : Nat → Nat} {n : Nat} (h : ∀ i, n ≤ i → f i = 0) : ∀ d, sumN f (n + d) = sumN f n
  | 0 => rfl
  | d + 1 => by
    show sumN f (n + d) + f (n + d) = _
    rw [sumN_cut h d, h _ (by omega)]
    rfl
theorem pop_n {s n : Nat} (hs : s < 2 ^ n) (hn : n ≤ 10) : pop s = sumN (fun j => b1 (s.testBit j)) n := by
  unfold pop
  rw [show 10 = n + (10 - n) by omega]
  refine sumN_cut (fun i hi => ?_) _
  cases h : s.testBit i with
  | false => rfl
  | true => have := bit_lt hs h; omega
theorem sub_iff {s f : Nat} (hf : f < 2 ^ 64) (hs : s < 2 ^ 64) : ((s &&& (2 ^ 64 - 1 - f)) == 0) = true ↔ ∀ j, s.testBit j = true → f.testBit j = true := by
  rw [beq_iff_eq]
  have hb : ∀ j, (s &&& (2 ^ 64 - 1 - f)).testBit j = (s.testBit j && (decide (j < 64) && !f.testBit j)) := fun j => by
    rw [Nat.testBit_and, show 2 ^ 64 - 1 - f = 2 ^ 64 - (f + 1) by omega, Nat.testBit_two_pow_sub_succ hf]
  constructor
  · intro h j hj
    have := hb j
    rw [h, Nat.zero_testBit, hj, decide_eq_true (bit_lt hs hj)] at this
    simpa using this.symm
  · intro h
    refine Nat.eq_of_testBit_eq fun j => ?_
    rw [hb, Nat.zero_testBit]
    cases hj : s.testBit j with
    | false => rfl
    | true => simp [h j hj]
theorem okS_iff {n k f s : Nat} (hn : n ≤ 6) (hs : s < 2 ^ n) (hf : f < 2 ^ 64) : okS k f s = true ↔ sumN (fun j => b1 (s.testBit j)) n = k ∧ ∀ j, j < n → s.testBit j = true → f.testBit j = true := by
  have h64 : s < 2 ^ 64 := Nat.lt_of_lt_of_le hs (Nat.pow_le_pow_right (by omega) (by omega))
  unfold okS
  rw [Bool.and_eq_true, sub_iff hf h64, beq_iff_eq, pop_n hs (by omega)]
  exact ⟨fun ⟨a, b⟩ => ⟨a, fun j _ => b j⟩, fun ⟨a, b⟩ => ⟨a, fun j hj => b j (bit_lt hs hj) hj⟩⟩
def asg (l : List Nat) : Asg := fun p j => (l.getD p 0).testBit j
theorem getD_lt {l : List Nat} {i : Nat} (h : i < l.length) : l.getD i 0 = l[i] := by
  rw [List.getD_eq_getElem?_getD, List.getElem?_eq_getElem h]
  rfl
structure PFit (P : Pnl) : Prop where
  ok : P.Ok
  len : P.fit.length = P.needs.length
  lt : ∀ q, P.fit.getD q 0 < 2 ^ 64
def nf (P : Pnl) : List (Nat × Nat) := P.needs.zip P.fit
theorem nf_len {P : Pnl} (h : PFit P) : (nf P).length = P.needs.length := by
  unfold nf
  rw [List.length_zip, h.len, Nat.min_self]
theorem nf_get {P : Pnl} (h : PFit P) {i : Nat} (hi : i < P.needs.length) : (nf P)[i]? = some (P.needs.getD i 0, P.fit.getD i 0) := by
  have := h.len
  unfold nf
  rw [List.getElem?_zip_eq_some]
  exact ⟨by rw [getD_lt hi, List.getElem?_eq_getElem hi], by
    show P.fit[i]? = some (P.fit.getD i 0)
    rw [getD_lt (by omega), List.getElem?_eq_getElem (by omega)]⟩
theorem seat_iff {P : Pnl} (h : PFit P) {l : List Nat} (hl : l ∈ seqs P.loads.length P.needs.length) : okL (nf P) P.loads l = true ↔ Seating P (asg l) := by
  obtain ⟨hl1, hl2⟩ := (mem_seqs _ _ _).1 hl
  have hj := h.ok.j
  have hlt : ∀ p, p < P.needs.length → l.getD p 0 < 2 ^ P.loads.length := fun p hp => by
    rw [getD_lt (by omega)]
    exact hl2 _ (List.getElem_mem _)
  have hbz : ∀ j, busyL l j = cntP (asg l) P.needs.length j := fun j => by
    rw [busy_sum, hl1]
    rfl
  rw [okL_iff, nf_len h]
  constructor
  · rintro ⟨_, h2, h3⟩
    have hok : ∀ p, p < P.needs.length → okS (P.needs.getD p 0) (P.fit.getD p 0) (l.getD p 0) = true := fun p hp => h2 p _ _ (nf_get h hp) (by rw [getD_lt (by omega), List.getElem?_eq_getElem (by omega)])
    refine ⟨⟨fun p j hp hj ha => ((okS_iff h.ok.j (hlt p hp) (h.lt p)).1 (hok p hp)).2 j hj ha, fun j hj => ?_⟩, fun p hp => ((okS_iff h.ok.j (hlt p hp) (h.lt p)).1 (hok p hp)).1⟩
    rw [← hbz]
    exact h3 j (by omega)
  · intro hs
    refine ⟨hl1, fun i x s hx hsx => ?_, fun j hj => ?_⟩
    · have hi : i < P.needs.length := by
        have := (List.getElem?_eq_some_iff.1 hsx).1
        omega
      rw [nf_get h hi] at hx
      cases hx
      have e : s = l.getD i 0 := by
        rw [List.getD_eq_getElem?_getD, hsx]
        rfl
      rw [e]
      exact (okS_iff h.ok.j (hlt i hi) (h.lt i)).2 ⟨hs.eq i hi, fun j hj ha => hs.feas.fit i j hi hj ha⟩
    · rw [hbz]
      by_cases c : j < P.loads.length
      · exact hs.feas.load j c
      · have : cntP (asg l) P.needs.length j = 0 := by
          unfold cntP
          rw [sumN_congr (g := fun _ => 0) _ fun p hp => ?_, sumN_zero]
          show b1 ((l.getD p 0).testBit j) = 0
          cases hb : (l.getD p 0).testBit j with
          | false => rfl
          | true => exact absurd (bit_lt (hlt p hp) hb) c
        omega
theorem seating_congr {P : Pnl} {a b : Asg} (h : Seating P a) (e : ∀ p j, p < P.needs.length → j < P.loads.length → b p j = a p j) : Seating P b where
  feas := ⟨fun p j hp hj hb => h.feas.fit p j hp hj (by rw [← e p j hp hj]; exact hb), fun j hj => by
    have : cntP b P.needs.length j = cntP a P.needs.length j := sumN_congr _ fun p hp => by rw [e p j hp hj]
    rw [this]
    exact h.feas.load j hj⟩
  eq p hp := by
    have : cntJ b P.loads.length p = cntJ a P.loads.length p := sumN_congr _ fun j hj => by rw [e p j hp hj]
    rw [this]
    exact h.eq p hp
def setsOf (P : Pnl) (a : Asg) : List Nat := (List.range P.needs.length).map fun p => mkS (a p) P.loads.length
theorem setsOf_mem (P : Pnl) (a : Asg) : setsOf P a ∈ seqs P.loads.length P.needs.length := by
  rw [mem_seqs]
  refine ⟨by simp [setsOf], fun s hs => ?_⟩
  obtain ⟨p, _, rfl⟩ := List.mem_map.1 hs
  exact mkS_lt _ _
theorem setsOf_at (P : Pnl) (a : Asg) {p j : Nat} (hp : p < P.needs.length) (hj : j < P.loads.length) : asg (setsOf P a) p j = a p j := by
  unfold asg setsOf
  rw [getD_lt (by simpa using hp)]
  simp [mkS_bit, hj]
theorem can_seqs {P : Pnl} (h : PFit P) : canV P = (seqs P.loads.length P.needs.length).any (okL (nf P) P.loads) := by
  rw [Bool.eq_iff_iff, can_is h.ok, List.any_eq_true]
  constructor
  · rintro ⟨a, ha⟩
    exact ⟨_, setsOf_mem P a, (seat_iff h (setsOf_mem P a)).2 (seating_congr ha fun p j hp hj => setsOf_at P a hp hj)⟩
  · rintro ⟨l, hl, hok⟩
    exact ⟨_, (seat_iff h hl).1 hok⟩
theorem pop_zero {s n : Nat} (hs : s < 2 ^ n) (hn : n ≤ 10) (h : pop s = 0) : s = 0 := by
  refine Nat.eq_of_testBit_eq fun j => ?_
  rw [Nat.zero_testBit]
  cases hb : s.testBit j with
  | false => rfl
  | true =>
    have hj := bit_lt hs hb
    have := sumN_mem (f := fun j => b1 (s.testBit j)) (n := 10) (i := j) (by omega)
    have h' : sumN (fun j => b1 (s.testBit j)) 10 = 0 := h
    rw [h'] at this
    simp [hb, b1] at this
theorem zero_step (n : Nat) (hn : n ≤ 6) (f : Nat) (r : List (Nat × Nat)) (l : List Nat) : (seqs n (r.length + 1)).any (okL ((0, f) :: r) l) = (seqs n r.length).any (okL r l) := by
  have h0 : ∀ t, okL r (subL l 0) t = okL r l t := fun t => okL_congr fun j _ => by rw [subL_get]; simp [b1]
  have hc : canL l 0 = true := canL_iff.2 fun j _ h => by simp at h
  rw [Bool.eq_iff_iff, List.any_eq_true, List.any_eq_true]
  constructor
  · rintro ⟨t, ht, hok⟩
    obtain ⟨s, hs, ht⟩ := List.mem_flatMap.1 ht
    obtain ⟨u, hu, rfl⟩ := List.mem_map.1 ht
    have hok' : (okS 0 f s && canL l s && okL r (subL l s) u) = true := hok
    rw [Bool.and_eq_true, Bool.and_eq_true] at hok'
    obtain ⟨⟨h1, _⟩, h3⟩ := hok'
    have hp : pop s = 0 := by
      unfold okS at h1
      rw [Bool.and_eq_true, beq_iff_eq] at h1
      exact h1.1
    have := pop_zero (List.mem_range.1 hs) (by omega) hp
    subst this
    exact ⟨u, hu, by rw [← h0]; exact h3⟩
  · rintro ⟨u, hu, hok⟩
    refine ⟨0 :: u, List.mem_flatMap.2 ⟨0, List.mem_range.2 (Nat.pow_pos (by omega)), List.mem_map.2 ⟨u, hu, rfl⟩⟩, ?_⟩
    show (okS 0 f 0 && canL l 0 && okL r (subL l 0) u) = true
    rw [h0, hok, hc]
    simp [okS, pop, sumN, b1]
theorem zero_steps (n : Nat) (hn : n ≤ 6) (r : List (Nat × Nat)) (l : List Nat) : ∀ A : List (Nat × Nat), (∀ x ∈ A, x.1 = 0) → (seqs n (A ++ r).length).any (okL (A ++ r) l) = (seqs n r.length).any (okL r l)
  | [], _ => rfl
  | (k, f) :: A, h => by
    have : k = 0 := h (k, f) (by simp)
    subst this
    show (seqs n ((A ++ r).length + 1)).any (okL ((0, f) :: (A ++ r)) l) = _
    rw [zero_step n hn f (A ++ r) l]
    exact zero_steps n hn r l A fun x hx => h x (by simp [hx])
theorem toP_Fit {x : S3} (h : x.Good) : PFit (toP x) := ⟨⟨h.j, h.p⟩, toP_fl x, toP_lt h⟩
theorem rest_can {L L' N : List Nat} {K : List (Nat × Nat)} (hG : S3.Good (L', N, K)) (hL : L'.length = L.length) {p rest : Nat} (hp : p < N.length) (hr : ∀ i, i < N.length → rest.testBit i = decide (p < i)) :
    canV (toP (S3.only rest (L', N, K))) = (seqs L.length ((nf (toP (L, N, K))).drop (p + 1)).length).any (okL ((nf (toP (L, N, K))).drop (p + 1)) L') := by
  have hF := toP_Fit (hG.only rest)
  have hF0 := toP_Fit hG
  rw [can_seqs hF]
  have hfit : (toP (S3.only rest (L', N, K))).fit = (toP (L, N, K)).fit := by
    show kinF (List.replicate (onlyN rest N).length (2 ^ L'.length - 1)) K = kinF (List.replicate N.length (2 ^ L.length - 1)) K
    rw [onlyN_len, hL]
  have hfl0 : (toP (L, N, K)).fit.length = N.length := toP_fl _
  have hnl : (toP (S3.only rest (L', N, K))).needs.length = N.length := onlyN_len rest N
  have e1 : (seqs (toP (S3.only rest (L', N, K))).loads.length (toP (S3.only rest (L', N, K))).needs.length) = seqs L.length (nf (toP (S3.only rest (L', N, K)))).length := by
    rw [nf_len hF]
    show seqs L'.length _ = _
    rw [hL]
  have hgets : ∀ i, i < N.length → (nf (toP (S3.only rest (L', N, K))))[i]? = some (if p < i then N.getD i 0 else 0, (toP (L, N, K)).fit.getD i 0) := fun i hi => by
    rw [nf_get hF (by rw [hnl]; exact hi), hfit]
    show some ((onlyN rest N).getD i 0, _) = _
    rw [onlyN_get, hr i hi]
    by_cases c : p < i <;> simp [c]
  have hsplit : nf (toP (S3.only rest (L', N, K))) = (nf (toP (S3.only rest (L', N, K)))).take (p + 1) ++ (nf (toP (L, N, K))).drop (p + 1) := by
    conv => lhs; rw [← List.take_append_drop (p + 1) (nf (toP (S3.only rest (L', N, K))))]
    congr 1
    refine List.ext_getElem? fun i => ?_
    rw [List.getElem?_drop, List.getElem?_drop]
    by_cases hi : p + 1 + i < N.length
    · rw [hgets _ hi, if_pos (by omega)]
      unfold nf
      symm
      rw [List.getElem?_zip_eq_some]
      exact ⟨by
        show N[p + 1 + i]? = some (N.getD (p + 1 + i) 0)
        rw [getD_lt hi, List.getElem?_eq_getElem hi], by
        show (toP (L, N, K)).fit[p + 1 + i]? = some ((toP (L, N, K)).fit.getD (p + 1 + i) 0)
        rw [getD_lt (by omega), List.getElem?_eq_getElem (by omega)]⟩
    · rw [List.getElem?_eq_none (by rw [nf_len hF]; omega), List.getElem?_eq_none (by unfold nf; rw [List.length_zip]; show min N.length _ ≤ _; omega)]
  rw [e1]
  show (seqs L.length (nf (toP (S3.only rest (L', N, K)))).length).any (okL (nf (toP (S3.only rest (L', N, K)))) L') = _
  rw [hsplit]
  have hj : L.length ≤ 6 := by
    have := hG.j
    simp only at this
    omega
  refine zero_steps L.length hj _ L' _ fun x hx => ?_
  obtain ⟨i, hi⟩ := List.mem_iff_getElem?.1 hx
  have hil : i < p + 1 := by
    have := (List.getElem?_eq_some_iff.1 hi).1
    rw [List.length_take] at this
    omega
  rw [List.getElem?_take_of_lt hil, hgets i (by omega), if_neg (by omega)] at hi
  cases hi
  rfl
end Go.Proofs.Ytbdmmikflkpmpaa
end

section
namespace Go.Proofs.Ytbdmmikflkpmpaa
open Go.RowKit Go.TL Go.Shelf Go.Pn
attribute [local go_sem] Oper.semAt_some
attribute [local go_sem] run_store_func
theorem wrapi (n : Int) (h0 : 0 ≤ n) (h1 : n < 2 ^ 63) : IntKind.i64.wrap n = n := IntWalk.i64_in _ (by omega)
theorem or_i (a b : Nat) (ha : a < 2 ^ 63) (hb : b < 2 ^ 63) : bits .or .i64 (a : Int) (b : Int) = ((a ||| b : Nat) : Int) := (bits_nat .i64 63 (by decide) wrapi a b ha hb).2
theorem shl_i (x : Nat) (hx : x < 63) : IntKind.i64.wrap (2 ^ x) = ((2 ^ x : Nat) : Int) := by
  rw [pow_cast]
  have : 2 ^ x < 2 ^ 63 := Nat.pow_lt_pow_right (by omega) hx
  exact wrapi _ (Int.natCast_nonneg _) (by exact_mod_cast this)
def spareF (x : S3) (n : Nat) : Nat := mkS (fun j => canV (toP (x.loaded j 0))) n
def spareA (a : XP) : Int × Int := if a.isP then (if canV (toP a.s3) then ((spareF a.s3 a.L.length : Nat), 0) else (0, 4)) else (0, 1)
structure SpB (w : World) (a : XP) (b : Nat) (W : World) : Prop where
  p : PBx W b a
  e : Boxed W (b + 1) 28 (vi 0)
  below : Below w.heap.size w W
theorem SpB.keep {w : World} {a : XP} {b : Nat} {W W' : World} (h : SpB w a b W) (hb : Below W.heap.size W W') : SpB w a b W' := ⟨h.p.keep hb, (hb.block _ h.e.lt).trans h.e, h.below.trans (hb.mono h.below.size)⟩
def SpI (w : World) (a : XP) (b N : Nat) (m : Nat) (t : Array Value) (W : World) : Prop :=
  ∃ k : Nat, k ≤ N ∧ m = N - k ∧ SpB w a b W ∧ Slots (none :: some (.pointer (some ⟨b, 0, none⟩)) :: some (iv (spareF a.s3 k)) :: some (.pointer (some ⟨b + 1, 0, none⟩)) :: some (.func (.func 95) #[] #[.pointer (some ⟨b, 0, none⟩)]) :: none :: o4 (o4 (some (iv N) :: some (iv k) :: none :: none :: none :: o4 (o4 [])))) t
def SpM (w : World) (a : XP) (b N k M : Nat) (t : Array Value) (W : World) : Prop :=
  SpB w a b W ∧ Slots (none :: some (.pointer (some ⟨b, 0, none⟩)) :: some (iv M) :: some (.pointer (some ⟨b + 1, 0, none⟩)) :: some (.func (.func 95) #[] #[.pointer (some ⟨b, 0, none⟩)]) :: none :: o4 (o4 (some (iv N) :: some (iv k) :: none :: none :: none :: o4 (o4 [])))) t
set_option maxRecDepth 100000 in
set_option maxHeartbeats 600000 in
theorem Spare_any (a : XP) (w : World) (h : a.At w) : Calls Try.prog 39 #[a.val] w fun e w' => e = .returned (.tuple #[vi (spareA a).1, vi (spareA a).2]) ∧ Below w.heap.size w w' := by
  have hmf : ∀ fn first cap w, (Instr.makeFunc fn first cap).run Try.prog w = .ok (.func fn first cap) w := fun _ _ _ _ => rfl
  have hu25 := Try.underlying25
  have hu22 := Try.underlying22
  obtain ⟨A, hA⟩ : ∃ A, spareA a = A := ⟨_, rfl⟩
  rw [hA]
  have HA := Lib.hid hA
  clear hA
  refine (callsIn_wide (n := 0)).1 (callsIn_of_wp_marks Try.func39 rfl trivial ?_)
  simp only [Try.ntmps39, List.size_toArray, List.length_cons, List.length_nil, Nat.reduceAdd, Nat.reduceSub, Array.replicate_succ, Array.replicate_zero, List.push_toArray, List.append_toArray, List.nil_append, List.cons_append]
  simp only [XP.val]
  refine split_rest fun rest hR => ?_
  gi_wp2
  have hB := ((Below.refl w.heap.size w).alloc (Nat.le_refl _) (.cells #[a.sL, a.sN, a.sK] 25)).alloc (by simp) (.cells #[.int .i64 0] 28)
  have b1 : PBx ((w.alloc (.cells #[a.sL, a.sN, a.sK] 25)).alloc (.cells #[.int .i64 0] 28)) w.heap.size a := ⟨heap_next (World.alloc_heap_new _ _) _, h.below hB⟩
  have b3 : Boxed ((w.alloc (.cells #[a.sL, a.sN, a.sK] 25)).alloc (.cells #[.int .i64 0] 28)) (w.heap.size + 1) 28 (.int .i64 0) := by (simp only [Boxed, Box2, heap_alloc_at, heap_set_at, World.size_alloc, World.size_setCell]; repeat (first | rfl | rw [if_pos (by omega)] | rw [if_neg (by omega)]))
  refine guard_rest (lo := w.heap.size) (T := 133) (b := w.heap.size + 1) catches94 ⟨_, _, rfl⟩ (fun W => by simp [go_sem]) hB.size ?_
  subst hR
  generalize (w.alloc (.cells #[a.sL, a.sN, a.sK] 25)).alloc (.cells #[.int .i64 0] 28) = V at *
  have c0 := cells_get (cs := [_, _, _]) (k := 0) b1.heap rfl
  have c1 := cells_get (cs := [_, _, _]) (k := 1) b1.heap rfl
  have c2 := cells_get (cs := [_, _, _]) (k := 2) b1.heap rfl
  refine exec_seq (exec_region_o fun ds => ?_)
  gi_wp2_with fail
  cases hp : a.isP with
  | false =>
    refine ⟨trivial, rfl, (callsIn_wide.2 (checked_no a V b1.at_ hp)).mono ?_⟩
    rintro e W2 ⟨rfl, hw2⟩
    refine eq_mk (Keep.of_below hw2) (.inr ⟨1, 28, 0, rfl, (hw2.block _ b3.lt).trans b3, ?_⟩)
    rintro W' W'' hG rfl
    have hB2 := hB.trans (hw2.mono hB.size)
    have d3 := hG.boxed (show Boxed W2 (w.heap.size + 1) 28 (.int .i64 0) from (hw2.block _ b3.lt).trans b3)
    exact ⟨_, results_num rfl rfl rfl (boxed_set d3 _), by rw [← HA.out]; simp [spareA, hp], (hB2.trans (hG.below (Nat.le_refl _) hB2.size)).setCell (by show w.heap.size ≤ w.heap.size + 1; omega) _⟩
  | true =>
    refine ⟨trivial, rfl, (callsIn_wide.2 (checked_yes a V b1.at_ hp)).mono ?_⟩
    rintro e W2 ⟨rfl, hw2⟩
    have hf := a.fine hp
    gi_wp2
    refine eq_mk (Keep.of_below hw2) ?_
    show Exec _ _ _ _ _ _
    have hS2 : SpB w a w.heap.size W2 := ⟨b1.keep hw2, (hw2.block _ b3.lt).trans b3, hB.trans (hw2.mono hB.size)⟩
    clear b1 b3 c0 c1 c2 hB hw2
    clear V
    have c0 := cells_get (cs := [_, _, _]) (k := 0) hS2.p.heap rfl
    have c1 := cells_get (cs := [_, _, _]) (k := 1) hS2.p.heap rfl
    have c2 := cells_get (cs := [_, _, _]) (k := 2) hS2.p.heap rfl
    refine exec_seq (exec_region_o fun ds => ?_)
    gi_wp2_with fail
    cases hc : canV (toP a.s3) with
    | false =>
      refine ⟨trivial, rfl, (callsIn_wide.2 (found_no a hf W2 hS2.p.at_ hc)).mono ?_⟩
      rintro e W3 ⟨rfl, hw3⟩
      have hS3 := hS2.keep hw3
      refine eq_mk (Keep.of_below hw3) (.inr ⟨4, 28, 0, rfl, hS3.e, ?_⟩)
      rintro W' W'' hG rfl
      exact ⟨_, results_num rfl rfl rfl (boxed_set (hG.boxed hS3.e) _), by rw [← HA.out]; simp [spareA, hp, hc], (hS3.below.trans (hG.below (Nat.le_refl _) hS3.below.size)).setCell (by show w.heap.size ≤ w.heap.size + 1; omega) _⟩
    | true =>
      refine ⟨trivial, rfl, (callsIn_wide.2 (found_yes a hf W2 hS2.p.at_ hc)).mono ?_⟩
      rintro e W3 ⟨rfl, hw3⟩
      have hA : A = (((spareF a.s3 a.L.length : Nat) : Int), 0) := by rw [← HA.out]; simp [spareA, hp, hc]
      have HA := Lib.hid hA
      clear hp hA hc
      gi_wp2
      refine eq_mk (Keep.of_below hw3) ?_
      show Exec _ _ _ _ _ _
      have hS3 := hS2.keep hw3
      clear c0 c1 c2 hS2 hw3
      clear W2
      refine exec_seq (exec_region_o fun ds => ?_)
      gi_wp2
      refine eq_mk (Keep.refl _) ?_
      show Exec _ _ _ _ _ _
      have hh := hS3.p.heap
      simp only [XP.sL] at hh
      have c0 := cells_get (cs := [_, _, _]) (k := 0) hh rfl
      clear hh
      refine exec_seq (exec_seq (exec_region_o fun ds => ?_))
      gi_wp2
      refine eq_mk (Keep.refl _) ?_
      show Exec _ _ _ _ _ _
      refine exec_block ?_
      refine exec_loop (SpI w a w.heap.size a.L.length) a.L.length ⟨0, by omega, rfl, hS3, by simp [Slots, Fits]; rfl⟩ ?_
      clear c0 hS3
      clear W3
      rintro m t X ⟨k, hk, hm, hS, hSl⟩
      have hl6 := hf.j
      obtain ⟨x, hx⟩ := Slots.open_ hSl; simp only [fill, Nat.reduceAdd] at hx; subst hx; clear hSl
      refine exec_seq (exec_region_o fun ds => ?_)
      gi_wp2
      refine eq_mk (Keep.refl _) ?_
      show Exec _ _ _ _ _ _
      refine exec_seq (exec_cond (b := decide (k < a.L.length)) (by first | rfl | (show Value.bool _ = _; congr 1; exact decide_eq_decide.2 (by omega))) (fun hp => exec_skip ?_) (fun hp => exec_exit ?_))
      · have hkl : k < a.L.length := by have := of_decide_eq_true hp; omega
        show Exec _ _ _ _ _ _
        obtain ⟨z, hz⟩ : ∃ z, canV (toP (a.s3.loaded k 0)) = z := ⟨_, rfl⟩
        have hcall := spared95 a hf k w.heap.size hkl X hS.p
        rw [hz] at hcall
        have hM : spareF a.s3 (k + 1) = if z then setB (spareF a.s3 k) k else spareF a.s3 k := by
          unfold spareF
          rw [← hz]
          rfl
        clear hz
        have hMl : spareF a.s3 k < 2 ^ 63 := Nat.lt_of_lt_of_le (mkS_lt _ k) (Nat.pow_le_pow_right (by omega) (by omega))
        obtain ⟨M2, hM2⟩ : ∃ M2, spareF a.s3 (k + 1) = M2 := ⟨_, rfl⟩
        rw [hM2] at hM
        have HM2 := Lib.hid hM2
        clear hM2
        generalize spareF a.s3 k = M at *
        have HM := Lib.hid hM
        clear hM
        refine exec_cut (SpM w a w.heap.size a.L.length k M2) ?_ ?_
        · refine exec_block (exec_seq (exec_region_o fun ds => ?_))
          gi_wp2
          refine eq_mk (Keep.refl _) ?_
          show Exec _ _ _ _ _ _
          refine exec_seq (exec_region_o fun ds => ?_)
          gi_wp2_with fail
          refine ⟨trivial, rfl, (callsIn_wide.2 hcall).mono ?_⟩
          rintro e Y ⟨rfl, hy⟩
          have hSY := hS.keep hy
          clear hcall hS
          gi_wp2
          refine eq_mk (Keep.of_below hy) ?_
          show Exec _ _ _ _ _ _
          clear hy
          cases z with
          | true =>
            refine exec_cond (b := true) rfl (fun hp => ?_) (fun hp => by cases hp)
            have hsh := shl_i k (by omega)
            have hor := or_i M (2 ^ k) hMl (Nat.pow_lt_pow_right (by omega) (by omega))
            rw [show M ||| 2 ^ k = M2 from HM.out.symm, ← pow_cast] at hor
            refine exec_region_o fun ds => ?_
            gi_wp2
            exact eq_mk (Keep.refl _) ⟨hSY, (by simp only [Slots, Fits, and_self])⟩
          | false =>
            refine exec_cond (b := false) rfl (fun hp => by cases hp) (fun hp => exec_skip ?_)
            rw [show M = M2 from HM.out.symm]
            exact ⟨hSY, (by simp only [Slots, Fits, and_self])⟩
        · clear hcall hS x
          clear X
          rintro t' Y ⟨hS, hSl⟩
          obtain ⟨x, hx⟩ := Slots.open_ hSl; simp only [fill, Nat.reduceAdd] at hx; subst hx; clear hSl
          have hw : IntKind.i64.wrap ((k : Int) + 1) = ((k + 1 : Nat) : Int) := by rw [IntWalk.i64_in _ (by omega)]; norm_cast
          refine exec_region_o fun ds => ?_
          gi_wp2
          exact eq_mk (Keep.refl _) ⟨m - 1, by omega, k + 1, by omega, by omega, hS, by rw [HM2.out]; simp only [Slots, Fits, and_self]; simp⟩
      · have hkl : k = a.L.length := by have := of_decide_eq_false hp; omega
        subst hkl
        have e1 := hS.e.cell
        have e2 := hS.e.frozen
        show Exec _ _ _ _ _ _
        refine exec_seq (exec_region_o fun ds => ?_)
        gi_wp2
        refine eq_mk ((Keep.refl _).setCell _ _) ?_
        show Exec _ _ _ _ _ _
        have g7 := boxed_set hS.e (.int .i64 0)
        have hB5 : Below w.heap.size w (X.setCell ⟨w.heap.size + 1, 0, none⟩ (.int .i64 0)) := hS.below.setCell (by show w.heap.size ≤ w.heap.size + 1; omega) _
        exact exec_ret (.inl ⟨.inr rfl, g7.lt, fun W' hG => ⟨_, results_num rfl rfl rfl (hG.boxed g7), by rw [HA.out], hB5.trans (hG.below (Nat.le_refl _) hB5.size)⟩⟩)
end Go.Proofs.Ytbdmmikflkpmpaa
end

section
namespace Go.Proofs.Ytbdmmikflkpmpaa
open Go.RowKit Go.TL Go.Shelf Go.Pn
attribute [local go_sem] Oper.semAt_some
attribute [local go_sem] run_store_func
def busyF (x : S3) : Nat := ((List.range 7).find? fun n => canV (toP (x.atMost n))).getD 0
def busyA (a : XP) : Int × Int := if a.isP then (if canV (toP a.s3) then ((busyF a.s3 : Nat), 0) else (0, 4)) else (0, 1)
theorem atMost_six {a : XP} (hf : a.Fine) : a.s3.atMost 6 = a.s3 := by
  have : a.s3.1.map (min 6) = a.s3.1 := by
    show (a.L.map Int.toNat).map (min 6) = a.L.map Int.toNat
    rw [List.map_map]
    refine List.map_congr_left fun y hy => ?_
    have := hf.lb y hy
    show min 6 y.toNat = y.toNat
    omega
  unfold S3.atMost
  rw [this]
theorem busy_find {x : S3} {n : Nat} (hn : n ≤ 6) (hlt : ∀ i, i < n → canV (toP (x.atMost i)) = false) (h : canV (toP (x.atMost n)) = true) : busyF x = n := by
  unfold busyF
  have e : List.range 7 = List.range n ++ (n :: (List.range 7).drop (n + 1)) := by
    rw [← range_drop (by omega), show List.range n = (List.range 7).take n by rw [List.take_range, Nat.min_eq_left (by omega)], List.take_append_drop]
  rw [e, List.find?_append, List.find?_eq_none.2 (fun y hy => by simp [hlt y (List.mem_range.1 hy)])]
  simp [h]
def BuI (w : World) (a : XP) (b : Nat) (m : Nat) (t : Array Value) (W : World) : Prop :=
  ∃ n : Nat, n ≤ 6 ∧ m = 6 - n ∧ (∀ i, i < n → canV (toP (a.s3.atMost i)) = false) ∧ SpB w a b W ∧ Slots (none :: some (.pointer (some ⟨b, 0, none⟩)) :: some (iv n) :: some (.pointer (some ⟨b + 1, 0, none⟩)) :: none :: none :: none :: o4 (o4 (o4 []))) t
set_option maxRecDepth 100000 in
set_option maxHeartbeats 600000 in
theorem Busy_any (a : XP) (w : World) (h : a.At w) : Calls Try.prog 41 #[a.val] w fun e w' => e = .returned (.tuple #[vi (busyA a).1, vi (busyA a).2]) ∧ Below w.heap.size w w' := by
  have hmf : ∀ fn first cap w, (Instr.makeFunc fn first cap).run Try.prog w = .ok (.func fn first cap) w := fun _ _ _ _ => rfl
  have hu25 := Try.underlying25
  have hu22 := Try.underlying22
  obtain ⟨A, hA⟩ : ∃ A, busyA a = A := ⟨_, rfl⟩
  rw [hA]
  have HA := Lib.hid hA
  clear hA
  refine (callsIn_wide (n := 0)).1 (callsIn_of_wp_marks Try.func41 rfl trivial ?_)
  simp only [Try.ntmps41, List.size_toArray, List.length_cons, List.length_nil, Nat.reduceAdd, Nat.reduceSub, Array.replicate_succ, Array.replicate_zero, List.push_toArray, List.append_toArray, List.nil_append, List.cons_append]
  simp only [XP.val]
  refine split_rest fun rest hR => ?_
  gi_wp2
  have hB := ((Below.refl w.heap.size w).alloc (Nat.le_refl _) (.cells #[a.sL, a.sN, a.sK] 25)).alloc (by simp) (.cells #[.int .i64 0] 28)
  have b1 : PBx ((w.alloc (.cells #[a.sL, a.sN, a.sK] 25)).alloc (.cells #[.int .i64 0] 28)) w.heap.size a := ⟨heap_next (World.alloc_heap_new _ _) _, h.below hB⟩
  have b3 : Boxed ((w.alloc (.cells #[a.sL, a.sN, a.sK] 25)).alloc (.cells #[.int .i64 0] 28)) (w.heap.size + 1) 28 (.int .i64 0) := by (simp only [Boxed, Box2, heap_alloc_at, heap_set_at, World.size_alloc, World.size_setCell]; repeat (first | rfl | rw [if_pos (by omega)] | rw [if_neg (by omega)]))
  refine guard_rest (lo := w.heap.size) (T := 133) (b := w.heap.size + 1) catches100 ⟨_, _, rfl⟩ (fun W => by simp [go_sem]) hB.size ?_
  subst hR
  generalize (w.alloc (.cells #[a.sL, a.sN, a.sK] 25)).alloc (.cells #[.int .i64 0] 28) = V at *
  have c0 := cells_get (cs := [_, _, _]) (k := 0) b1.heap rfl
  have c1 := cells_get (cs := [_, _, _]) (k := 1) b1.heap rfl
  have c2 := cells_get (cs := [_, _, _]) (k := 2) b1.heap rfl
  refine exec_seq (exec_region_o fun ds => ?_)
  gi_wp2_with fail
  cases hp : a.isP with
  | false =>
    refine ⟨trivial, rfl, (callsIn_wide.2 (checked_no a V b1.at_ hp)).mono ?_⟩
    rintro e W2 ⟨rfl, hw2⟩
    refine eq_mk (Keep.of_below hw2) (.inr ⟨1, 28, 0, rfl, (hw2.block _ b3.lt).trans b3, ?_⟩)
    rintro W' W'' hG rfl
    have hB2 := hB.trans (hw2.mono hB.size)
    have d3 := hG.boxed (show Boxed W2 (w.heap.size + 1) 28 (.int .i64 0) from (hw2.block _ b3.lt).trans b3)
    exact ⟨_, results_num rfl rfl rfl (boxed_set d3 _), by rw [← HA.out]; simp [busyA, hp], (hB2.trans (hG.below (Nat.le_refl _) hB2.size)).setCell (by show w.heap.size ≤ w.heap.size + 1; omega) _⟩
  | true =>
    refine ⟨trivial, rfl, (callsIn_wide.2 (checked_yes a V b1.at_ hp)).mono ?_⟩
    rintro e W2 ⟨rfl, hw2⟩
    have hf := a.fine hp
    gi_wp2
    refine eq_mk (Keep.of_below hw2) ?_
    show Exec _ _ _ _ _ _
    have hS2 : SpB w a w.heap.size W2 := ⟨b1.keep hw2, (hw2.block _ b3.lt).trans b3, hB.trans (hw2.mono hB.size)⟩
    clear b1 b3 c0 c1 c2 hB hw2
    clear V
    have c0 := cells_get (cs := [_, _, _]) (k := 0) hS2.p.heap rfl
    have c1 := cells_get (cs := [_, _, _]) (k := 1) hS2.p.heap rfl
    have c2 := cells_get (cs := [_, _, _]) (k := 2) hS2.p.heap rfl
    refine exec_seq (exec_region_o fun ds => ?_)
    gi_wp2_with fail
    cases hc : canV (toP a.s3) with
    | false =>
      refine ⟨trivial, rfl, (callsIn_wide.2 (found_no a hf W2 hS2.p.at_ hc)).mono ?_⟩
      rintro e W3 ⟨rfl, hw3⟩
      have hS3 := hS2.keep hw3
      refine eq_mk (Keep.of_below hw3) (.inr ⟨4, 28, 0, rfl, hS3.e, ?_⟩)
      rintro W' W'' hG rfl
      exact ⟨_, results_num rfl rfl rfl (boxed_set (hG.boxed hS3.e) _), by rw [← HA.out]; simp [busyA, hp, hc], (hS3.below.trans (hG.below (Nat.le_refl _) hS3.below.size)).setCell (by show w.heap.size ≤ w.heap.size + 1; omega) _⟩
    | true =>
      refine ⟨trivial, rfl, (callsIn_wide.2 (found_yes a hf W2 hS2.p.at_ hc)).mono ?_⟩
      rintro e W3 ⟨rfl, hw3⟩
      have hA : A = (((busyF a.s3 : Nat) : Int), 0) := by rw [← HA.out]; simp [busyA, hp, hc]
      have HA := Lib.hid hA
      have hcT := hc
      clear hp hA hc
      gi_wp2
      refine eq_mk (Keep.of_below hw3) ?_
      show Exec _ _ _ _ _ _
      have hS3 := hS2.keep hw3
      clear c0 c1 c2 hS2 hw3
      clear W2
      refine exec_seq (exec_block ?_)
      refine exec_loop (BuI w a w.heap.size) 6 ⟨0, by omega, rfl, fun i hi => by omega, hS3, by simp [Slots, Fits]⟩ ?_
      clear hS3
      clear W3
      rintro m t X ⟨n, hn, hm, hlt, hS, hSl⟩
      have hu136 := Try.underlying136
      have hu83 := Try.underlying83
      obtain ⟨x, hx⟩ := Slots.open_ hSl; simp only [fill, Nat.reduceAdd] at hx; subst hx; clear hSl
      obtain ⟨z, hz⟩ : ∃ z, canV (toP (a.s3.atMost n)) = z := ⟨_, rfl⟩
      have HN : z = false → n < 6 ∧ ∀ i, i < n + 1 → canV (toP (a.s3.atMost i)) = false := fun e => by
        refine ⟨Classical.byContradiction fun c => ?_, fun i hi => ?_⟩
        · have : n = 6 := by omega
          rw [this, atMost_six hf, hcT] at hz
          rw [← hz] at e
          cases e
        · by_cases c : i = n
          · rw [c, hz, e]
          · exact hlt i (by omega)
      have HT : z = true → busyF a.s3 = n := fun e => busy_find hn hlt (by rw [hz, e])
      have H1 := Lib.hid HN
      have H2 := Lib.hid HT
      have HZ := Lib.hid hz
      clear HN HT hz hlt
      have c0 : ∀ Y, Below X.heap.size X Y → Y.cell? ⟨w.heap.size, 0, none⟩ = some a.sL ∧ Y.cell? ⟨w.heap.size, 1, none⟩ = some a.sN ∧ Y.cell? ⟨w.heap.size, 2, none⟩ = some a.sK := fun Y hY => ⟨cells_get (cs := [_, _, _]) (hS.keep hY).p.heap rfl, cells_get (cs := [_, _, _]) (hS.keep hY).p.heap rfl, cells_get (cs := [_, _, _]) (hS.keep hY).p.heap rfl⟩
      have hSp := hS
      refine exec_seq (exec_seq (region_of_tail 7 (by kernel_rfl) (by kernel_rfl) (by kernel_rfl) (fun Y => Below X.heap.size X Y) (fun _ _ _ => False) (fun _ _ _ h => h.elim) fun ds => ?_))
      clear hS
      have hS : Below X.heap.size X X.drew := (Below.refl _ X).drew
      refine held_take 0 (.agg #[a.sL, a.sN, a.sK]) rfl (by kernel_rfl) (by kernel_rfl) (by kernel_rfl) (by intro _ _ _ h; first | exact h | (simpa [behind, Act.put] using h)) rfl (by first | exact hS | assumption) (fun wq hq => ?_) ?_; (focus (simp [go_sem, hu25, (c0 wq hq).1, (c0 wq hq).2.1, (c0 wq hq).2.2]; done)); simp only [Act.put, Array.getInternal_eq_getElem, List.take_succ_cons, List.take_zero, List.take_nil, List.getElem_toArray, List.getElem_cons_succ, List.getElem_cons_zero, List.setIfInBounds_toArray, List.set_cons_succ, List.set_cons_zero]
      refine held_take 1 (iv n) rfl (by kernel_rfl) (by kernel_rfl) (by kernel_rfl) (by intro _ _ _ h; first | exact h | (simpa [behind, Act.put] using h)) rfl (by first | exact hS | assumption) (fun wq hq => ?_) ?_; (focus (first | rfl | (simp [go_sem]; done))); simp only [Act.put, Array.getInternal_eq_getElem, List.take_succ_cons, List.take_zero, List.take_nil, List.getElem_toArray, List.getElem_cons_succ, List.getElem_cons_zero, List.setIfInBounds_toArray, List.set_cons_succ, List.set_cons_zero]
      refine held_call 2 (f := 101) (args := #[iv n]) rfl (by kernel_rfl) rfl (by simp [go_sem]) ?_
      refine (atMost101 n X.drew).mono ?_
      rintro e X1 ⟨b1, rfl, hb1, hbx, hx1⟩
      have k1 : Below X.heap.size X X1 := hS.trans hx1
      refine .inl ⟨_, rfl, k1, ?_⟩
      simp only [Act.put, Array.getInternal_eq_getElem, List.take_succ_cons, List.take_zero, List.take_nil, List.getElem_toArray, List.getElem_cons_succ, List.getElem_cons_zero, List.setIfInBounds_toArray, List.set_cons_succ, List.set_cons_zero]
      have h2 := (Below.refl X1.heap.size X1).alloc (Nat.le_refl _) (.cells #[.func (.func 130) #[] #[.pointer (some ⟨b1, 0, none⟩)]] 83)
      have bA := Boxed.new X1 83 (.func (.func 130) #[] #[.pointer (some ⟨b1, 0, none⟩)])
      have k2 : Below X.heap.size X (X1.alloc (.cells #[.func (.func 130) #[] #[.pointer (some ⟨b1, 0, none⟩)]] 83)) := k1.trans (h2.mono k1.size)
      have bB : Boxed (X1.alloc (.cells #[.func (.func 130) #[] #[.pointer (some ⟨b1, 0, none⟩)]] 83)) b1 3 (iv n) := (h2.block _ hbx.lt).trans hbx
      refine held_mk 3 (.slice (some ⟨X1.heap.size, 0, none⟩) 1 1) (X1.alloc (.cells #[.func (.func 130) #[] #[.pointer (some ⟨b1, 0, none⟩)]] 83)) rfl (by kernel_rfl) rfl (by simp [go_sem, hu136, hu83]) k2 ?_
      simp only [Act.put, Array.getInternal_eq_getElem, List.take_succ_cons, List.take_zero, List.take_nil, List.getElem_toArray, List.getElem_cons_succ, List.getElem_cons_zero, List.setIfInBounds_toArray, List.set_cons_succ, List.set_cons_zero]
      generalize X1.alloc (.cells #[.func (.func 130) #[] #[.pointer (some ⟨b1, 0, none⟩)]] 83) = X2 at *
      generalize X1.heap.size = bA' at *
      refine held_call 4 (f := 56) (args := #[.agg #[a.sL, a.sN, a.sK], .slice (some ⟨bA', 0, none⟩) 1 1]) rfl (by kernel_rfl) rfl (by simp [go_sem]) ?_
      refine (open_one a hf X2 (hSp.keep k2).p.at_ (atMost_chg bB) trivial (s3_atMost (XP.good hf) n) ⟨bA', 0, none⟩ bA.cell).mono ?_
      rintro e X3 ⟨pp, mm, rfl, hpp, hx3, hP⟩
      have k3 := k2.trans (hx3.mono k2.size)
      refine .inl ⟨_, rfl, k3, ?_⟩
      simp only [Act.put, Array.getInternal_eq_getElem, List.take_succ_cons, List.take_zero, List.take_nil, List.getElem_toArray, List.getElem_cons_succ, List.getElem_cons_zero, List.setIfInBounds_toArray, List.set_cons_succ, List.set_cons_zero]
      refine held_call 5 (f := 61) (args := #[.pointer (some ⟨pp, 0, none⟩)]) rfl (by kernel_rfl) rfl (by simp [go_sem]) ?_
      refine (can61 hP).mono ?_
      rintro e X4 ⟨rfl, hx4⟩
      have k4 := k3.trans (hx4.mono k3.size)
      rw [HZ.out]
      refine .inl ⟨_, rfl, k4, ?_⟩
      simp only [Act.put, Array.getInternal_eq_getElem, List.take_succ_cons, List.take_zero, List.take_nil, List.getElem_toArray, List.getElem_cons_succ, List.getElem_cons_zero, List.setIfInBounds_toArray, List.set_cons_succ, List.set_cons_zero]
      refine held_take 6 (.bool (!z)) rfl (by kernel_rfl) (by kernel_rfl) (by kernel_rfl) (by intro _ _ _ h; first | exact h | (simpa [behind, Act.put] using h)) rfl (by first | exact hS | assumption) (fun wq hq => ?_) ?_; (focus (simp [go_sem]; done)); simp only [Act.put, Array.getInternal_eq_getElem, List.take_succ_cons, List.take_zero, List.take_nil, List.getElem_toArray, List.getElem_cons_succ, List.getElem_cons_zero, List.setIfInBounds_toArray, List.set_cons_succ, List.set_cons_zero]
      refine held_done (by kernel_rfl) ?_
      refine any_done (by kernel_rfl) ⟨rfl, Keep.of_below k4, ?_⟩
      show Exec _ _ _ _ _ _
      have hS4 := hSp.keep k4
      clear hSp c0 hS k1 k2 k3 k4 bA bB hbx hP hpp hx3 hx4 h2 hx1
      cases z with
      | false =>
        obtain ⟨hn6, hlt⟩ := H1.out rfl
        have HL := Lib.hid hlt
        clear hlt
        refine exec_cond (b := true) rfl (fun hp => exec_skip ?_) (fun hp => by cases hp)
        show Exec _ _ _ _ _ _
        have hw : IntKind.i64.wrap ((n : Int) + 1) = ((n + 1 : Nat) : Int) := by rw [IntWalk.i64_in _ (by omega)]; norm_cast
        refine exec_block (exec_region_o fun ds => ?_)
        gi_wp2
        exact eq_mk (Keep.refl _) ⟨m - 1, by omega, n + 1, by omega, by omega, HL.out, hS4, by simp only [Slots, Fits, and_self]; simp⟩
      | true =>
        have hbz := H2.out rfl
        rw [hbz] at HA
        refine exec_cond (b := false) rfl (fun hp => by cases hp) (fun hp => exec_exit ?_)
        have e1 := hS4.e.cell
        have e2 := hS4.e.frozen
        show Exec _ _ _ _ _ _
        refine exec_seq (exec_region_o fun ds => ?_)
        gi_wp2
        refine eq_mk ((Keep.refl _).setCell _ _) ?_
        show Exec _ _ _ _ _ _
        have g7 := boxed_set hS4.e (.int .i64 0)
        have hB5 : Below w.heap.size w (X4.setCell ⟨w.heap.size + 1, 0, none⟩ (.int .i64 0)) := hS4.below.setCell (by show w.heap.size ≤ w.heap.size + 1; omega) _
        exact exec_ret (.inl ⟨.inr rfl, g7.lt, fun W' hG => ⟨_, results_num rfl rfl rfl (hG.boxed g7), by rw [HA.out], hB5.trans (hG.below (Nat.le_refl _) hB5.size)⟩⟩)
end Go.Proofs.Ytbdmmikflkpmpaa
end

section
namespace Go.Proofs.Ytbdmmikflkpmpaa
open Go.RowKit Go.TL Go.Shelf Go.Pn
attribute [local go_sem] Oper.semAt_some
attribute [local go_sem] run_store_func
def every (n : Nat) : Nat := 2 ^ n - 1
def waiveF (x : S3) : Nat := ((bySize x.2.2.length).find? fun s => canV (toP (x.waive s))).getD (every x.2.2.length)
def waiveA (a : XP) : Int × Int := if a.isP then (if canV (toP (a.s3.waive (every a.K.length))) then ((waiveF a.s3 : Nat), 0) else (0, 4)) else (0, 1)
abbrev fn91 (b : Nat) : Value := .func (.func 91) #[] #[.pointer (some ⟨b, 0, none⟩)]
structure WvB (w : World) (a : XP) (b bc bs n : Nat) (W : World) : Prop where
  p : PBx W b a
  r : Boxed W (b + 1) 3 (vi 0)
  e : Boxed W (b + 1 + 1) 28 (vi 0)
  c : Boxed W bc 123 (fn91 b)
  s : Boxed W bs 3 (iv n)
  below : Below w.heap.size w W
theorem WvB.grow {w : World} {a : XP} {b bc bs n B : Nat} {W W' : World} (h : WvB w a b bc bs n W) (hG : Grow B W W') (hB : w.heap.size ≤ B) (hw : w.heap.size ≤ W.heap.size) : WvB w a b bc bs n W' := ⟨h.p.grow hG, hG.boxed h.r, hG.boxed h.e, hG.boxed h.c, hG.boxed h.s, h.below.trans (hG.below hB hw)⟩
theorem WvB.keep {w : World} {a : XP} {b bc bs n : Nat} {W W' : World} (h : WvB w a b bc bs n W) (hb : Below W.heap.size W W') : WvB w a b bc bs n W' := ⟨h.p.keep hb, (hb.block _ h.r.lt).trans h.r, (hb.block _ h.e.lt).trans h.e, (hb.block _ h.c.lt).trans h.c, (hb.block _ h.s.lt).trans h.s, h.below.trans (hb.mono h.below.size)⟩
def WvI (w : World) (a : XP) (b bc bs n : Nat) (L : List Nat) (k : Nat) (V : World) : Prop := WvB w a b bc bs n V ∧ ∀ s ∈ L.take k, canV (toP (a.s3.waive s)) = false
def WvX (w : World) (a : XP) (b : Nat) (L : List Nat) (c : Code) (V : World) : Prop := c = .ret ∧ ∃ s, L.find? (fun s => canV (toP (a.s3.waive s))) = some s ∧ Boxed V (b + 1) 3 (vi s) ∧ Boxed V (b + 1 + 1) 28 (vi 0) ∧ Below w.heap.size w V
set_option maxRecDepth 100000 in
set_option maxHeartbeats 600000 in
theorem Waive_any (a : XP) (w : World) (h : a.At w) : Calls Try.prog 36 #[a.val] w fun e w' => e = .returned (.tuple #[vi (waiveA a).1, vi (waiveA a).2]) ∧ Below w.heap.size w w' := by
  have hmf : ∀ fn first cap w, (Instr.makeFunc fn first cap).run Try.prog w = .ok (.func fn first cap) w := fun _ _ _ _ => rfl
  have hu25 := Try.underlying25
  have hu23 := Try.underlying23
  obtain ⟨A, hA⟩ : ∃ A, waiveA a = A := ⟨_, rfl⟩
  rw [hA]
  have HA := Lib.hid hA
  clear hA
  refine (callsIn_wide (n := 0)).1 (callsIn_of_wp_marks Try.func36 rfl trivial ?_)
  simp only [Try.ntmps36, List.size_toArray, List.length_cons, List.length_nil, Nat.reduceAdd, Nat.reduceSub, Array.replicate_succ, Array.replicate_zero, List.push_toArray, List.append_toArray, List.nil_append, List.cons_append]
  simp only [XP.val]
  refine split_rest fun rest hR => ?_
  gi_wp2
  have hB := (((Below.refl w.heap.size w).alloc (Nat.le_refl _) (.cells #[a.sL, a.sN, a.sK] 25)).alloc (by simp) (.cells #[.int .i64 0] 3)).alloc (by simp; omega) (.cells #[.int .i64 0] 28)
  have b1 : PBx (((w.alloc (.cells #[a.sL, a.sN, a.sK] 25)).alloc (.cells #[.int .i64 0] 3)).alloc (.cells #[.int .i64 0] 28)) w.heap.size a := ⟨heap_next (heap_next (World.alloc_heap_new _ _) _) _, h.below hB⟩
  have b2 : Boxed (((w.alloc (.cells #[a.sL, a.sN, a.sK] 25)).alloc (.cells #[.int .i64 0] 3)).alloc (.cells #[.int .i64 0] 28)) (w.heap.size + 1) 3 (.int .i64 0) := by (simp only [Boxed, Box2, heap_alloc_at, heap_set_at, World.size_alloc, World.size_setCell]; repeat (first | rfl | rw [if_pos (by omega)] | rw [if_neg (by omega)]))
  have b3 : Boxed (((w.alloc (.cells #[a.sL, a.sN, a.sK] 25)).alloc (.cells #[.int .i64 0] 3)).alloc (.cells #[.int .i64 0] 28)) (w.heap.size + 1 + 1) 28 (.int .i64 0) := by (simp only [Boxed, Box2, heap_alloc_at, heap_set_at, World.size_alloc, World.size_setCell]; repeat (first | rfl | rw [if_pos (by omega)] | rw [if_neg (by omega)]))
  refine guard_rest (lo := w.heap.size) (T := 133) (b := w.heap.size + 1 + 1) catches90 ⟨_, _, rfl⟩ (fun W => by simp [go_sem]) hB.size ?_
  subst hR
  generalize ((w.alloc (.cells #[a.sL, a.sN, a.sK] 25)).alloc (.cells #[.int .i64 0] 3)).alloc (.cells #[.int .i64 0] 28) = V at *
  have c0 := cells_get (cs := [_, _, _]) (k := 0) b1.heap rfl
  have c1 := cells_get (cs := [_, _, _]) (k := 1) b1.heap rfl
  have c2 := cells_get (cs := [_, _, _]) (k := 2) b1.heap rfl
  refine exec_seq (exec_region_o fun ds => ?_)
  gi_wp2_with fail
  cases hp : a.isP with
  | false =>
    refine ⟨trivial, rfl, (callsIn_wide.2 (checked_no a V b1.at_ hp)).mono ?_⟩
    rintro e W2 ⟨rfl, hw2⟩
    refine eq_mk (Keep.of_below hw2) (.inr ⟨1, 28, 0, rfl, (hw2.block _ b3.lt).trans b3, ?_⟩)
    rintro W' W'' hG rfl
    have hB2 := hB.trans (hw2.mono hB.size)
    have d2 := hG.boxed (show Boxed W2 (w.heap.size + 1) 3 (.int .i64 0) from (hw2.block _ b2.lt).trans b2)
    have d3 := hG.boxed (show Boxed W2 (w.heap.size + 1 + 1) 28 (.int .i64 0) from (hw2.block _ b3.lt).trans b3)
    exact ⟨_, results_cc rfl rfl rfl (boxed_far d2 _ (by omega)) (boxed_set d3 _), by rw [← HA.out]; simp [waiveA, hp], (hB2.trans (hG.below (Nat.le_refl _) hB2.size)).setCell (by show w.heap.size ≤ w.heap.size + 1 + 1; omega) _⟩
  | true =>
    refine ⟨trivial, rfl, (callsIn_wide.2 (checked_yes a V b1.at_ hp)).mono ?_⟩
    rintro e W2 ⟨rfl, hw2⟩
    have hA : A = if canV (toP (a.s3.waive (every a.K.length))) then (((waiveF a.s3 : Nat) : Int), 0) else (0, 4) := by rw [← HA.out]; simp [waiveA, hp]
    have hf := a.fine hp
    have HA := Lib.hid hA
    clear hp hA
    gi_wp2
    refine eq_mk (Keep.of_below hw2) ?_
    show Exec _ _ _ _ _ _
    have hB2 := hB.trans (hw2.mono hB.size)
    have q1 := b1.keep hw2
    have q2 : Boxed W2 (w.heap.size + 1) 3 (.int .i64 0) := (hw2.block _ b2.lt).trans b2
    have q3 : Boxed W2 (w.heap.size + 1 + 1) 28 (.int .i64 0) := (hw2.block _ b3.lt).trans b3
    clear b1 b2 b3 c0 c1 c2 hB hw2
    clear V
    refine exec_seq (exec_region_o fun ds => ?_)
    gi_wp2
    refine eq_mk ((Keep.refl _).alloc _) ?_
    show Exec _ _ _ _ _ _
    have gB := (Below.refl W2.heap.size W2).alloc (Nat.le_refl _) (.cells #[fn91 w.heap.size] 123)
    have qc := Boxed.new W2 123 (fn91 w.heap.size)
    replace q1 := q1.keep gB
    replace q2 : Boxed _ (w.heap.size + 1) 3 (.int .i64 0) := (gB.block _ q2.lt).trans q2
    replace q3 : Boxed _ (w.heap.size + 1 + 1) 28 (.int .i64 0) := (gB.block _ q3.lt).trans q3
    replace hB2 := hB2.trans (gB.mono hB2.size)
    clear gB
    generalize W2.alloc (.cells #[fn91 w.heap.size] 123) = W3 at *
    generalize W2.heap.size = bc at *
    clear W2
    have hh := q1.heap
    simp only [XP.sK] at hh
    have c2 := cells_get (cs := [_, _, _]) (k := 2) hh rfl
    clear hh
    have hk10 := hf.k
    have hwe : every a.K.length < 2 ^ 63 := by
      unfold every
      have : 2 ^ a.K.length ≤ 2 ^ 10 := Nat.pow_le_pow_right (by omega) hk10
      omega
    have hsh := shl_u a.K.length (by omega)
    have hsb : IntKind.u64.wrap ((2 : Int) ^ a.K.length - 1) = ((every a.K.length : Nat) : Int) := by
      have h1 : 1 ≤ 2 ^ a.K.length := Nat.one_le_two_pow
      unfold every at hwe ⊢
      rw [pow_cast, wrapu _ (by omega) (by omega)]
      omega
    refine exec_seq (exec_region_o fun ds => ?_)
    gi_wp2
    refine eq_mk (Keep.refl _) ?_
    show Exec _ _ _ _ _ _
    clear hsh hsb
    have hcall := enough91 a hf (every a.K.length) w.heap.size (by omega) W3 q1
    obtain ⟨E, hE⟩ : ∃ E, every a.K.length = E := ⟨_, rfl⟩
    have HF : waiveF a.s3 = ((bySize a.K.length).find? fun s => canV (toP (a.s3.waive s))).getD E := by
      unfold waiveF
      rw [show a.s3.2.2.length = a.K.length from by simp [XP.s3], hE]
    rw [hE] at hcall hwe HA ⊢
    have HF := Lib.hid HF
    clear hE
    obtain ⟨z, hz⟩ : ∃ z, canV (toP (a.s3.waive E)) = z := ⟨_, rfl⟩
    rw [hz] at hcall HA
    clear hz
    have cc := qc.cell
    refine exec_seq (exec_region_o fun ds => ?_)
    gi_wp2_with fail
    refine ⟨trivial, rfl, (callsIn_wide.2 hcall).mono ?_⟩
    rintro e W4 ⟨rfl, hw4⟩
    have hB4 := hB2.trans (hw4.mono hB2.size)
    have r1 := q1.keep hw4
    have r2 : Boxed W4 (w.heap.size + 1) 3 (.int .i64 0) := (hw4.block _ q2.lt).trans q2
    have r3 : Boxed W4 (w.heap.size + 1 + 1) 28 (.int .i64 0) := (hw4.block _ q3.lt).trans q3
    have rc : Boxed W4 bc 123 (fn91 w.heap.size) := (hw4.block _ qc.lt).trans qc
    clear hcall cc c2 q1 q2 q3 qc hB2
    gi_wp2_with fail
    cases z with
    | false =>
      refine ⟨trivial, rfl, (callsIn_wide.2 (need_no 4 W4)).mono ?_⟩
      rintro e W5 ⟨rfl, rfl⟩
      refine eq_mk (Keep.of_below hw4) (.inr ⟨4, 28, 0, rfl, r3, ?_⟩)
      rintro W' W'' hG rfl
      exact ⟨_, results_cc rfl rfl rfl (boxed_far (hG.boxed r2) _ (by omega)) (boxed_set (hG.boxed r3) _), by rw [HA.out]; rfl, (hB4.trans (hG.below (Nat.le_refl _) hB4.size)).setCell (by show w.heap.size ≤ w.heap.size + 1 + 1; omega) _⟩
    | true =>
    refine ⟨trivial, rfl, (callsIn_wide.2 (need_yes 4 W4)).mono ?_⟩
    rintro e W5 ⟨rfl, rfl⟩
    have hA : A = (((waiveF a.s3 : Nat) : Int), 0) := HA.out
    clear HA
    have HA := Lib.hid hA
    clear hA
    gi_wp2
    refine eq_mk (Keep.of_below hw4) ?_
    show Exec _ _ _ _ _ _
    clear hw4
    clear W3
    have hh := r1.heap
    simp only [XP.sK] at hh
    have c2 := cells_get (cs := [_, _, _]) (k := 2) hh rfl
    clear hh
    refine exec_seq (exec_seq (exec_region_o fun ds => ?_))
    gi_wp2_with fail
    refine ⟨trivial, rfl, (callsIn_wide.2 (smaller93 a.K.length W4)).mono ?_⟩
    rintro e W5 ⟨rfl, rfl⟩
    gi_wp2_with fail
    refine eq_mk ((Keep.refl _).alloc _) ?_
    show Exec _ _ _ _ _ _
    refine exec_block ?_
    have gB := (Below.refl W4.heap.size W4).alloc (Nat.le_refl _) (.cells #[iv a.K.length] 3)
    have qS := Boxed.new W4 3 (iv a.K.length)
    have hSh : WvB w a w.heap.size bc W4.heap.size a.K.length (W4.alloc (.cells #[iv a.K.length] 3)) := ⟨r1.keep gB, (gB.block _ r2.lt).trans r2, (gB.block _ r3.lt).trans r3, (gB.block _ rc.lt).trans rc, qS, hB4.trans (gB.mono hB4.size)⟩
    have hsz : (W4.alloc (.cells #[iv a.K.length] 3)).heap.size = W4.heap.size + 1 := by simp
    have hw2s := hB4.size
    have hq3 := r3.lt
    clear r1 r2 r3 rc c2 hB4 gB
    generalize W4.alloc (.cells #[iv a.K.length] 3) = W3 at *
    generalize W4.heap.size = bs at *
    clear W4
    have it := smaller127 bs a.K.length hk10 W3 qS
    refine exec_range (L := bySize a.K.length) rfl (enters_of Try.func127 (by kernel_rfl) rfl) it (fun k hk => by omega) (fun _ => rfl)
      (WvI w a w.heap.size bc bs a.K.length (bySize a.K.length)) (WvX w a w.heap.size (bySize a.K.length))
      (fun k X Y ⟨h1, h2⟩ hg => ⟨h1.grow hg (by omega) h1.below.size, h2⟩)
      (fun c X Y ⟨h1, s, h2, h3, h4, h5⟩ hg => ⟨h1, s, h2, hg.boxed h3, hg.boxed h4, h5.trans (hg.below (by omega) h5.size)⟩)
      ⟨hSh, by simp⟩ ?round ?done ?ret ?exit
    case ret =>
      rintro W ⟨_, s, hfd, hr, he, hB⟩
      have e1 : waiveF a.s3 = s := by rw [HF.out, hfd]; rfl
      exact .inl ⟨.inr rfl, he.lt, fun W' hG => ⟨_, results_cc rfl rfl rfl (hG.boxed hr) (hG.boxed he), by rw [HA.out, e1], hB.trans (hG.below (Nat.le_refl _) hB.size)⟩⟩
    case exit =>
      rintro id W ⟨hc, _⟩
      cases hc
    case done =>
      rintro W ⟨hS, hall⟩
      rw [List.take_length] at hall
      have e1 : waiveF a.s3 = E := by
        rw [HF.out, List.find?_eq_none.2 fun s hs => by simp [hall s hs]]
        rfl
      have HE := Lib.hid e1
      clear e1 hall it qS hSh
      have f1 := hS.r.cell
      have f2 := hS.r.frozen
      have f3 := hS.e.cell
      have f4 := hS.e.frozen
      have hcv : IntKind.i64.wrap (E : Int) = (E : Int) := IntWalk.i64_in _ (by omega)
      show Exec _ _ _ _ _ _
      have g1 := boxed_set hS.r (vi E)
      have g2 := boxed_far hS.e (b := w.heap.size + 1) (vi E) (by omega)
      have g3 := g2.cell
      have g4 := g2.frozen
      refine exec_seq (exec_region_o fun ds => ?_)
      gi_wp2
      refine eq_mk (((Keep.refl _).setCell _ _).setCell _ _) ?_
      show Exec _ _ _ _ _ _
      have g5 := boxed_set g2 (vi 0)
      have g6 := boxed_far g1 (b := w.heap.size + 1 + 1) (vi 0) (by omega)
      have hB5 := (hS.below.setCell (p := ⟨w.heap.size + 1, 0, none⟩) (by show w.heap.size ≤ w.heap.size + 1; omega) (vi E)).setCell (p := ⟨w.heap.size + 1 + 1, 0, none⟩) (by show w.heap.size ≤ w.heap.size + 1 + 1; omega) (vi 0)
      exact exec_ret (.inl ⟨.inr rfl, g5.lt, fun W' hG => ⟨_, results_cc rfl rfl rfl (hG.boxed g6) (hG.boxed g5), by rw [HA.out, HE.out], hB5.trans (hG.below (Nat.le_refl _) hB5.size)⟩⟩)
    case round =>
      clear it qS hSh
      rintro l1 k hk V hV ⟨hS, hall⟩
      refine exec_region_r fun ds => ?_
      gi_wp2
      refine eq_mk (Keep.refl _) ⟨rfl, Same.refl _ _, ?_⟩
      intro V1 hG hsz1
      have hS1 := hS.grow hG (by omega) hS.below.size
      obtain ⟨s, hs⟩ : ∃ s, (bySize a.K.length)[k]'hk = s := ⟨_, rfl⟩
      have hsm : s ∈ bySize a.K.length := by rw [← hs]; exact List.getElem_mem hk
      have hs64 : s < 1024 := Nat.lt_of_lt_of_le (mem_bySize hsm) (show 2 ^ a.K.length ≤ 2 ^ 10 from Nat.pow_le_pow_right (by omega) (by omega))
      have HT : canV (toP (a.s3.waive s)) = false → ∀ y ∈ (bySize a.K.length).take (k + 1), canV (toP (a.s3.waive y)) = false := by
        intro hc y hy
        rw [List.take_succ_eq_append_getElem hk, List.mem_append, List.mem_singleton] at hy
        rcases hy with hy | hy
        · exact hall y hy
        · rw [hy, hs]; exact hc
      have HF : canV (toP (a.s3.waive s)) = true → (bySize a.K.length).find? (fun s => canV (toP (a.s3.waive s))) = some s := by
        intro hc
        rw [← List.take_append_drop k (bySize a.K.length), List.find?_append, List.find?_eq_none.2 (fun y hy => by simp [hall y hy]), List.drop_eq_getElem_cons hk, hs]
        simp [hc]
      have H1 := Lib.hid HT
      have H2 := Lib.hid HF
      clear HT HF hall hsm hS hG hsz1
      simp only [hs]
      clear hs hV
      clear V
      have hcall := enough91 a hf s w.heap.size (by omega) V1 hS1.p
      have cc := hS1.c.cell
      refine exec_block (exec_seq (exec_region_r fun ds => ?_))
      gi_wp2_with fail
      refine ⟨trivial, rfl, (callsIn_wide.2 hcall).mono ?_⟩
      rintro e V2 ⟨rfl, k4⟩
      gi_wp2
      refine eq_mk (Keep.of_below k4) ?_
      show Exec _ _ _ _ _ _
      have hS4 := hS1.keep k4
      clear cc hcall
      generalize canV (toP (a.s3.waive s)) = z at *
      cases z with
      | false =>
        refine exec_cond (b := false) rfl (fun h => by cases h) (fun _ => exec_skip ?_)
        exact ⟨fun q hq => by rw [hq]; exact k4.block bs hS1.s.lt, hS4, H1.out rfl⟩
      | true =>
        refine exec_cond (b := true) rfl (fun _ => ?_) (fun h => by cases h)
        have f1 := hS4.r.cell
        have f2 := hS4.r.frozen
        have hcv : IntKind.i64.wrap (s : Int) = (s : Int) := IntWalk.i64_in _ (by omega)
        have g1 := boxed_set hS4.r (vi s)
        have g2 := boxed_far hS4.e (b := w.heap.size + 1) (vi s) (by omega)
        have g3 := g2.cell
        have g4 := g2.frozen
        have g5 := boxed_set g2 (vi 0)
        have g6 := boxed_far g1 (b := w.heap.size + 1 + 1) (vi 0) (by omega)
        have hB5 := (hS4.below.setCell (p := ⟨w.heap.size + 1, 0, none⟩) (by show w.heap.size ≤ w.heap.size + 1; omega) (vi s)).setCell (p := ⟨w.heap.size + 1 + 1, 0, none⟩) (by show w.heap.size ≤ w.heap.size + 1 + 1; omega) (vi 0)
        refine exec_seq (exec_region_r fun ds => ?_)
        gi_wp2
        refine eq_mk (((Keep.refl _).setCell _ _).setCell _ _) ?_
        exact exec_ret ⟨rfl, s, H2.out trivial, g6, g5, hB5⟩
end Go.Proofs.Ytbdmmikflkpmpaa
end

section
namespace Go.Proofs.Ytbdmmikflkpmpaa
open Go.RowKit Go.TL Go.Shelf Go.Pn
attribute [local go_sem] Oper.semAt_some
attribute [local go_sem] run_store_func
structure PX (lo : Nat) (W : World) (pp bL bN : Nat) (AK : Option Addr) (nK cK : Nat) (vF : Value) (P : Pnl) : Prop where
  ok : P.Ok
  fl : P.fit.length = P.needs.length
  lb : ∀ n ∈ P.loads, n ≤ 1000000
  nb : ∀ n ∈ P.needs, n ≤ 1000000
  fb : ∀ n ∈ P.fit, n < 2 ^ 64
  heap : W.heap[pp]? = some (.cells #[.slice (some ⟨bL, 0, none⟩) P.loads.length P.loads.length, .slice (some ⟨bN, 0, none⟩) P.needs.length P.needs.length, .slice AK nK cK, vF] 75 (0, 0))
  hl : W.heap[bL]? = some (.cells (P.loads.map iv).toArray 3 (0, 0))
  hn : W.heap[bN]? = some (.cells (P.needs.map iv).toArray 3 (0, 0))
  own : W.ownsRow (pp + 1) 70 1 vF P.fit.length (P.fit.map u64)
  l1 : lo ≤ bL
  l2 : lo ≤ bN
  g1 : bL < pp
  g2 : bN < pp
  ne : bL ≠ bN
theorem PX.pnl {lo : Nat} {W : World} {pp bL bN : Nat} {AK : Option Addr} {nK cK : Nat} {vF : Value} {P : Pnl} (h : PX lo W pp bL bN AK nK cK vF P) : ∃ m, PnlAt W pp P m := by
  obtain ⟨A, c, e, hr⟩ := row_of_own h.own
  have hh := h.heap
  subst e
  rw [h.fl] at hh
  exact ⟨⟨some ⟨bL, 0, none⟩, P.loads.length, some ⟨bN, 0, none⟩, P.needs.length, AK, nK, cK, A, c⟩, h.ok, h.fl, h.lb, h.nb, h.fb, hh, row_of_cells h.hl, row_of_cells h.hn, hr⟩
theorem PX.grow {lo B : Nat} {W W' : World} {pp bL bN : Nat} {AK : Option Addr} {nK cK : Nat} {vF : Value} {P : Pnl} (h : PX lo W pp bL bN AK nK cK vF P) (hg : Grow B W W') : PX lo W' pp bL bN AK nK cK vF P :=
  ⟨h.ok, h.fl, h.lb, h.nb, h.fb, hg.same _ _ h.heap (.inr rfl), hg.same _ _ h.hl (.inr rfl), hg.same _ _ h.hn (.inr rfl), own_grow h.own hg, h.l1, h.l2, h.g1, h.g2, h.ne⟩
theorem PX.keep {lo : Nat} {W W' : World} {pp bL bN : Nat} {AK : Option Addr} {nK cK : Nat} {vF : Value} {P : Pnl} (h : PX lo W pp bL bN AK nK cK vF P) (hb : Below W.heap.size W W') : PX lo W' pp bL bN AK nK cK vF P := h.grow (Grow.of_below (B := 0) hb)
theorem set_all {l : List Nat} {q : Nat → Prop} {i v : Nat} (h : ∀ n ∈ l, q n) (hv : q v) : ∀ n ∈ l.set i v, q n := fun n hn => (List.mem_or_eq_of_mem_set hn).elim (h n) (fun e => e ▸ hv)
theorem PX.setF {lo : Nat} {W : World} {pp bL bN : Nat} {AK : Option Addr} {nK cK : Nat} {P : Pnl} {g c : Nat} (h : PX lo W pp bL bN AK nK cK (.slice (some ⟨g, 0, none⟩) P.fit.length c) P) (i v : Nat) (hv : v < 2 ^ 64) : PX lo (W.setCell ⟨g, i, none⟩ (u64 v)) pp bL bN AK nK cK (.slice (some ⟨g, 0, none⟩) P.fit.length c) { P with fit := P.fit.set i v } := by
  have hgl := (h.own.lt g rfl).1
  have := h.g1
  have := h.g2
  obtain ⟨hst, _⟩ := h.own.stored i (u64 v)
  refine ⟨⟨h.ok.j, h.ok.p⟩, by show (P.fit.set i v).length = _; rw [List.length_set]; exact h.fl, h.lb, h.nb, set_all h.fb hv, box_far W g i pp (u64 v) _ h.heap (by omega), box_far W g i bL (u64 v) _ h.hl (by omega), box_far W g i bN (u64 v) _ h.hn (by omega), ?_, h.l1, h.l2, h.g1, h.g2, h.ne⟩
  show World.ownsRow _ _ _ _ _ (P.fit.set i v).length ((P.fit.set i v).map u64)
  rw [List.length_set, List.map_set]
  exact hst
theorem own_other {w : World} {base size n b o : Nat} {e : TypeId} {v x : Value} {xs : List Value} (h : w.ownsRow base e size v n xs) (hb : b < base) : (w.setCell ⟨b, o, none⟩ x).ownsRow base e size v n xs := by
  refine ⟨h.1, ?_⟩
  rcases h.2 with hn | ⟨g, cap, cur, e1, hg, hh, r⟩
  · exact .inl hn
  · exact .inr ⟨g, cap, cur, e1, hg, box_far w b o g x _ hh (by omega), r⟩
theorem PX.setL {lo : Nat} {W : World} {pp bL bN : Nat} {AK : Option Addr} {nK cK : Nat} {vF : Value} {P : Pnl} (h : PX lo W pp bL bN AK nK cK vF P) (i v : Nat) (hv : v ≤ 1000000) : PX lo (W.setCell ⟨bL, i, none⟩ (iv v)) pp bL bN AK nK cK vF { P with loads := P.loads.set i v } := by
  have := h.g1
  have h1 := box_set W bL i (P.loads.map iv) 3 (iv v) h.hl
  rw [map_set] at h1
  have hh := box_far W bL i pp (iv v) _ h.heap (by omega)
  refine ⟨⟨by show (P.loads.set i v).length ≤ 6; rw [List.length_set]; exact h.ok.j, h.ok.p⟩, h.fl, set_all h.lb hv, h.nb, h.fb, ?_, h1, box_far W bL i bN (iv v) _ h.hn (fun e => h.ne e.symm), own_other h.own (by omega), h.l1, h.l2, h.g1, h.g2, h.ne⟩
  show _ = some (Obj.cells #[.slice (some ⟨bL, 0, none⟩) (P.loads.set i v).length (P.loads.set i v).length, _, _, _] 75 (0, 0))
  rw [List.length_set]
  exact hh
theorem PX.setN {lo : Nat} {W : World} {pp bL bN : Nat} {AK : Option Addr} {nK cK : Nat} {vF : Value} {P : Pnl} (h : PX lo W pp bL bN AK nK cK vF P) (i v : Nat) (hv : v ≤ 1000000) : PX lo (W.setCell ⟨bN, i, none⟩ (iv v)) pp bL bN AK nK cK vF { P with needs := P.needs.set i v } := by
  have := h.g2
  have h1 := box_set W bN i (P.needs.map iv) 3 (iv v) h.hn
  rw [map_set] at h1
  have hh := box_far W bN i pp (iv v) _ h.heap (by omega)
  refine ⟨⟨h.ok.j, by show (P.needs.set i v).length ≤ 6; rw [List.length_set]; exact h.ok.p⟩, by show P.fit.length = (P.needs.set i v).length; rw [List.length_set]; exact h.fl, h.lb, set_all h.nb hv, h.fb, ?_, box_far W bN i bL (iv v) _ h.hl h.ne, h1, own_other h.own (by omega), h.l1, h.l2, h.g1, h.g2, h.ne⟩
  show _ = some (Obj.cells #[_, .slice (some ⟨bN, 0, none⟩) (P.needs.set i v).length (P.needs.set i v).length, _, _] 75 (0, 0))
  rw [List.length_set]
  exact hh
theorem PB.px {V W : World} {L N : List Nat} {K : List (Nat × Nat)} {lo bp bL bN cK : Nat} {AK : Option Addr} {vF : Value} (hG : S3.Good (L, N, K)) (hO : OB V bp bL bN L N AK cK K) (h1 : lo ≤ bL) (h2 : lo ≤ bN) (hP : PB V W (.slice (some ⟨bL, 0, none⟩) L.length L.length) (.slice (some ⟨bN, 0, none⟩) N.length N.length) (.slice AK K.length cK) vF (kinF (List.replicate N.length (2 ^ L.length - 1)) K)) :
    PX lo W V.heap.size bL bN AK K.length cK vF (toP (L, N, K)) := by
  refine ⟨⟨hG.j, hG.p⟩, toP_fl _, hG.lb, hG.nb, ?_, hP.hp, (hP.below.block _ (heap_lt hO.bx.hl)).trans hO.bx.hl, (hP.below.block _ (heap_lt hO.bx.hn)).trans hO.bx.hn, hP.own, h1, h2, heap_lt hO.bx.hl, heap_lt hO.bx.hn, hO.bx.ne3⟩
  intro n hn
  obtain ⟨i, hi⟩ := List.mem_iff_getElem?.1 hn
  have := toP_lt hG i
  rw [List.getD_eq_getElem?_getD, hi] at this
  exact this
set_option maxRecDepth 100000 in
set_option maxHeartbeats 4000000 in
theorem open56x {w : World} {a : NP} (ha : a.At w) (hL : a.L.length ≤ 40) (hN : a.N.length ≤ 40) (hK : a.K.length ≤ 40) {cs : List Ch} {Al : Option Addr} {cl : Nat} (hcs : ∀ c ∈ cs, Chg w c.1 c.2.1 c.2.2.1 c.2.2.2) (hm : cs.length ≤ 1000) (hpre : ∀ (i : Nat) (c : Ch), cs[i]? = some c → c.2.2.2 (chgs (cs.take i) (a.L, a.N, a.K)))
    (hrow : ∀ i c, cs[i]? = some c → ∃ a, Al = some a ∧ w.cell? (a.add i) = some (.func (.func c.1) #[] c.2.1)) (hG : (chgs cs (a.L, a.N, a.K)).Good) :
    Calls Try.prog 56 #[a.val, .slice Al cs.length cl] w fun e w' => ∃ pp bL bN AK nK cK vF, e = .returned (.pointer (some ⟨pp, 0, none⟩)) ∧ Below w.heap.size w w' ∧ PX w.heap.size w' pp bL bN AK nK cK vF (toP (chgs cs (a.L, a.N, a.K))) := by
  have hu25 := Try.underlying25
  have hu22 := Try.underlying22
  have hu75 := Try.underlying75
  have hu23 := Try.underlying23
  refine calls_of_exec Try.func56 rfl ?_
  simp only [Try.ntmps56, List.size_toArray, List.length_cons, List.length_nil, Nat.reduceAdd, Nat.reduceSub, Array.replicate_succ, Array.replicate_zero, List.push_toArray, List.append_toArray, List.nil_append, List.cons_append]
  show Exec _ _ (Try.f56.body.getD .skip) _ _ _
  refine op_start ha (by omega) (by omega) (.slice Al cs.length cl) _ (by simp [Slots, Fits]) _ ?_
  rintro t W bp bL bN hV hbp hbL hbN hO hSl
  show Exec _ _ (Code.seq _ _) _ _ _
  refine exec_seq ((op_chg hcs hm hrow hV hbp hbL hbN (s0 := (a.L, a.N, a.K)) ⟨hL, hN, hK⟩ hpre hO t hSl).mono ?_)
  clear hSl hO hV
  clear t W
  intro e t W hh
  obtain ⟨rfl, AK, cK, hV, hok, hO, hSl⟩ := only_normal hh
  clear hh hrow hcs hm ha hpre
  generalize chgs cs (a.L, a.N, a.K) = s at *
  obtain ⟨L, N, K⟩ := s
  have g1 := hG.j
  have g2 := hG.p
  have g3 := hG.k
  have g4 := toP_lt hG
  have g5 := toP_fl (L, N, K)
  simp only at hok hO g1 g2 g3
  obtain ⟨x, hx⟩ := Slots.open_ hSl; simp only [fill, Nat.reduceAdd] at hx; subst hx; clear hSl
  show Exec _ _ (Code.seq _ _) _ _ _
  have c0 := cells_get (cs := [_, _, _]) (k := 0) hO.bx.box rfl
  have c1 := cells_get (cs := [_, _, _]) (k := 1) hO.bx.box rfl
  have c2 := cells_get (cs := [_, _, _]) (k := 2) hO.bx.box rfl
  refine exec_seq (exec_region_o fun ds => ?_)
  gi_wp2
  refine eq_mk ((Keep.refl _).alloc _) ?_
  show Exec _ _ _ _ _ _
  have hB1 := (Below.refl W.heap.size W).alloc (Nat.le_refl _) (.cells #[.slice (some ⟨bL, 0, none⟩) L.length L.length, .slice (some ⟨bN, 0, none⟩) N.length N.length, .slice AK K.length cK, .slice none 0 0] 75)
  have hP0 : PB W (W.alloc (.cells #[.slice (some ⟨bL, 0, none⟩) L.length L.length, .slice (some ⟨bN, 0, none⟩) N.length N.length, .slice AK K.length cK, .slice none 0 0] 75)) (.slice (some ⟨bL, 0, none⟩) L.length L.length) (.slice (some ⟨bN, 0, none⟩) N.length N.length) (.slice AK K.length cK) (.slice none 0 0) [] := ⟨hB1, World.alloc_heap_new _ _, World.ownsRow_nil _ _ _ _⟩
  clear hB1 c0 c1 c2
  generalize (W.alloc (.cells #[.slice (some ⟨bL, 0, none⟩) L.length L.length, .slice (some ⟨bN, 0, none⟩) N.length N.length, .slice AK K.length cK, .slice none 0 0] 75)) = X at *
  have c1 := (Grow.of_below (B := 0) hP0.below).cell (cells_get (cs := [_, _, _]) (k := 1) hO.bx.box rfl)
  refine exec_seq (exec_seq (exec_region_o fun ds => ?_))
  gi_wp2
  refine eq_mk (Keep.refl _) ?_
  show Exec _ _ _ _ _ _
  refine (op_fit (bL := bL) (cL := L.length) hO.bx.box (by omega) (by omega : N.length ≤ 1000) hP0 _ (by simp [Slots, Fits])).mono ?_
  clear c1 hP0 x
  clear X
  rintro e t X hh
  obtain ⟨rfl, vF, hP, hSl⟩ := only_normal hh
  clear hh
  obtain ⟨x, hx⟩ := Slots.open_ hSl; simp only [fill, Nat.reduceAdd] at hx; subst hx; clear hSl
  show Exec _ _ _ _ _ _
  have c2 := (Grow.of_below (B := 0) hP.below).cell (cells_get (cs := [_, _, _]) (k := 2) hO.bx.box rfl)
  refine exec_seq (exec_seq (exec_region_o fun ds => ?_))
  gi_wp2
  refine eq_mk (Keep.refl _) ?_
  show Exec _ _ _ _ _ _
  refine (op_kin (nN := N.length) hO.k (by omega) (fun k hk => by have := hG.k1 k hk; simp only at this; omega) (fun k hk => hG.k2 k hk) (List.length_replicate) (by omega) (rep_lt (two_lt g1)) hP _ (by simp [Slots, Fits])).mono ?_
  clear c2 hP x
  clear X vF
  rintro e t X hh
  obtain ⟨rfl, vF, hP, hSl⟩ := only_normal hh
  clear hh
  obtain ⟨x, hx⟩ := Slots.open_ hSl; simp only [fill, Nat.reduceAdd] at hx; subst hx; clear hSl
  show Exec _ _ _ _ _ _
  refine exec_seq (exec_region_o fun ds => ?_)
  gi_wp2
  refine eq_mk (Keep.refl _) ?_
  show Exec _ _ _ _ _ _
  have hB := hV.trans (hP.below.mono hV.size)
  have hm := hP.px hG hO hbL hbN
  exact exec_ret ⟨.inr rfl, fun W' hg => ⟨.pointer (some ⟨W.heap.size, 0, none⟩), by simp [results, Try.f56, go_sem], W.heap.size, bL, bN, AK, K.length, cK, vF, rfl, hB.trans (hg.below (Nat.le_refl _) hB.size), hm.grow hg⟩⟩
theorem open_own (a : XP) (hf : a.Fine) (w : World) (ha : a.At w) : Calls Try.prog 56 #[a.val, .slice none 0 0] w fun e w' => ∃ pp bL bN AK nK cK vF, e = .returned (.pointer (some ⟨pp, 0, none⟩)) ∧ Below w.heap.size w w' ∧ PX w.heap.size w' pp bL bN AK nK cK vF (toP a.s3) := by
  have h1 : a.np.L.length = a.L.length := by simp [XP.np, XP.s3]
  have h2 : a.np.N.length = a.N.length := by simp [XP.np, XP.s3]
  have h3 : a.np.K.length = a.K.length := by simp [XP.np, XP.s3]
  have := ha.l4
  have := ha.n4
  have := ha.k4
  have h := open56x (cs := []) (Al := none) (cl := 0) (XP.np_at ha hf) (by omega) (by omega) (by omega) (by simp) (by simp) (by simp) (by simp) (XP.good hf)
  rw [XP.np_val] at h
  exact h
end Go.Proofs.Ytbdmmikflkpmpaa
end

section
namespace Go.Proofs.Ytbdmmikflkpmpaa
open Go.RowKit Go.TL Go.Shelf Go.Pn
attribute [local go_sem] Oper.semAt_some
attribute [local go_sem] run_store_func
def pairF (P : Pnl) (p j : Nat) : List Nat := P.fit.set p (clrB (P.fit.getD p 0) j)
def pairP1 (P : Pnl) (p j : Nat) : Pnl := { P with fit := pairF P p j }
def pairP2 (P : Pnl) (p j : Nat) : Pnl := ⟨P.loads.set j (P.loads.getD j 0 - 1), P.needs.set p (P.needs.getD p 0 - 1), pairF P p j⟩
def pairB (P : Pnl) (p j : Nat) : Bool := (P.fit.getD p 0).testBit j && decide (0 < P.loads.getD j 0) && decide (0 < P.needs.getD p 0)
def pairV (P : Pnl) (p j : Nat) : Nat := if !canV (pairP1 P p j) then 2 else if !(pairB P p j && canV (pairP2 P p j)) then 0 else 1
noncomputable abbrev pcode : Code := Try.f19.body.getD .skip
theorem clrB_64 {s j : Nat} (h : s < 2 ^ 64) : clrB s j < 2 ^ 64 := by
  unfold clrB
  exact Nat.lt_of_le_of_lt Nat.and_le_left h
theorem fit_lt {lo : Nat} {W : World} {pp bL bN : Nat} {AK : Option Addr} {nK cK : Nat} {vF : Value} {P : Pnl} (h : PX lo W pp bL bN AK nK cK vF P) (q : Nat) : P.fit.getD q 0 < 2 ^ 64 := by
  by_cases hq : q < P.fit.length
  · rw [getD_lt hq]
    exact h.fb _ (List.getElem_mem _)
  · rw [List.getD_eq_getElem?_getD, List.getElem?_eq_none (by omega)]
    exact Nat.pos_of_ne_zero (by decide)
theorem fit_row {lo : Nat} {W : World} {pp bL bN : Nat} {AK : Option Addr} {nK cK : Nat} {vF : Value} {P : Pnl} (h : PX lo W pp bL bN AK nK cK vF P) {p : Nat} (hp : p < P.needs.length) : ∃ g c, vF = .slice (some ⟨g, 0, none⟩) P.fit.length c ∧ pp < g ∧ W.cell? ⟨g, p, none⟩ = some (u64 (P.fit.getD p 0)) := by
  have hfl := h.fl
  rcases h.own.2 with ⟨_, hz⟩ | ⟨g, cap, cur, e, _⟩
  · omega
  · refine ⟨g, cap, e, ?_, ?_⟩
    · have hh := h.own
      rw [e] at hh
      exact (hh.lt g rfl).1
    · have hh := h.own
      rw [e] at hh
      rw [hh.cellAt p (by omega), List.getElem?_map, List.getElem?_eq_getElem (by omega), getD_lt (by omega)]
      rfl
theorem load_row {lo : Nat} {W : World} {pp bL bN : Nat} {AK : Option Addr} {nK cK : Nat} {vF : Value} {P : Pnl} (h : PX lo W pp bL bN AK nK cK vF P) {j : Nat} (hj : j < P.loads.length) : W.cell? ⟨bL, j, none⟩ = some (iv (P.loads.getD j 0)) :=
  cells_get (cs := P.loads.map iv) h.hl (by rw [List.getElem?_map, List.getElem?_eq_getElem hj, getD_lt hj]; rfl)
theorem need_row {lo : Nat} {W : World} {pp bL bN : Nat} {AK : Option Addr} {nK cK : Nat} {vF : Value} {P : Pnl} (h : PX lo W pp bL bN AK nK cK vF P) {j : Nat} (hj : j < P.needs.length) : W.cell? ⟨bN, j, none⟩ = some (iv (P.needs.getD j 0)) :=
  cells_get (cs := P.needs.map iv) h.hn (by rw [List.getElem?_map, List.getElem?_eq_getElem hj, getD_lt hj]; rfl)
def PaM (w : World) (a : XP) (b j p : Nat) (c1 : Bool) (t : Array Value) (W : World) : Prop :=
  SpB w a b W ∧ Slots (none :: none :: none :: some (.pointer (some ⟨b, 0, none⟩)) :: none :: none :: some (iv 0) :: some (.pointer (some ⟨b + 1, 0, none⟩)) :: some (iv j) :: some (iv p) :: none :: some (.bool c1) :: o4 (o4 (o16 (o16 (o16 (o64 [])))))) t
def PaN (w : World) (a : XP) (b : Nat) (c1 c2 : Bool) (t : Array Value) (W : World) : Prop :=
  SpB w a b W ∧ Slots (none :: none :: o4 (some (iv 0) :: some (.pointer (some ⟨b + 1, 0, none⟩)) :: none :: none :: none :: some (.bool c1) :: none :: some (.bool c2) :: none :: none :: o4 (o16 (o16 (o16 (o64 [])))))) t
set_option maxRecDepth 100000 in
set_option maxHeartbeats 1000000 in
theorem pair_not {w : World} {a : XP} {b : Nat} (hf : a.Fine) {j p : Nat} (hj : j < a.L.length) (hp : p < a.N.length) {W : World} (hS : SpB w a b W) {P : Pnl} (hP : toP a.s3 = P) (t : Array Value) (hSl : Slots (none :: some (iv j) :: some (iv p) :: some (.pointer (some ⟨b, 0, none⟩)) :: none :: none :: some (iv 0) :: some (.pointer (some ⟨b + 1, 0, none⟩)) :: o4 (o4 (o4 (o16 (o16 (o16 (o64 []))))))) t) {Q : Exit → Array Value → World → Prop}
    (hR : ∀ t W, PaM w a b j p (canV (pairP1 P p j)) t W → Exec Try.prog none (sub pcode [1, 1, 1, 1, 1, 1, 1, 1, 1]) t W Q) :
    Exec Try.prog none (sub pcode [1, 1, 1, 1, 1]) t W Q := by
  have hu25 := Try.underlying25
  have hu75 := Try.underlying75
  have hu73 := Try.underlying73
  have hl6 := hf.j
  have hlL : P.loads.length = a.L.length := by rw [← hP]; simp [toP, XP.s3]
  have hlN : P.needs.length = a.N.length := by rw [← hP]; simp [toP, XP.s3]
  obtain ⟨x, hx⟩ := Slots.open_ hSl; simp only [fill, Nat.reduceAdd] at hx; subst hx; clear hSl
  show Exec _ _ (Code.seq _ _) _ _ _
  refine exec_seq (exec_region_o fun ds => ?_)
  gi_wp2
  refine eq_mk (Keep.refl _) ?_
  show Exec _ _ (Code.seq _ _) _ _ _
  have c0 := cells_get (cs := [_, _, _]) (k := 0) hS.p.heap rfl
  have c1 := cells_get (cs := [_, _, _]) (k := 1) hS.p.heap rfl
  have c2 := cells_get (cs := [_, _, _]) (k := 2) hS.p.heap rfl
  have hopen := open_own a hf W hS.p.at_
  rw [hP] at hopen
  refine exec_seq (exec_region_o fun ds => ?_)
  gi_wp2_with fail
  refine ⟨trivial, rfl, (callsIn_wide.2 hopen).mono ?_⟩
  rintro e X ⟨pp, bL, bN, AK, nK, cK, vF, rfl, hx, hX⟩
  gi_wp2
  refine eq_mk (Keep.of_below hx) ?_
  show Exec _ _ (Code.seq _ _) _ _ _
  clear c0 c1 c2 hopen hP
  have hSW := hS
  clear hS
  obtain ⟨g, c, rfl, hgp, hgc⟩ := fit_row hX (p := p) (by omega)
  have hfl := hX.fl
  have hpI : (p : Int) < P.fit.length := by omega
  have hpF : p < P.fit.length := by omega
  have hflt := fit_lt hX p
  have hS0 : ∀ {Y : World}, Below X.heap.size X Y → Y.cell? ⟨pp, 3, none⟩ = some (.slice (some ⟨g, 0, none⟩) P.fit.length c) ∧ Y.cell? ⟨g, p, none⟩ = some (u64 (P.fit.getD p 0)) := fun hY => ⟨(Grow.of_below (B := 0) hY).cell (cells_get (cs := [_, _, _, _]) hX.heap rfl), (Grow.of_below (B := 0) hY).cell hgc⟩
  have hd : Below X.heap.size X X.drew := (Below.refl _ X).drew
  refine exec_seq (region_of_tail 14 (by kernel_rfl) (by kernel_rfl) (by kernel_rfl) (fun Y => Y.cell? ⟨pp, 3, none⟩ = some (.slice (some ⟨g, 0, none⟩) P.fit.length c) ∧ Y.cell? ⟨g, p, none⟩ = some (u64 (P.fit.getD p 0))) (fun _ _ _ => False) (fun _ _ _ h => h.elim) fun ds => ?_)
  have hS := hS0 hd
  refine held_take 0 (.pointer (some ⟨pp, 0, none⟩)) rfl (by kernel_rfl) (by kernel_rfl) (by kernel_rfl) (by intro _ _ _ h; first | exact h | (simpa [behind, Act.put] using h)) rfl (by first | exact hS | assumption) (fun wq hq => ?_) ?_; (focus (first | rfl | (simp [go_sem]; done))); simp only [Act.put, Array.getInternal_eq_getElem, List.take_succ_cons, List.take_zero, List.take_nil, List.getElem_toArray, List.getElem_cons_succ, List.getElem_cons_zero, List.setIfInBounds_toArray, List.set_cons_succ, List.set_cons_zero]
  refine held_take 1 (.pointer (some ⟨pp, 0, none⟩)) rfl (by kernel_rfl) (by kernel_rfl) (by kernel_rfl) (by intro _ _ _ h; first | exact h | (simpa [behind, Act.put] using h)) rfl (by first | exact hS | assumption) (fun wq hq => ?_) ?_; (focus (simp [go_sem]; done)); simp only [Act.put, Array.getInternal_eq_getElem, List.take_succ_cons, List.take_zero, List.take_nil, List.getElem_toArray, List.getElem_cons_succ, List.getElem_cons_zero, List.setIfInBounds_toArray, List.set_cons_succ, List.set_cons_zero]
  refine held_take 2 (.pointer (some ⟨pp, 3, none⟩)) rfl (by kernel_rfl) (by kernel_rfl) (by kernel_rfl) (by intro _ _ _ h; first | exact h | (simpa [behind, Act.put] using h)) rfl (by first | exact hS | assumption) (fun wq hq => ?_) ?_; (focus (simp [go_sem, hu75]; done)); simp only [Act.put, Array.getInternal_eq_getElem, List.take_succ_cons, List.take_zero, List.take_nil, List.getElem_toArray, List.getElem_cons_succ, List.getElem_cons_zero, List.setIfInBounds_toArray, List.set_cons_succ, List.set_cons_zero]
  refine held_take 3 (.slice (some ⟨g, 0, none⟩) P.fit.length c) rfl (by kernel_rfl) (by kernel_rfl) (by kernel_rfl) (by intro _ _ _ h; first | exact h | (simpa [behind, Act.put] using h)) rfl (by first | exact hS | assumption) (fun wq hq => ?_) ?_; (focus (simp [go_sem, hq.1]; done)); simp only [Act.put, Array.getInternal_eq_getElem, List.take_succ_cons, List.take_zero, List.take_nil, List.getElem_toArray, List.getElem_cons_succ, List.getElem_cons_zero, List.setIfInBounds_toArray, List.set_cons_succ, List.set_cons_zero]
  refine held_take 4 (iv p) rfl (by kernel_rfl) (by kernel_rfl) (by kernel_rfl) (by intro _ _ _ h; first | exact h | (simpa [behind, Act.put] using h)) rfl (by first | exact hS | assumption) (fun wq hq => ?_) ?_; (focus (first | rfl | (simp [go_sem]; done))); simp only [Act.put, Array.getInternal_eq_getElem, List.take_succ_cons, List.take_zero, List.take_nil, List.getElem_toArray, List.getElem_cons_succ, List.getElem_cons_zero, List.setIfInBounds_toArray, List.set_cons_succ, List.set_cons_zero]
  refine held_take 5 (.pointer (some ⟨pp, 0, none⟩)) rfl (by kernel_rfl) (by kernel_rfl) (by kernel_rfl) (by intro _ _ _ h; first | exact h | (simpa [behind, Act.put] using h)) rfl (by first | exact hS | assumption) (fun wq hq => ?_) ?_; (focus (first | rfl | (simp [go_sem]; done))); simp only [Act.put, Array.getInternal_eq_getElem, List.take_succ_cons, List.take_zero, List.take_nil, List.getElem_toArray, List.getElem_cons_succ, List.getElem_cons_zero, List.setIfInBounds_toArray, List.set_cons_succ, List.set_cons_zero]
  refine held_take 6 (.pointer (some ⟨pp, 0, none⟩)) rfl (by kernel_rfl) (by kernel_rfl) (by kernel_rfl) (by intro _ _ _ h; first | exact h | (simpa [behind, Act.put] using h)) rfl (by first | exact hS | assumption) (fun wq hq => ?_) ?_; (focus (simp [go_sem]; done)); simp only [Act.put, Array.getInternal_eq_getElem, List.take_succ_cons, List.take_zero, List.take_nil, List.getElem_toArray, List.getElem_cons_succ, List.getElem_cons_zero, List.setIfInBounds_toArray, List.set_cons_succ, List.set_cons_zero]
  refine held_take 7 (.pointer (some ⟨pp, 3, none⟩)) rfl (by kernel_rfl) (by kernel_rfl) (by kernel_rfl) (by intro _ _ _ h; first | exact h | (simpa [behind, Act.put] using h)) rfl (by first | exact hS | assumption) (fun wq hq => ?_) ?_; (focus (simp [go_sem, hu75]; done)); simp only [Act.put, Array.getInternal_eq_getElem, List.take_succ_cons, List.take_zero, List.take_nil, List.getElem_toArray, List.getElem_cons_succ, List.getElem_cons_zero, List.setIfInBounds_toArray, List.set_cons_succ, List.set_cons_zero]
  refine held_take 8 (.slice (some ⟨g, 0, none⟩) P.fit.length c) rfl (by kernel_rfl) (by kernel_rfl) (by kernel_rfl) (by intro _ _ _ h; first | exact h | (simpa [behind, Act.put] using h)) rfl (by first | exact hS | assumption) (fun wq hq => ?_) ?_; (focus (simp [go_sem, hq.1]; done)); simp only [Act.put, Array.getInternal_eq_getElem, List.take_succ_cons, List.take_zero, List.take_nil, List.getElem_toArray, List.getElem_cons_succ, List.getElem_cons_zero, List.setIfInBounds_toArray, List.set_cons_succ, List.set_cons_zero]
  refine held_take 9 (iv p) rfl (by kernel_rfl) (by kernel_rfl) (by kernel_rfl) (by intro _ _ _ h; first | exact h | (simpa [behind, Act.put] using h)) rfl (by first | exact hS | assumption) (fun wq hq => ?_) ?_; (focus (first | rfl | (simp [go_sem]; done))); simp only [Act.put, Array.getInternal_eq_getElem, List.take_succ_cons, List.take_zero, List.take_nil, List.getElem_toArray, List.getElem_cons_succ, List.getElem_cons_zero, List.setIfInBounds_toArray, List.set_cons_succ, List.set_cons_zero]
  refine held_take 10 (.pointer (some ⟨g, p, none⟩)) rfl (by kernel_rfl) (by kernel_rfl) (by kernel_rfl) (by intro _ _ _ h; first | exact h | (simpa [behind, Act.put] using h)) rfl (by first | exact hS | assumption) (fun wq hq => ?_) ?_; (focus (simp [go_sem, hu73, hpI, hpF]; done)); simp only [Act.put, Array.getInternal_eq_getElem, List.take_succ_cons, List.take_zero, List.take_nil, List.getElem_toArray, List.getElem_cons_succ, List.getElem_cons_zero, List.setIfInBounds_toArray, List.set_cons_succ, List.set_cons_zero]
  refine held_take 11 (u64 (P.fit.getD p 0)) rfl (by kernel_rfl) (by kernel_rfl) (by kernel_rfl) (by intro _ _ _ h; first | exact h | (simpa [behind, Act.put] using h)) rfl (by first | exact hS | assumption) (fun wq hq => ?_) ?_; (focus (simp [go_sem, hq.2]; done)); simp only [Act.put, Array.getInternal_eq_getElem, List.take_succ_cons, List.take_zero, List.take_nil, List.getElem_toArray, List.getElem_cons_succ, List.getElem_cons_zero, List.setIfInBounds_toArray, List.set_cons_succ, List.set_cons_zero]
  refine held_take 12 (iv j) rfl (by kernel_rfl) (by kernel_rfl) (by kernel_rfl) (by intro _ _ _ h; first | exact h | (simpa [behind, Act.put] using h)) rfl (by first | exact hS | assumption) (fun wq hq => ?_) ?_; (focus (first | rfl | (simp [go_sem]; done))); simp only [Act.put, Array.getInternal_eq_getElem, List.take_succ_cons, List.take_zero, List.take_nil, List.getElem_toArray, List.getElem_cons_succ, List.getElem_cons_zero, List.setIfInBounds_toArray, List.set_cons_succ, List.set_cons_zero]
  refine held_call 13 (f := 69) (args := #[u64 (P.fit.getD p 0), iv j]) rfl (by kernel_rfl) rfl (by simp [go_sem]) ?_
  refine (clrB69 (P.fit.getD p 0) j hflt (by omega) X.drew).mono ?_
  rintro e Y ⟨rfl, hY⟩
  have hY' := hd.trans hY
  refine .inl ⟨_, rfl, hS0 hY', ?_⟩
  simp only [Act.put, Array.getInternal_eq_getElem, List.take_succ_cons, List.take_zero, List.take_nil, List.getElem_toArray, List.getElem_cons_succ, List.getElem_cons_zero, List.setIfInBounds_toArray, List.set_cons_succ, List.set_cons_zero]
  refine held_done (by kernel_rfl) ?_
  refine behind_normal 2 (by kernel_rfl) ?_
  have hXY := hX.keep hY'
  have df := hXY.own.frozenAt p
  have d3 := (hS0 hY').2
  refine any_val 14 (.pointer (some ⟨g, p, none⟩)) rfl (by kernel_rfl) rfl (by first | (simp [go_sem, hu73, hpI, hpF]; done) | rfl) ?_; simp only [Act.put, Array.getInternal_eq_getElem, List.take_succ_cons, List.take_zero, List.take_nil, List.getElem_toArray, List.getElem_cons_succ, List.getElem_cons_zero, List.setIfInBounds_toArray, List.set_cons_succ, List.set_cons_zero]
  refine any_skip 15 (Y.setCell ⟨g, p, none⟩ (u64 (clrB (P.fit.getD p 0) j))) rfl (by kernel_rfl) rfl (by simp [go_sem, d3, df]) ?_; simp only [Act.put, Array.getInternal_eq_getElem, List.take_succ_cons, List.take_zero, List.take_nil, List.getElem_toArray, List.getElem_cons_succ, List.getElem_cons_zero, List.setIfInBounds_toArray, List.set_cons_succ, List.set_cons_zero]
  have hP1 := hXY.setF p (clrB (P.fit.getD p 0) j) (clrB_64 hflt)
  have hl1 := hX.l1
  have hg1 := hX.g1
  have hBZ : Below W.heap.size W (Y.setCell ⟨g, p, none⟩ (u64 (clrB (P.fit.getD p 0) j))) := (hx.trans (hY'.mono hx.size)).setCell (by show W.heap.size ≤ g; omega) _
  have hSZ := hSW.keep hBZ
  refine any_done (by kernel_rfl) ⟨rfl, (Keep.of_below hY').setCell _ _, ?_⟩
  clear hS0 hS hd hXY df d3 hgc hX hSW hY hY' hBZ hx
  show Exec _ _ (Code.seq _ _) _ _ _
  generalize Y.setCell ⟨g, p, none⟩ (u64 (clrB (P.fit.getD p 0) j)) = Z at *
  obtain ⟨m, hm⟩ := hP1.pnl
  have hcan := can61 hm
  clear hm hP1
  change Calls _ _ _ _ (fun e w' => e = .returned (.bool (canV (pairP1 P p j))) ∧ _) at hcan
  generalize canV (pairP1 P p j) = z at *
  refine exec_seq (exec_region_o fun ds => ?_)
  gi_wp2_with fail
  refine ⟨trivial, rfl, (callsIn_wide.2 hcan).mono ?_⟩
  rintro e Z2 ⟨rfl, hz⟩
  gi_wp2
  refine eq_mk (Keep.of_below hz) ?_
  exact hR _ _ ⟨hSZ.keep hz, by simp [Slots, Fits]⟩
end Go.Proofs.Ytbdmmikflkpmpaa
end

section
namespace Go.Proofs.Ytbdmmikflkpmpaa
open Go.RowKit Go.TL Go.Shelf Go.Pn
attribute [local go_sem] Oper.semAt_some
attribute [local go_sem] run_store_func
def PaS (w : World) (a : XP) (b j p lo pp bL bN : Nat) (AK : Option Addr) (nK cK : Nat) (vF : Value) (P : Pnl) (c1 c2 : Bool) (t : Array Value) (W : World) : Prop :=
  SpB w a b W ∧ PX lo W pp bL bN AK nK cK vF P ∧ Slots (none :: none :: o4 (some (iv 0) :: some (.pointer (some ⟨b + 1, 0, none⟩)) :: some (iv j) :: some (iv p) :: none :: some (.bool c1) :: some (.pointer (some ⟨pp, 0, none⟩)) :: some (.bool c2) :: none :: none :: o4 (o16 (o16 (o16 (o64 [])))))) t
set_option maxRecDepth 100000 in
set_option maxHeartbeats 1000000 in
theorem pair_try {w : World} {a : XP} {b : Nat} (hf : a.Fine) {j p : Nat} (hj : j < a.L.length) (hp : p < a.N.length) {W : World} {c1 : Bool} {P : Pnl} (hP : toP a.s3 = P) (t : Array Value) (hM : PaM w a b j p c1 t W) {Q : Exit → Array Value → World → Prop}
    (hR : ∀ pp bL bN AK nK cK vF t W', PaS w a b j p W.heap.size pp bL bN AK nK cK vF P c1 (pairB P p j) t W' → Below W.heap.size W W' → Exec Try.prog none (sub pcode [1, 1, 1, 1, 1, 1, 1, 1, 1, 1, 1]) t W' Q) :
    Exec Try.prog none (sub pcode [1, 1, 1, 1, 1, 1, 1, 1, 1]) t W Q := by
  have hu25 := Try.underlying25
  have hu22 := Try.underlying22
  have hu75 := Try.underlying75
  have hu73 := Try.underlying73
  have hl6 := hf.j
  have hlL : P.loads.length = a.L.length := by rw [← hP]; simp [toP, XP.s3]
  have hlN : P.needs.length = a.N.length := by rw [← hP]; simp [toP, XP.s3]
  obtain ⟨hS, hSl⟩ := hM
  obtain ⟨x, hx⟩ := Slots.open_ hSl; simp only [fill, Nat.reduceAdd] at hx; subst hx; clear hSl
  show Exec _ _ (Code.seq _ _) _ _ _
  have c0 := cells_get (cs := [_, _, _]) (k := 0) hS.p.heap rfl
  have c1' := cells_get (cs := [_, _, _]) (k := 1) hS.p.heap rfl
  have c2 := cells_get (cs := [_, _, _]) (k := 2) hS.p.heap rfl
  have hopen := open_own a hf W hS.p.at_
  rw [hP] at hopen
  refine exec_seq (exec_region_o fun ds => ?_)
  gi_wp2_with fail
  refine ⟨trivial, rfl, (callsIn_wide.2 hopen).mono ?_⟩
  rintro e X ⟨pp, bL, bN, AK, nK, cK, vF, rfl, hx, hX⟩
  gi_wp2
  refine eq_mk (Keep.of_below hx) ?_
  show Exec _ _ (Code.seq _ _) _ _ _
  clear c0 c1' c2 hopen hP
  have hSX := hS.keep hx
  clear hS
  obtain ⟨g, c, rfl, hgp, hgc⟩ := fit_row hX (p := p) (by omega)
  have hfl := hX.fl
  have hpI : (p : Int) < P.fit.length := by omega
  have hpF : p < P.fit.length := by omega
  have hpN : (p : Int) < P.needs.length := by omega
  have hpN' : p < P.needs.length := by omega
  have hjL : (j : Int) < P.loads.length := by omega
  have hjL' : j < P.loads.length := by omega
  have e3 := cells_get (cs := [_, _, _, _]) (k := 3) hX.heap rfl
  have hflt := fit_lt hX p
  have hB : pairB P p j = ((P.fit.getD p 0).testBit j && decide (0 < P.loads.getD j 0) && decide (0 < P.needs.getD p 0)) := rfl
  generalize pairB P p j = B at *
  have hlr := load_row hX hjL'
  have hnr := need_row hX hpN'
  generalize P.loads.getD j 0 = l at *
  generalize P.needs.getD p 0 = n at *
  generalize P.fit.getD p 0 = f at *
  have HB := Lib.hid hB
  clear hB
  refine exec_seq (exec_region_o fun ds => ?_)
  gi_wp2_with fail
  refine ⟨trivial, rfl, (callsIn_wide.2 (has57 f j hflt (by omega) X)).mono ?_⟩
  rintro e Y ⟨rfl, hy⟩
  have hXY := hX.keep hy
  have hSY := hSX.keep hy
  have hWY := hx.trans (hy.mono hx.size)
  have e0 := cells_get (cs := [_, _, _, _]) (k := 0) hXY.heap rfl
  have e1 := cells_get (cs := [_, _, _, _]) (k := 1) hXY.heap rfl
  have hlr' := (Grow.of_below (B := 0) hy).cell hlr
  have hnr' := (Grow.of_below (B := 0) hy).cell hnr
  clear hlr hnr e3 hgc hX hSX
  have hKY := Keep.of_below hy
  clear hy hx
  cases hq : f.testBit j with
  | false =>
    rw [hq] at HB
    have hB : B = false := by rw [HB.out]; rfl
    subst hB
    clear hq HB
    gi_wp2
    refine eq_mk hKY ?_
    exact hR _ _ _ _ _ _ _ _ _ ⟨hSY, hXY, by simp [Slots, Fits]⟩ hWY
  | true =>
    rw [hq] at HB
    clear hq
    gi_wp2
    · rename_i h
      refine eq_mk hKY ?_
      have hB : B = decide (0 < n) := by rw [HB.out]; simp [h]
      subst hB
      exact hR _ _ _ _ _ _ _ _ _ ⟨hSY, hXY, by simp [Slots, Fits]⟩ hWY
    · rename_i h
      refine eq_mk hKY ?_
      have hB : B = false := by rw [HB.out]; simp [h]
      subst hB
      exact hR _ _ _ _ _ _ _ _ _ ⟨hSY, hXY, by simp [Slots, Fits]⟩ hWY
end Go.Proofs.Ytbdmmikflkpmpaa
end

section
namespace Go.Proofs.Ytbdmmikflkpmpaa
open Go.RowKit Go.TL Go.Shelf Go.Pn
attribute [local go_sem] Oper.semAt_some
attribute [local go_sem] run_store_func
theorem frozen_cells {W : World} {b o : Nat} {cs : Array Value} {t : TypeId} (h : W.heap[b]? = some (.cells cs t (0, 0))) : W.frozen? ⟨b, o, none⟩ = false := by simp [World.frozen?, h]
set_option maxRecDepth 100000 in
set_option maxHeartbeats 2000000 in
theorem pair_in {w : World} {a : XP} {b lo : Nat} (hf : a.Fine) {j p : Nat} (hj : j < a.L.length) (hp : p < a.N.length) {W : World} {c1 : Bool} {P : Pnl} (hP : toP a.s3 = P) {pp bL bN nK cK : Nat} {AK : Option Addr} {vF : Value} {V : World} (hSV : SpB w a b V) (hlo : lo = V.heap.size) (hVW : Below V.heap.size V W) (t : Array Value) (hM : PaS w a b j p lo pp bL bN AK nK cK vF P c1 (pairB P p j) t W) {Q : Exit → Array Value → World → Prop}
    (hR : ∀ t W', PaN w a b c1 (pairB P p j && canV (pairP2 P p j)) t W' → Exec Try.prog none (sub pcode [1, 1, 1, 1, 1, 1, 1, 1, 1, 1, 1, 1]) t W' Q) :
    Exec Try.prog none (sub pcode [1, 1, 1, 1, 1, 1, 1, 1, 1, 1, 1]) t W Q := by
  have hu25 := Try.underlying25
  have hu22 := Try.underlying22
  have hu75 := Try.underlying75
  have hu73 := Try.underlying73
  have hl6 := hf.j
  have hlL : P.loads.length = a.L.length := by rw [← hP]; simp [toP, XP.s3]
  have hlN : P.needs.length = a.N.length := by rw [← hP]; simp [toP, XP.s3]
  clear hP
  obtain ⟨hSW, hX, hSl⟩ := hM
  obtain ⟨x, hx⟩ := Slots.open_ hSl; simp only [fill, Nat.reduceAdd] at hx; subst hx; clear hSl
  show Exec _ _ (Code.seq (Code.seq _ _) _) _ _ _
  refine exec_seq (exec_seq (exec_region_o fun ds => ?_))
  gi_wp2
  refine eq_mk (Keep.refl _) ?_
  show Exec _ _ (Code.cond _ _ _) _ _ _
  refine exec_cond (b := pairB P p j) rfl (fun hb => ?_) (fun hb => exec_skip ?_)
  · have hl0 : 0 < P.loads.getD j 0 ∧ 0 < P.needs.getD p 0 := by
      unfold pairB at hb
      simp only [Bool.and_eq_true, decide_eq_true_eq] at hb
      exact ⟨hb.1.2, hb.2⟩
    have HB := Lib.hid hb
    clear hb
    obtain ⟨g, c, rfl, hgp, hgc⟩ := fit_row hX (p := p) (by omega)
    have hfl := hX.fl
    have hpI : (p : Int) < P.fit.length := by omega
    have hpF : p < P.fit.length := by omega
    have hflt := fit_lt hX p
    have hS0 : ∀ {Y : World}, Below W.heap.size W Y → Y.cell? ⟨pp, 3, none⟩ = some (.slice (some ⟨g, 0, none⟩) P.fit.length c) ∧ Y.cell? ⟨g, p, none⟩ = some (u64 (P.fit.getD p 0)) := fun hY => ⟨(Grow.of_below (B := 0) hY).cell (cells_get (cs := [_, _, _, _]) hX.heap rfl), (Grow.of_below (B := 0) hY).cell hgc⟩
    have hd : Below W.heap.size W W.drew := (Below.refl _ W).drew
    refine exec_seq (region_of_tail 14 (by kernel_rfl) (by kernel_rfl) (by kernel_rfl) (fun Y => Y.cell? ⟨pp, 3, none⟩ = some (.slice (some ⟨g, 0, none⟩) P.fit.length c) ∧ Y.cell? ⟨g, p, none⟩ = some (u64 (P.fit.getD p 0))) (fun _ _ _ => False) (fun _ _ _ h => h.elim) fun ds => ?_)
    have hS := hS0 hd
    refine held_take 0 (.pointer (some ⟨pp, 0, none⟩)) rfl (by kernel_rfl) (by kernel_rfl) (by kernel_rfl) (by intro _ _ _ h; first | exact h | (simpa [behind, Act.put] using h)) rfl (by first | exact hS | assumption) (fun wq hq => ?_) ?_; (focus (first | rfl | (simp [go_sem]; done))); simp only [Act.put, Array.getInternal_eq_getElem, List.take_succ_cons, List.take_zero, List.take_nil, List.getElem_toArray, List.getElem_cons_succ, List.getElem_cons_zero, List.setIfInBounds_toArray, List.set_cons_succ, List.set_cons_zero]
    refine held_take 1 (.pointer (some ⟨pp, 0, none⟩)) rfl (by kernel_rfl) (by kernel_rfl) (by kernel_rfl) (by intro _ _ _ h; first | exact h | (simpa [behind, Act.put] using h)) rfl (by first | exact hS | assumption) (fun wq hq => ?_) ?_; (focus (simp [go_sem]; done)); simp only [Act.put, Array.getInternal_eq_getElem, List.take_succ_cons, List.take_zero, List.take_nil, List.getElem_toArray, List.getElem_cons_succ, List.getElem_cons_zero, List.setIfInBounds_toArray, List.set_cons_succ, List.set_cons_zero]
    refine held_take 2 (.pointer (some ⟨pp, 3, none⟩)) rfl (by kernel_rfl) (by kernel_rfl) (by kernel_rfl) (by intro _ _ _ h; first | exact h | (simpa [behind, Act.put] using h)) rfl (by first | exact hS | assumption) (fun wq hq => ?_) ?_; (focus (simp [go_sem, hu75]; done)); simp only [Act.put, Array.getInternal_eq_getElem, List.take_succ_cons, List.take_zero, List.take_nil, List.getElem_toArray, List.getElem_cons_succ, List.getElem_cons_zero, List.setIfInBounds_toArray, List.set_cons_succ, List.set_cons_zero]
    refine held_take 3 (.slice (some ⟨g, 0, none⟩) P.fit.length c) rfl (by kernel_rfl) (by kernel_rfl) (by kernel_rfl) (by intro _ _ _ h; first | exact h | (simpa [behind, Act.put] using h)) rfl (by first | exact hS | assumption) (fun wq hq => ?_) ?_; (focus (simp [go_sem, hq.1]; done)); simp only [Act.put, Array.getInternal_eq_getElem, List.take_succ_cons, List.take_zero, List.take_nil, List.getElem_toArray, List.getElem_cons_succ, List.getElem_cons_zero, List.setIfInBounds_toArray, List.set_cons_succ, List.set_cons_zero]
    refine held_take 4 (iv p) rfl (by kernel_rfl) (by kernel_rfl) (by kernel_rfl) (by intro _ _ _ h; first | exact h | (simpa [behind, Act.put] using h)) rfl (by first | exact hS | assumption) (fun wq hq => ?_) ?_; (focus (first | rfl | (simp [go_sem]; done))); simp only [Act.put, Array.getInternal_eq_getElem, List.take_succ_cons, List.take_zero, List.take_nil, List.getElem_toArray, List.getElem_cons_succ, List.getElem_cons_zero, List.setIfInBounds_toArray, List.set_cons_succ, List.set_cons_zero]
    refine held_take 5 (.pointer (some ⟨pp, 0, none⟩)) rfl (by kernel_rfl) (by kernel_rfl) (by kernel_rfl) (by intro _ _ _ h; first | exact h | (simpa [behind, Act.put] using h)) rfl (by first | exact hS | assumption) (fun wq hq => ?_) ?_; (focus (first | rfl | (simp [go_sem]; done))); simp only [Act.put, Array.getInternal_eq_getElem, List.take_succ_cons, List.take_zero, List.take_nil, List.getElem_toArray, List.getElem_cons_succ, List.getElem_cons_zero, List.setIfInBounds_toArray, List.set_cons_succ, List.set_cons_zero]
    refine held_take 6 (.pointer (some ⟨pp, 0, none⟩)) rfl (by kernel_rfl) (by kernel_rfl) (by kernel_rfl) (by intro _ _ _ h; first | exact h | (simpa [behind, Act.put] using h)) rfl (by first | exact hS | assumption) (fun wq hq => ?_) ?_; (focus (simp [go_sem]; done)); simp only [Act.put, Array.getInternal_eq_getElem, List.take_succ_cons, List.take_zero, List.take_nil, List.getElem_toArray, List.getElem_cons_succ, List.getElem_cons_zero, List.setIfInBounds_toArray, List.set_cons_succ, List.set_cons_zero]
    refine held_take 7 (.pointer (some ⟨pp, 3, none⟩)) rfl (by kernel_rfl) (by kernel_rfl) (by kernel_rfl) (by intro _ _ _ h; first | exact h | (simpa [behind, Act.put] using h)) rfl (by first | exact hS | assumption) (fun wq hq => ?_) ?_; (focus (simp [go_sem, hu75]; done)); simp only [Act.put, Array.getInternal_eq_getElem, List.take_succ_cons, List.take_zero, List.take_nil, List.getElem_toArray, List.getElem_cons_succ, List.getElem_cons_zero, List.setIfInBounds_toArray, List.set_cons_succ, List.set_cons_zero]
    refine held_take 8 (.slice (some ⟨g, 0, none⟩) P.fit.length c) rfl (by kernel_rfl) (by kernel_rfl) (by kernel_rfl) (by intro _ _ _ h; first | exact h | (simpa [behind, Act.put] using h)) rfl (by first | exact hS | assumption) (fun wq hq => ?_) ?_; (focus (simp [go_sem, hq.1]; done)); simp only [Act.put, Array.getInternal_eq_getElem, List.take_succ_cons, List.take_zero, List.take_nil, List.getElem_toArray, List.getElem_cons_succ, List.getElem_cons_zero, List.setIfInBounds_toArray, List.set_cons_succ, List.set_cons_zero]
    refine held_take 9 (iv p) rfl (by kernel_rfl) (by kernel_rfl) (by kernel_rfl) (by intro _ _ _ h; first | exact h | (simpa [behind, Act.put] using h)) rfl (by first | exact hS | assumption) (fun wq hq => ?_) ?_; (focus (first | rfl | (simp [go_sem]; done))); simp only [Act.put, Array.getInternal_eq_getElem, List.take_succ_cons, List.take_zero, List.take_nil, List.getElem_toArray, List.getElem_cons_succ, List.getElem_cons_zero, List.setIfInBounds_toArray, List.set_cons_succ, List.set_cons_zero]
    refine held_take 10 (.pointer (some ⟨g, p, none⟩)) rfl (by kernel_rfl) (by kernel_rfl) (by kernel_rfl) (by intro _ _ _ h; first | exact h | (simpa [behind, Act.put] using h)) rfl (by first | exact hS | assumption) (fun wq hq => ?_) ?_; (focus (simp [go_sem, hu73, hpI, hpF]; done)); simp only [Act.put, Array.getInternal_eq_getElem, List.take_succ_cons, List.take_zero, List.take_nil, List.getElem_toArray, List.getElem_cons_succ, List.getElem_cons_zero, List.setIfInBounds_toArray, List.set_cons_succ, List.set_cons_zero]
    refine held_take 11 (u64 (P.fit.getD p 0)) rfl (by kernel_rfl) (by kernel_rfl) (by kernel_rfl) (by intro _ _ _ h; first | exact h | (simpa [behind, Act.put] using h)) rfl (by first | exact hS | assumption) (fun wq hq => ?_) ?_; (focus (simp [go_sem, hq.2]; done)); simp only [Act.put, Array.getInternal_eq_getElem, List.take_succ_cons, List.take_zero, List.take_nil, List.getElem_toArray, List.getElem_cons_succ, List.getElem_cons_zero, List.setIfInBounds_toArray, List.set_cons_succ, List.set_cons_zero]
    refine held_take 12 (iv j) rfl (by kernel_rfl) (by kernel_rfl) (by kernel_rfl) (by intro _ _ _ h; first | exact h | (simpa [behind, Act.put] using h)) rfl (by first | exact hS | assumption) (fun wq hq => ?_) ?_; (focus (first | rfl | (simp [go_sem]; done))); simp only [Act.put, Array.getInternal_eq_getElem, List.take_succ_cons, List.take_zero, List.take_nil, List.getElem_toArray, List.getElem_cons_succ, List.getElem_cons_zero, List.setIfInBounds_toArray, List.set_cons_succ, List.set_cons_zero]
    refine held_call 13 (f := 69) (args := #[u64 (P.fit.getD p 0), iv j]) rfl (by kernel_rfl) rfl (by simp [go_sem]) ?_
    refine (clrB69 (P.fit.getD p 0) j hflt (by omega) W.drew).mono ?_
    rintro e Y ⟨rfl, hY⟩
    have hY' := hd.trans hY
    refine .inl ⟨_, rfl, hS0 hY', ?_⟩
    simp only [Act.put, Array.getInternal_eq_getElem, List.take_succ_cons, List.take_zero, List.take_nil, List.getElem_toArray, List.getElem_cons_succ, List.getElem_cons_zero, List.setIfInBounds_toArray, List.set_cons_succ, List.set_cons_zero]
    refine held_done (by kernel_rfl) ?_
    refine behind_normal 2 (by kernel_rfl) ?_
    have hXY := hX.keep hY'
    have df := hXY.own.frozenAt p
    have d3 := (hS0 hY').2
    refine any_val 14 (.pointer (some ⟨g, p, none⟩)) rfl (by kernel_rfl) rfl (by first | (simp [go_sem, hu73, hpI, hpF]; done) | rfl) ?_; simp only [Act.put, Array.getInternal_eq_getElem, List.take_succ_cons, List.take_zero, List.take_nil, List.getElem_toArray, List.getElem_cons_succ, List.getElem_cons_zero, List.setIfInBounds_toArray, List.set_cons_succ, List.set_cons_zero]
    refine any_skip 15 (Y.setCell ⟨g, p, none⟩ (u64 (clrB (P.fit.getD p 0) j))) rfl (by kernel_rfl) rfl (by simp [go_sem, d3, df]) ?_; simp only [Act.put, Array.getInternal_eq_getElem, List.take_succ_cons, List.take_zero, List.take_nil, List.getElem_toArray, List.getElem_cons_succ, List.getElem_cons_zero, List.setIfInBounds_toArray, List.set_cons_succ, List.set_cons_zero]
    have hP1 := hXY.setF p (clrB (P.fit.getD p 0) j) (clrB_64 hflt)
    refine any_done (by kernel_rfl) ⟨rfl, (Keep.of_below hY').setCell _ _, ?_⟩
    have hl1 := hX.l1
    have hl2 := hX.l2
    have hg1 := hX.g1
    have hBZ : Below V.heap.size V (Y.setCell ⟨g, p, none⟩ (u64 (clrB (P.fit.getD p 0) j))) := (hVW.trans (hY'.mono hVW.size)).setCell (by show V.heap.size ≤ g; omega) _
    clear hS0 hS hd hXY df d3 hgc hX hSW hY hY' hVW
    show Exec _ _ (Code.seq _ _) _ _ _
    generalize Y.setCell ⟨g, p, none⟩ (u64 (clrB (P.fit.getD p 0) j)) = Z at *
    have hjL' : j < P.loads.length := by omega
    have hjL : (j : Int) < P.loads.length := by omega
    have hpN' : p < P.needs.length := by omega
    have hpN : (p : Int) < P.needs.length := by omega
    have hlb := hP1.lb
    have hnb := hP1.nb
    have q1 := load_row hP1 hjL'
    have q1f : Z.frozen? ⟨bL, j, none⟩ = false := frozen_cells hP1.hl
    have q0 := cells_get (cs := [_, _, _, _]) (k := 0) hP1.heap rfl
    have hl6' : P.loads.getD j 0 ≤ 1000000 := hlb _ (mem_getD hjL')
    have hn6' : P.needs.getD p 0 ≤ 1000000 := hnb _ (mem_getD hpN')
    have hP2 := hP1.setL j (P.loads.getD j 0 - 1) (by omega)
    have hP3 := hP2.setN p (P.needs.getD p 0 - 1) (by omega)
    have hBZ2 : Below V.heap.size V ((Z.setCell ⟨bL, j, none⟩ (iv (P.loads.getD j 0 - 1))).setCell ⟨bN, p, none⟩ (iv (P.needs.getD p 0 - 1))) := (hBZ.setCell (by show V.heap.size ≤ bL; omega) _).setCell (by show V.heap.size ≤ bN; omega) _
    have q2 := need_row hP2 hpN'
    have q2f : (Z.setCell ⟨bL, j, none⟩ (iv (P.loads.getD j 0 - 1))).frozen? ⟨bN, p, none⟩ = false := frozen_cells hP2.hn
    have q3 := cells_get (cs := [_, _, _, _]) (k := 1) hP2.heap rfl
    change PX _ _ _ _ _ _ _ _ _ (pairP2 P p j) at hP3
    obtain ⟨hla, hna⟩ := hl0
    have hw1 : IntKind.i64.wrap (((P.loads.getD j 0 : Nat) : Int) - 1) = ((P.loads.getD j 0 - 1 : Nat) : Int) := by rw [IntWalk.i64_in _ (by omega)]; omega
    have hw2 : IntKind.i64.wrap (((P.needs.getD p 0 : Nat) : Int) - 1) = ((P.needs.getD p 0 - 1 : Nat) : Int) := by rw [IntWalk.i64_in _ (by omega)]; omega
    clear hlb hnb hP1 hP2
    simp only at q0 q1 q2 q3
    generalize P.loads.getD j 0 - 1 = l1 at *
    generalize P.needs.getD p 0 - 1 = n1 at *
    generalize P.loads.getD j 0 = l at *
    generalize P.needs.getD p 0 = n at *
    refine exec_seq (exec_region_o fun ds => ?_)
    gi_wp2
    refine eq_mk ((Keep.refl _).setCell _ _) ?_
    show Exec _ _ (Code.seq _ _) _ _ _
    generalize Z.setCell ⟨bL, j, none⟩ (iv l1) = Z1 at *
    have hSZ := hSV.keep hBZ2
    clear hSV hBZ2 hBZ q0 q1 q1f
    refine exec_seq (exec_region_o fun ds => ?_)
    gi_wp2
    refine eq_mk ((Keep.refl _).setCell _ _) ?_
    show Exec _ _ (Code.region _ _ _) _ _ _
    generalize Z1.setCell ⟨bN, p, none⟩ (iv n1) = Z2 at *
    obtain ⟨m, hm⟩ := hP3.pnl
    have hcan := can61 hm
    clear hm hP3 q2 q2f q3
    generalize canV (pairP2 P p j) = z at *
    refine exec_region_o fun ds => ?_
    gi_wp2_with fail
    refine ⟨trivial, rfl, (callsIn_wide.2 hcan).mono ?_⟩
    rintro e Z3 ⟨rfl, hz⟩
    gi_wp2
    refine eq_mk (Keep.of_below hz) ?_
    rw [HB.out] at hR
    exact hR _ _ ⟨hSZ.keep hz, by simp [Slots, Fits]⟩
  · rw [hb] at hR ⊢
    exact hR _ _ ⟨hSW, by simp [Slots, Fits]⟩
end Go.Proofs.Ytbdmmikflkpmpaa
end

section
namespace Go.Proofs.Ytbdmmikflkpmpaa
open Go.RowKit Go.TL Go.Shelf Go.Pn
attribute [local go_sem] Oper.semAt_some
attribute [local go_sem] run_store_func
def pairA (a : XP) (x y : Int) : Int × Int := if a.isP then (if inB x 0 ((a.L.length : Int) - 1) && inB y 0 ((a.N.length : Int) - 1) then (if canV (toP a.s3) then ((pairV (toP a.s3) y.toNat x.toNat : Nat), 0) else (0, 4)) else (0, 2)) else (0, 1)
def PaE (w : World) (a : XP) (b r : Nat) (e : Exit) (t : Array Value) (W : World) : Prop := e = .ret ∧ Boxed W (b + 1) 28 (vi 0) ∧ Below w.heap.size w W ∧ Slots (none :: none :: o4 (some (iv r) :: some (.pointer (some ⟨b + 1, 0, none⟩)) :: o4 (o4 (o4 (o16 (o16 (o16 (o64 [])))))))) t
set_option maxRecDepth 100000 in
set_option maxHeartbeats 1000000 in
theorem pair_end {w : World} {a : XP} {b : Nat} (hb : w.heap.size = b) {c1 c2 : Bool} {W : World} (t : Array Value) (hM : PaN w a b c1 c2 t W) : Exec Try.prog none (sub pcode [1, 1, 1, 1, 1, 1, 1, 1, 1, 1, 1, 1]) t W (PaE w a b (if !c1 then 2 else if !c2 then 0 else 1)) := by
  obtain ⟨hS, hSl⟩ := hM
  obtain ⟨r, hr⟩ : ∃ r, (if !c1 then 2 else if !c2 then 0 else 1) = r := ⟨_, rfl⟩
  rw [hr]
  have HR := Lib.hid hr
  clear hr
  obtain ⟨x, hx⟩ := Slots.open_ hSl; simp only [fill, Nat.reduceAdd] at hx; subst hx; clear hSl
  have e1 := hS.e.cell
  have e2 := hS.e.frozen
  subst hb
  have hS1 := boxed_set hS.e (vi 0)
  have hS2 : Below w.heap.size w (W.setCell ⟨w.heap.size + 1, 0, none⟩ (vi 0)) := hS.below.setCell (by show w.heap.size ≤ w.heap.size + 1; omega) _
  show Exec _ _ (Code.seq (Code.block _ _) _) _ _ _
  refine exec_seq (exec_block (exec_seq (exec_region_o fun ds => ?_)))
  gi_wp2
  refine eq_mk (Keep.refl _) ?_
  show Exec _ _ _ _ _ _
  refine exec_cond (b := !c1) rfl (fun hc => ?_) (fun hc => ?_)
  · refine exec_seq (exec_region_o fun ds => ?_)
    gi_wp2
    refine eq_mk ((Keep.refl _).setCell _ _) ?_
    show Exec _ _ _ _ _ _
    have hr := HR.out
    rw [if_pos hc] at hr
    subst hr
    exact exec_ret ⟨rfl, hS1, hS2, by simp [Slots, Fits]⟩
  · have hr := HR.out
    rw [if_neg (by rw [hc]; simp)] at hr
    clear HR
    have HR := Lib.hid hr
    clear hr
    refine exec_seq (exec_region_o fun ds => ?_)
    gi_wp2
    refine eq_mk (Keep.refl _) ?_
    show Exec _ _ _ _ _ _
    refine exec_cond (b := !c2) rfl (fun hc2 => ?_) (fun hc2 => exec_skip ?_)
    · refine exec_seq (exec_region_o fun ds => ?_)
      gi_wp2
      refine eq_mk ((Keep.refl _).setCell _ _) ?_
      show Exec _ _ _ _ _ _
      have hr := HR.out
      rw [if_pos hc2] at hr
      subst hr
      exact exec_ret ⟨rfl, hS1, hS2, by simp [Slots, Fits]⟩
    · have hr := HR.out
      rw [if_neg (by rw [hc2]; simp)] at hr
      subst hr
      clear HR
      show Exec _ _ _ _ _ _
      refine exec_seq (exec_region_o fun ds => ?_)
      gi_wp2
      refine eq_mk ((Keep.refl _).setCell _ _) ?_
      show Exec _ _ _ _ _ _
      exact exec_ret ⟨rfl, hS1, hS2, by simp [Slots, Fits]⟩
theorem pair_all {w : World} {a : XP} (hf : a.Fine) {j p : Nat} (hj : j < a.L.length) (hp : p < a.N.length) {W : World} (hS : SpB w a w.heap.size W) (t : Array Value) (hSl : Slots (none :: some (iv j) :: some (iv p) :: some (.pointer (some ⟨w.heap.size, 0, none⟩)) :: none :: none :: some (iv 0) :: some (.pointer (some ⟨w.heap.size + 1, 0, none⟩)) :: o4 (o4 (o4 (o16 (o16 (o16 (o64 []))))))) t) :
    Exec Try.prog none (sub pcode [1, 1, 1, 1, 1]) t W (PaE w a w.heap.size (pairV (toP a.s3) p j)) :=
  pair_not hf hj hp hS rfl t hSl fun t W hM =>
    pair_try hf hj hp rfl t hM fun pp bL bN AK nK cK vF t W' hM' hb =>
      pair_in hf hj hp rfl hM.1 rfl hb t hM' fun t W'' hN => pair_end rfl t hN
set_option maxRecDepth 100000 in
set_option maxHeartbeats 600000 in
theorem Pair_any (a : XP) (x y : Int) (w : World) (h : a.At w) : Calls Try.prog 19 #[a.val, vi x, vi y] w fun e w' => e = .returned (.tuple #[vi (pairA a x y).1, vi (pairA a x y).2]) ∧ Below w.heap.size w w' := by
  have hmf : ∀ fn first cap w, (Instr.makeFunc fn first cap).run Try.prog w = .ok (.func fn first cap) w := fun _ _ _ _ => rfl
  have hu25 := Try.underlying25
  have hu22 := Try.underlying22
  obtain ⟨A, hA⟩ : ∃ A, pairA a x y = A := ⟨_, rfl⟩
  rw [hA]
  have HA := Lib.hid hA
  clear hA
  refine (callsIn_wide (n := 0)).1 (callsIn_of_wp_marks Try.func19 rfl trivial ?_)
  simp only [Try.ntmps19, List.size_toArray, List.length_cons, List.length_nil, Nat.reduceAdd, Nat.reduceSub, Array.replicate_succ, Array.replicate_zero, List.push_toArray, List.append_toArray, List.nil_append, List.cons_append]
  simp only [XP.val]
  refine split_rest fun rest hR => ?_
  gi_wp2
  have hB := ((Below.refl w.heap.size w).alloc (Nat.le_refl _) (.cells #[a.sL, a.sN, a.sK] 25)).alloc (by simp) (.cells #[.int .i64 0] 28)
  have b1 : PBx ((w.alloc (.cells #[a.sL, a.sN, a.sK] 25)).alloc (.cells #[.int .i64 0] 28)) w.heap.size a := ⟨heap_next (World.alloc_heap_new _ _) _, h.below hB⟩
  have b3 : Boxed ((w.alloc (.cells #[a.sL, a.sN, a.sK] 25)).alloc (.cells #[.int .i64 0] 28)) (w.heap.size + 1) 28 (.int .i64 0) := by (simp only [Boxed, Box2, heap_alloc_at, heap_set_at, World.size_alloc, World.size_setCell]; repeat (first | rfl | rw [if_pos (by omega)] | rw [if_neg (by omega)]))
  refine guard_rest (lo := w.heap.size) (T := 133) (b := w.heap.size + 1) catches66 ⟨_, _, rfl⟩ (fun W => by simp [go_sem]) hB.size ?_
  subst hR
  generalize (w.alloc (.cells #[a.sL, a.sN, a.sK] 25)).alloc (.cells #[.int .i64 0] 28) = V at *
  have c0 := cells_get (cs := [_, _, _]) (k := 0) b1.heap rfl
  have c1 := cells_get (cs := [_, _, _]) (k := 1) b1.heap rfl
  have c2 := cells_get (cs := [_, _, _]) (k := 2) b1.heap rfl
  refine exec_seq (exec_region_o fun ds => ?_)
  gi_wp2_with fail
  cases hp : a.isP with
  | false =>
    refine ⟨trivial, rfl, (callsIn_wide.2 (checked_no a V b1.at_ hp)).mono ?_⟩
    rintro e W2 ⟨rfl, hw2⟩
    refine eq_mk (Keep.of_below hw2) (.inr ⟨1, 28, 0, rfl, (hw2.block _ b3.lt).trans b3, ?_⟩)
    rintro W' W'' hG rfl
    have hB2 := hB.trans (hw2.mono hB.size)
    have d3 := hG.boxed (show Boxed W2 (w.heap.size + 1) 28 (.int .i64 0) from (hw2.block _ b3.lt).trans b3)
    exact ⟨_, results_num rfl rfl rfl (boxed_set d3 _), by rw [← HA.out]; simp [pairA, hp], (hB2.trans (hG.below (Nat.le_refl _) hB2.size)).setCell (by show w.heap.size ≤ w.heap.size + 1; omega) _⟩
  | true =>
    refine ⟨trivial, rfl, (callsIn_wide.2 (checked_yes a V b1.at_ hp)).mono ?_⟩
    rintro e W2 ⟨rfl, hw2⟩
    have hf := a.fine hp
    gi_wp2
    refine eq_mk (Keep.of_below hw2) ?_
    show Exec _ _ _ _ _ _
    have hS2 : SpB w a w.heap.size W2 := ⟨b1.keep hw2, (hw2.block _ b3.lt).trans b3, hB.trans (hw2.mono hB.size)⟩
    clear b1 b3 c0 c1 c2 hB hw2
    clear V
    have hj6 := hf.j
    have hp6 := hf.p
    have hw1 : IntKind.i64.wrap ((a.L.length : Int) - 1) = (a.L.length : Int) - 1 := IntWalk.i64_in _ (by omega)
    have hw2 : IntKind.i64.wrap ((a.N.length : Int) - 1) = (a.N.length : Int) - 1 := IntWalk.i64_in _ (by omega)
    have hh := hS2.p.heap
    simp only [XP.sL, XP.sN] at hh
    have c0 := cells_get (cs := [_, _, _]) (k := 0) hh rfl
    refine exec_seq (exec_region_o fun ds => ?_)
    gi_wp2_with fail
    refine ⟨trivial, rfl, (callsIn_wide.2 (inB_ok x 0 ((a.L.length : Int) - 1) W2)).mono ?_⟩
    rintro e Y ⟨rfl, hy⟩
    have hSY := hS2.keep hy
    have c1 := (Grow.of_below (B := 0) hy).cell (cells_get (cs := [_, _, _]) (k := 1) hh rfl)
    clear c0 hh hS2
    have hno : ∀ Z, SpB w a w.heap.size Z → pairA a x y = (0, 2) → ∀ W' W'', Grow w.heap.size Z W' → W'' = W'.setCell ⟨w.heap.size + 1, 0, none⟩ (.int .i64 2) → ∃ r, (results Try.f19 #[]).run Try.prog W'' = r ∧ True := fun _ _ _ _ _ _ _ => ⟨_, rfl, trivial⟩
    clear hno
    cases h1 : inB x 0 ((a.L.length : Int) - 1) with
    | false =>
      have HN := Lib.hid h1
      clear h1
      gi_wp2
      refine ⟨trivial, ?_⟩
      rename_i hK
      refine hK _ _ ?_
      gi_wp2_with fail
      refine ⟨trivial, rfl, (callsIn_wide.2 (need_no 2 Y)).mono ?_⟩
      rintro e W3 ⟨rfl, rfl⟩
      refine eq_mk (Keep.of_below hy) (.inr ⟨2, 28, 0, rfl, hSY.e, ?_⟩)
      rintro W' W'' hG rfl
      exact ⟨_, results_num rfl rfl rfl (boxed_set (hG.boxed hSY.e) _), by rw [← HA.out]; simp [pairA, hp, HN.out], (hSY.below.trans (hG.below (Nat.le_refl _) hSY.below.size)).setCell (by show w.heap.size ≤ w.heap.size + 1; omega) _⟩
    | true =>
    have HN1 := Lib.hid h1
    clear h1
    gi_wp2_with fail
    refine ⟨trivial, rfl, (callsIn_wide.2 (inB_ok y 0 ((a.N.length : Int) - 1) Y)).mono ?_⟩
    rintro e W4 ⟨rfl, hz⟩
    have hS2 := hSY.keep hz
    have hyz := hy.trans (hz.mono hy.size)
    clear c1 hSY hy hz
    cases h1 : inB y 0 ((a.N.length : Int) - 1) with
    | false =>
      have HN := Lib.hid h1
      clear h1
      gi_wp2_with fail
      refine ⟨trivial, rfl, (callsIn_wide.2 (need_no 2 W4)).mono ?_⟩
      rintro e W3 ⟨rfl, rfl⟩
      refine eq_mk (Keep.of_below hyz) (.inr ⟨2, 28, 0, rfl, hS2.e, ?_⟩)
      rintro W' W'' hG rfl
      exact ⟨_, results_num rfl rfl rfl (boxed_set (hG.boxed hS2.e) _), by rw [← HA.out]; simp [pairA, hp, HN.out, HN1.out], (hS2.below.trans (hG.below (Nat.le_refl _) hS2.below.size)).setCell (by show w.heap.size ≤ w.heap.size + 1; omega) _⟩
    | true =>
    have HN2 := Lib.hid h1
    clear h1
    gi_wp2_with fail
    refine ⟨trivial, rfl, (callsIn_wide.2 (need_yes 2 W4)).mono ?_⟩
    rintro e W3 ⟨rfl, rfl⟩
    gi_wp2
    refine eq_mk (Keep.of_below hyz) ?_
    show Exec _ _ _ _ _ _
    clear hyz
    clear Y W2
    have c0 := cells_get (cs := [_, _, _]) (k := 0) hS2.p.heap rfl
    have c1 := cells_get (cs := [_, _, _]) (k := 1) hS2.p.heap rfl
    have c2 := cells_get (cs := [_, _, _]) (k := 2) hS2.p.heap rfl
    refine exec_seq (exec_region_o fun ds => ?_)
    gi_wp2_with fail
    cases hc : canV (toP a.s3) with
    | false =>
      refine ⟨trivial, rfl, (callsIn_wide.2 (found_no a hf W4 hS2.p.at_ hc)).mono ?_⟩
      rintro e W3 ⟨rfl, hw3⟩
      have hS3 := hS2.keep hw3
      refine eq_mk (Keep.of_below hw3) (.inr ⟨4, 28, 0, rfl, hS3.e, ?_⟩)
      rintro W' W'' hG rfl
      exact ⟨_, results_num rfl rfl rfl (boxed_set (hG.boxed hS3.e) _), by rw [← HA.out]; simp [pairA, hp, hc, HN1.out, HN2.out], (hS3.below.trans (hG.below (Nat.le_refl _) hS3.below.size)).setCell (by show w.heap.size ≤ w.heap.size + 1; omega) _⟩
    | true =>
      refine ⟨trivial, rfl, (callsIn_wide.2 (found_yes a hf W4 hS2.p.at_ hc)).mono ?_⟩
      rintro e W3 ⟨rfl, hw3⟩
      have hA : A = (((pairV (toP a.s3) y.toNat x.toNat : Nat) : Int), 0) := by rw [← HA.out]; simp [pairA, hp, hc, HN1.out, HN2.out]
      have HA := Lib.hid hA
      clear hp hA hc
      have hx0 := HN1.out
      have hy0 := HN2.out
      clear HN1 HN2
      gi_wp2
      refine eq_mk (Keep.of_below hw3) ?_
      show Exec _ _ _ _ _ _
      have hS3 := hS2.keep hw3
      clear c0 c1 c2 hS2 hw3
      clear W4
      unfold inB at hx0 hy0
      rw [Bool.and_eq_true, decide_eq_true_eq, decide_eq_true_eq] at hx0 hy0
      obtain ⟨j, rfl⟩ : ∃ j : Nat, x = j := ⟨x.toNat, by omega⟩
      obtain ⟨p, rfl⟩ : ∃ p : Nat, y = p := ⟨y.toNat, by omega⟩
      simp only [Int.toNat_natCast] at HA
      have hj : j < a.L.length := by omega
      have hp : p < a.N.length := by omega
      clear hx0 hy0 hw1 hw2
      refine (pair_all hf hj hp hS3 _ (by simp [Slots, Fits])).mono ?_
      rintro e t Z ⟨rfl, hZe, hZB, hSl⟩
      obtain ⟨x, hx⟩ := Slots.open_ hSl; simp only [fill, Nat.reduceAdd] at hx; subst hx; clear hSl
      exact .inl ⟨.inr rfl, hZe.lt, fun W' hG => ⟨_, results_num rfl rfl rfl (hG.boxed hZe), by rw [HA.out], hZB.trans (hG.below (Nat.le_refl _) hZB.size)⟩⟩
end Go.Proofs.Ytbdmmikflkpmpaa
end

section
namespace Go.Proofs.Ytbdmmikflkpmpaa
open Go.RowKit Go.TL Go.Shelf Go.Pn
attribute [local go_sem] Oper.semAt_some
attribute [local go_sem] run_store_func
theorem info3q : ∃ i0, Try.prog.info? 3 = some i0 ∧ i0.zero = some (.int .i64 0) ∧ i0.size = 1 ∧ i0.bytes = 8 := by
  have h : (Try.prog.info? 3).map (fun i => (i.zero, i.size, i.bytes)) = some (some (.int .i64 0), 1, 8) := by kernel_rfl
  cases e : Try.prog.info? 3 with
  | none => rw [e] at h; cases h
  | some i0 =>
    rw [e] at h
    have := Option.some.inj h
    simp only [Prod.mk.injEq] at this
    exact ⟨i0, rfl, this.1, this.2.1, this.2.2⟩
set_option maxRecDepth 100000 in
set_option maxHeartbeats 600000 in
theorem clone54 (A : Option Addr) (c : Nat) (l : List Int) (hl : l.length ≤ 1000) (w : World) (hf : RowV w A (l.map vi)) : Calls Try.prog 54 #[.slice A l.length c] w fun e w' => ∃ v, e = .returned v ∧ w'.ownsRow w.heap.size 3 1 v l.length (l.map vi) ∧ Below w.heap.size w w' := by
  refine calls_of_exec Try.func54 rfl ?_
  simp only [Try.ntmps54, List.size_toArray, List.length_cons, List.length_nil, Nat.reduceAdd, Nat.reduceSub, Array.replicate_succ, Array.replicate_zero, List.push_toArray, List.append_toArray, List.nil_append, List.cons_append]
  refine exec_seq (exec_region_o fun ds => ?_)
  gi_wp2
  refine eq_mk (Keep.refl w) ?_
  show Exec _ _ _ _ _ _
  have heq := Lib.run_eql_slice_nil (P := Try.prog) w 22 3 A l.length c 0 0 Try.underlying22
  cases A with
  | none =>
    have hl0 : l = [] := by
      cases l with
      | nil => rfl
      | cons x r =>
        obtain ⟨a, e, _⟩ := hf 0 (vi x) rfl
        cases e
    subst hl0
    simp only [List.length_nil, Option.isNone] at heq ⊢
    refine exec_seq (exec_seq (exec_region_o fun ds => ?_))
    gi_wp2
    refine eq_mk (Keep.refl w) ?_
    show Exec _ _ _ _ _ _
    refine exec_cond (b := true) rfl (fun _ => ?_) (fun h => by cases h)
    refine exec_seq (exec_region_o fun ds => ?_)
    gi_wp2
    refine eq_mk (Keep.refl w) ?_
    refine exec_ret ⟨.inr rfl, fun W' hG => ⟨.slice none 0 0, by simp [results, Try.f54, go_sem], World.ownsRow_nil _ _ _ _, hG.below (Nat.le_refl _) (Nat.le_refl _)⟩⟩
  | some ad =>
    simp only [Option.isNone] at heq
    refine exec_seq (exec_seq (exec_region_o fun ds => ?_))
    gi_wp2
    refine eq_mk (Keep.refl w) ?_
    show Exec _ _ _ _ _ _
    refine exec_cond (b := false) rfl (fun h => by cases h) (fun _ => ?_)
    refine exec_skip ?_
    show Exec _ _ _ _ _ _
    obtain ⟨i0, hi0, hz0, hz1, hz2⟩ := info3q
    have hown : (w.alloc (.cells #[] 3)).ownsRow w.heap.size 3 1 (.slice (some ⟨w.heap.size, 0, none⟩) 0 0) 0 [] := World.ownsRow_made w #[] 0 (Nat.le_refl _) (by unfold maxLen; omega) rfl
    have hsrc : ∀ j u, (l.map vi)[j]? = some u → (w.alloc (.cells #[] 3)).cell? (ad.add j) = some u := by
      intro j u hj
      obtain ⟨a, e, hc⟩ := hf j u hj
      cases e
      exact (Grow.alloc 0 _ _).cell hc
    refine exec_seq (exec_region_o fun ds => ?_)
    gi_wp2_with (gi_at_builtin; refine wpListIn_append_own _ rfl _ _ 22 rfl w.heap.size 3 i0 (.int .i64 0) 1 8 Try.underlying22 hi0 hz0 hz1 hz2 rfl (by decide) (.slice (some ⟨w.heap.size, 0, none⟩) 0 0) 0 [] rfl hown ad l.length c (l.map vi) rfl (by simp) hsrc (by intro u hu; obtain ⟨y, _, rfl⟩ := List.mem_map.1 hu; rfl) (by unfold maxLen; omega) (by omega) (by simp) ?_; intro v' w' hown2 hgr _)
    have hbk : ∀ j o, (Value.slice (some ⟨w.heap.size, 0, none⟩) 0 0).ownBlock = some j → (w.alloc (.cells #[] 3)).heap[j]? = some o → book o = false := by
      intro j o hv ho
      simp only [Value.ownBlock, Option.some.injEq] at hv
      subst hv
      rw [World.alloc_heap_new] at ho
      cases ho
      rfl
    have hB3 : Below w.heap.size w w' := ((Below.refl _ w).alloc (Nat.le_refl _) (.cells #[] 3)).grown hgr (by simp) (fun q e => by simp only [Value.ownBlock, Option.some.injEq] at e; omega)
    rw [Nat.zero_add, List.nil_append] at hown2
    refine eq_mk (((Keep.refl _).alloc _).grown hgr hbk) ?_
    refine exec_ret ⟨.inr rfl, fun W' hG => ⟨v', by simp [results, Try.f54, go_sem], own_grow hown2 hG, hB3.trans (hG.below (Nat.le_refl _) hB3.size)⟩⟩
theorem neg59 (x : Int) (w : World) : Calls Try.prog 59 #[vi x] w fun e w' => e = .returned (.bool (decide (x < 0))) ∧ Below w.heap.size w w' := by
  refine calls_of_exec Try.func59 rfl ?_
  simp only [Try.ntmps59, List.size_toArray, List.length_cons, List.length_nil, Nat.reduceAdd, Nat.reduceSub, Array.replicate_succ, Array.replicate_zero, List.push_toArray, List.append_toArray, List.nil_append, List.cons_append]
  refine exec_seq (exec_region_o fun ds => ?_)
  gi_wp2
  refine eq_mk (Keep.refl w) ?_
  show Exec _ _ _ _ _ _
  refine exec_seq (exec_region_o fun ds => ?_)
  gi_wp2
  refine eq_mk (Keep.refl w) ?_
  exact exec_ret ⟨.inr rfl, fun W' hG => ⟨.bool (decide (x < 0)), by simp [results, Try.f59, go_sem], rfl, hG.below (Nat.le_refl _) (Nat.le_refl _)⟩⟩
end Go.Proofs.Ytbdmmikflkpmpaa
end

section
namespace Go.Proofs.Ytbdmmikflkpmpaa
open Go.RowKit Go.TL Go.Shelf Go.Pn
attribute [local go_sem] Oper.semAt_some
attribute [local go_sem] run_store_func
noncomputable abbrev scode : Code := Try.f15.body.getD .skip
noncomputable abbrev sround : Code := sub scode [1, 1, 1, 1, 1, 0, 1, 0, 0, 1, 1, 0, 0, 1, 1, 0, 0, 1, 1, 0, 0]
def decI (l : List Nat) (s k : Nat) : List Int := (List.range l.length).map fun i => (l.getD i 0 : Int) - if decide (i < k) && s.testBit i then 1 else 0
theorem decI_len (l : List Nat) (s k : Nat) : (decI l s k).length = l.length := by simp [decI]
theorem decI_get {l : List Nat} {s k i : Nat} (hi : i < l.length) : (decI l s k)[i]? = some ((l.getD i 0 : Int) - if decide (i < k) && s.testBit i then 1 else 0) := by
  unfold decI
  rw [List.getElem?_map, List.getElem?_range hi]
  rfl
theorem decI_zero (l : List Nat) (s : Nat) : (decI l s 0).map vi = l.map iv := by
  refine List.ext_getElem? fun i => ?_
  rw [List.getElem?_map, List.getElem?_map]
  by_cases hi : i < l.length
  · rw [decI_get hi, List.getElem?_eq_getElem hi, getD_lt hi]
    simp
  · rw [List.getElem?_eq_none (by rw [decI_len]; omega), List.getElem?_eq_none (by omega)]
    rfl
theorem decI_succ {l : List Nat} {s k : Nat} (hk : k < l.length) : decI l s (k + 1) = if s.testBit k then (decI l s k).set k ((l.getD k 0 : Int) - 1) else decI l s k := by
  refine List.ext_getElem? fun i => ?_
  by_cases hi : i < l.length
  · rw [decI_get hi]
    cases hb : s.testBit k with
    | true =>
      rw [if_pos rfl, List.getElem?_set, decI_len]
      by_cases e : k = i
      · subst e
        simp [hb, hk]
      · rw [if_neg e, decI_get hi]
        have : decide (i < k + 1) = decide (i < k) := decide_eq_decide.2 (by omega)
        rw [this]
    | false =>
      rw [if_neg (show ¬ (false = true) by decide)]
      refine Eq.trans ?_ (decI_get hi).symm
      by_cases e : i = k
      · subst e
        simp [hb]
      · have : decide (i < k + 1) = decide (i < k) := decide_eq_decide.2 (by omega)
        rw [this]
  · rw [List.getElem?_eq_none (by rw [decI_len]; omega)]
    split
    · rw [List.getElem?_eq_none (by rw [List.length_set, decI_len]; omega)]
    · rw [List.getElem?_eq_none (by rw [decI_len]; omega)]
def DeI (n1 by8 : Nat) (V : World) (A : Option Addr) (c : Nat) (l : List Nat) (s : Nat) (u1 u2 u3 u4 u5 u6 u20 u21 u22 u30 : Value) (n : Nat) (t : Array Value) (W : World) : Prop :=
  ∃ k : Nat, k ≤ l.length ∧ n = l.length - k ∧ Below n1 V W ∧ W.ownsRow n1 3 1 (.slice A l.length c) l.length ((decI l s k).map vi) ∧ Slots (none :: some (u1) :: some (u2) :: some (u3) :: some (u4) :: some (u5) :: some (u6) :: some (u64 s) :: some (.pointer (some ⟨by8, 0, none⟩)) :: none :: none :: none :: o4 (o4 (some (u20) :: some (u21) :: some (u22) :: none :: none :: none :: o4 (some (u30) :: some (u64 s) :: none :: o4 (o4 (o16 (some (iv l.length) :: some (iv k) :: none :: none :: none :: o4 (o4 (o16 (o16 [])))))))))) t
def DeM (n1 by8 k : Nat) (V : World) (A : Option Addr) (c : Nat) (l : List Nat) (D : List Int) (s : Nat) (u1 u2 u3 u4 u5 u6 u20 u21 u22 u30 : Value) (t : Array Value) (W : World) : Prop :=
  Below n1 V W ∧ W.ownsRow n1 3 1 (.slice A l.length c) l.length (D.map vi) ∧ Slots (none :: some (u1) :: some (u2) :: some (u3) :: some (u4) :: some (u5) :: some (u6) :: some (u64 s) :: some (.pointer (some ⟨by8, 0, none⟩)) :: none :: none :: none :: o4 (o4 (some (u20) :: some (u21) :: some (u22) :: none :: none :: none :: o4 (some (u30) :: some (u64 s) :: none :: o4 (o4 (o16 (some (iv l.length) :: some (iv k) :: none :: none :: none :: o4 (o4 (o16 (o16 [])))))))))) t
def DeE (n1 by8 : Nat) (V : World) (A : Option Addr) (c : Nat) (l : List Nat) (s : Nat) (u1 u2 u3 u4 u5 u6 u20 u21 u22 u30 : Value) (t : Array Value) (W : World) : Prop :=
  Below n1 V W ∧ W.ownsRow n1 3 1 (.slice A l.length c) l.length ((decI l s l.length).map vi) ∧ Slots (none :: some (u1) :: some (u2) :: some (u3) :: some (u4) :: some (u5) :: some (u6) :: some (u64 s) :: some (.pointer (some ⟨by8, 0, none⟩)) :: none :: none :: none :: o4 (o4 (some (u20) :: some (u21) :: some (u22) :: none :: none :: none :: o4 (some (u30) :: some (u64 s) :: none :: none :: o4 (o64 []))))) t
set_option maxRecDepth 100000 in
set_option maxHeartbeats 2000000 in
theorem sit_dec {n1 by8 : Nat} {V : World} {A : Option Addr} {c : Nat} {l : List Nat} {s : Nat} {u1 u2 u3 u4 u5 u6 u20 u21 u22 u30 : Value} {sN sK : Value} (hs : s < 2 ^ 64) (hl : l.length ≤ 6) (hlb : ∀ x ∈ l, x ≤ 1000000) (hown : V.ownsRow n1 3 1 (.slice A l.length c) l.length (l.map iv)) (hy : V.heap[by8]? = some (.cells #[.slice A l.length c, sN, sK] 25 (0, 0))) (hlt : by8 < n1) (hn1 : n1 ≤ V.heap.size)
    (t : Array Value) (hSl : Slots (none :: some (u1) :: some (u2) :: some (u3) :: some (u4) :: some (u5) :: some (u6) :: some (u64 s) :: some (.pointer (some ⟨by8, 0, none⟩)) :: none :: none :: none :: o4 (o4 (some (u20) :: some (u21) :: some (u22) :: none :: none :: none :: o4 (some (u30) :: some (u64 s) :: none :: none :: o4 (o64 []))))) t) :
    Exec Try.prog none (sub sround [1, 1, 1, 1, 0]) t V (andThen (DeE n1 by8 V A c l s u1 u2 u3 u4 u5 u6 u20 u21 u22 u30) fun _ _ _ => False) := by
  have hu25 := Try.underlying25
  have hu22 := Try.underlying22
  obtain ⟨x, hx⟩ := Slots.open_ hSl; simp only [fill, Nat.reduceAdd] at hx; subst hx; clear hSl
  have c0 := cells_get (cs := [_, _, _]) (k := 0) hy rfl
  show Exec _ _ (Code.seq _ _) _ _ _
  refine exec_seq (exec_region_o fun ds => ?_)
  gi_wp2
  refine eq_mk (Keep.refl _) ?_
  show Exec _ _ _ _ _ _
  refine exec_block ?_
  refine exec_loop (DeI n1 by8 V A c l s u1 u2 u3 u4 u5 u6 u20 u21 u22 u30) l.length ⟨0, by omega, rfl, Below.refl _ _, by rw [decI_zero]; exact hown, by simp [Slots, Fits]⟩ ?_
  clear c0 hown
  rintro n t X ⟨k, hk, hn, hB, hO, hSl⟩
  have hDl := decI_len l s k
  have hsu := @decI_succ l s k
  have hend : k = l.length → decI l s k = decI l s l.length := fun e => by rw [← e]
  have hget := @decI_get l s k k
  generalize decI l s k = D at *
  obtain ⟨x, hx⟩ := Slots.open_ hSl; simp only [fill, Nat.reduceAdd] at hx; subst hx; clear hSl
  have hyX : X.heap[by8]? = some (.cells #[.slice A l.length c, sN, sK] 25 (0, 0)) := (hB.block _ hlt).trans hy
  refine exec_seq (exec_region_o fun ds => ?_)
  gi_wp2
  refine eq_mk (Keep.refl _) ?_
  show Exec _ _ _ _ _ _
  refine exec_seq (exec_cond (b := decide (k < l.length)) (by first | rfl | (show Value.bool _ = _; congr 1; exact decide_eq_decide.2 (by omega))) (fun hp => exec_skip ?_) (fun hp => exec_exit ?_))
  · have hkl : k < l.length := by have := of_decide_eq_true hp; omega
    show Exec _ _ _ _ _ _
    have hsu := hsu hkl
    have hget := hget hkl
    have hlk : l.getD k 0 ≤ 1000000 := hlb _ (mem_getD hkl)
    rw [show decide (k < k) = false from decide_eq_false (by omega)] at hget
    simp only [Bool.false_and, Bool.false_eq_true, if_false, Int.sub_zero] at hget
    generalize l.getD k 0 = lk at *
    obtain ⟨D2, hD2⟩ : ∃ D2, decI l s (k + 1) = D2 := ⟨_, rfl⟩
    rw [hD2] at hsu
    have H2 := Lib.hid hD2
    have HS := Lib.hid hsu
    clear hsu hend hD2
    refine exec_cut (DeM n1 by8 k V A c l D2 s u1 u2 u3 u4 u5 u6 u20 u21 u22 u30) (exec_block (exec_seq (exec_region_o fun ds => ?_))) ?_
    · gi_wp2
      refine eq_mk (Keep.refl _) ?_
      show Exec _ _ _ _ _ _
      refine exec_seq (exec_region_o fun ds => ?_)
      gi_wp2_with fail
      refine ⟨trivial, rfl, (callsIn_wide.2 (has57 s k hs (by omega) X)).mono ?_⟩
      rintro e Y ⟨rfl, hYb⟩
      have hBY : Below n1 V Y := hB.trans (hYb.mono (Nat.le_trans hn1 hB.size))
      have hOY := own_grow hO (Grow.of_below (B := 0) hYb)
      have hKY := Keep.of_below hYb
      have hyY : Y.heap[by8]? = some (.cells #[.slice A l.length c, sN, sK] 25 (0, 0)) := (hBY.block _ hlt).trans hy
      clear hB hO hyX hYb
      cases hq : s.testBit k with
      | false =>
        have HE : RowKit.Hid (D2 = D) := Lib.hid (by rw [HS.out, hq]; rfl)
        clear hq
        gi_wp2
        refine eq_mk hKY ?_
        show Exec _ _ _ _ _ _
        refine exec_cond (b := false) rfl (fun hp => by cases hp) (fun hp => exec_skip ?_)
        exact ⟨hBY, by rw [HE.out]; exact hOY, (by simp only [Slots, Fits, and_self])⟩
      | true =>
        have HE : RowKit.Hid (D2 = D.set k ((lk : Int) - 1)) := Lib.hid (by rw [HS.out, hq]; rfl)
        clear hq
        gi_wp2
        refine eq_mk hKY ?_
        show Exec _ _ _ _ _ _
        refine exec_cond (b := true) rfl (fun hp => ?_) (fun hp => by cases hp)
        obtain ⟨g, cap, e, hg1⟩ : ∃ g cap, A = some ⟨g, 0, none⟩ ∧ n1 ≤ g := by
          rcases hOY.2 with ⟨_, hz⟩ | ⟨g, cap, cur, e, hb, _⟩
          · omega
          · simp only [Value.slice.injEq] at e
            exact ⟨g, cap, e.1, hb⟩
        subst e
        have c0 := cells_get (cs := [_, _, _]) (k := 0) hyY rfl
        have hkI : (k : Int) < l.length := by omega
        have ck : Y.cell? ⟨g, k, none⟩ = some (iv lk) := by
          rw [hOY.cellAt k (by omega), List.getElem?_map, hget]
          rfl
        have cf := hOY.frozenAt k
        have hw : IntKind.i64.wrap ((lk : Int) - 1) = (lk : Int) - 1 := IntWalk.i64_in _ (by omega)
        obtain ⟨hst, hgr⟩ := hOY.stored k (vi ((lk : Int) - 1))
        refine exec_region_o fun ds => ?_
        gi_wp2
        refine eq_mk ((Keep.refl _).setCell _ _) ?_
        refine ⟨hBY.setCell (p := ⟨g, k, none⟩) hg1 _, ?_, (by simp only [Slots, Fits, and_self])⟩
        rw [HE.out, List.map_set]
        exact hst
    · clear hB hO hyX x hget hDl
      clear X
      rintro t' Y ⟨hB, hO, hSl⟩
      obtain ⟨x, hx⟩ := Slots.open_ hSl; simp only [fill, Nat.reduceAdd] at hx; subst hx; clear hSl
      have hw : IntKind.i64.wrap ((k : Int) + 1) = ((k + 1 : Nat) : Int) := by rw [IntWalk.i64_in _ (by omega)]; norm_cast
      refine exec_region_o fun ds => ?_
      gi_wp2
      exact eq_mk (Keep.refl _) ⟨n - 1, by omega, k + 1, by omega, by omega, hB, by rw [H2.out]; exact hO, by simp only [Slots, Fits, and_self]; simp⟩
  · have hkl : k = l.length := by have := of_decide_eq_false hp; omega
    rw [hend hkl] at hO
    exact ⟨hB, hO, by simp [Slots, Fits]⟩
end Go.Proofs.Ytbdmmikflkpmpaa
end

section
namespace Go.Proofs.Ytbdmmikflkpmpaa
open Go.RowKit Go.TL Go.Shelf Go.Pn
attribute [local go_sem] Oper.semAt_some
attribute [local go_sem] run_store_func
structure SiW (w : World) (a : XP) (b : Nat) (acc l : List Nat) (v2 : Value) (A4 : Option Addr) (W : World) : Prop where
  sp : SpB w a b W
  own : W.ownsRow (b + 2) 3 1 v2 acc.length (acc.map iv)
  row : RowV W A4 (l.map iv)
theorem SiW.keep {w : World} {a : XP} {b : Nat} {acc l : List Nat} {v2 : Value} {A4 : Option Addr} {W W' : World} (h : SiW w a b acc l v2 A4 W) (hb : Below W.heap.size W W') : SiW w a b acc l v2 A4 W' := ⟨h.sp.keep hb, own_grow h.own (Grow.of_below (B := 0) hb), h.row.below hb⟩
theorem row_u64 {W : World} {A : Option Addr} {l : List Nat} (h : RowV W A (l.map u64)) {i : Nat} (hi : i < l.length) : ∃ ad, A = some ad ∧ W.cell? (ad.add i) = some (u64 (l.getD i 0)) :=
  h i _ (by rw [List.getElem?_map, List.getElem?_eq_getElem hi, getD_lt hi]; rfl)
set_option maxRecDepth 100000 in
set_option maxHeartbeats 1000000 in
theorem sit_pick {w : World} {a : XP} {b : Nat} {acc l : List Nat} {v2 : Value} {A4 : Option Addr} {c4 p kd N s : Nat} (hf : a.Fine) (hp : p < a.N.length) (hs : s < 64) {W : World} (hW : SiW w a b acc l v2 A4 W) {t : Array Value} (hSl : Slots (none :: some (.pointer (some ⟨b, 0, none⟩)) :: some (v2) :: some (.pointer (some ⟨b + 1, 0, none⟩)) :: some (.slice A4 l.length c4) :: some (iv p) :: some (iv kd) :: none :: o4 (o4 (o4 (some (.slice a.AN a.N.length a.cN) :: some (iv a.N.length) :: some (iv p) :: none :: none :: none :: o4 (some (u64 N) :: some (u64 s) :: none :: none :: o4 (o64 [])))))) t) {Q : Exit → Array Value → World → Prop}
    (hno : okS kd ((toP a.s3).fit.getD p 0) s = false → ∀ t W', SiW w a b acc l v2 A4 W' → Slots (none :: some (.pointer (some ⟨b, 0, none⟩)) :: some (v2) :: some (.pointer (some ⟨b + 1, 0, none⟩)) :: some (.slice A4 l.length c4) :: some (iv p) :: some (iv kd) :: none :: o4 (o4 (o4 (some (.slice a.AN a.N.length a.cN) :: some (iv a.N.length) :: some (iv p) :: none :: none :: none :: o4 (some (u64 N) :: some (u64 s) :: none :: none :: o4 (o64 [])))))) t → Q (.exit 3) t W')
    (hyes : okS kd ((toP a.s3).fit.getD p 0) s = true → ∀ t W', SiW w a b acc l v2 A4 W' → Slots (none :: some (.pointer (some ⟨b, 0, none⟩)) :: some (v2) :: some (.pointer (some ⟨b + 1, 0, none⟩)) :: some (.slice A4 l.length c4) :: some (iv p) :: some (iv kd) :: some (u64 s) :: o4 (o4 (o4 (some (.slice a.AN a.N.length a.cN) :: some (iv a.N.length) :: some (iv p) :: none :: none :: none :: o4 (some (u64 N) :: some (u64 s) :: none :: none :: o4 (o64 [])))))) t → Exec Try.prog none (sub sround [1, 1]) t W' Q) :
    Exec Try.prog none sround t W Q := by
  have hu25 := Try.underlying25
  have hu75 := Try.underlying75
  have hu73 := Try.underlying73
  have hpN : p < (toP a.s3).needs.length := by simpa [toP, XP.s3] using hp
  obtain ⟨x, hx⟩ := Slots.open_ hSl; simp only [fill, Nat.reduceAdd] at hx; subst hx; clear hSl
  obtain ⟨f, hfe⟩ : ∃ f, (toP a.s3).fit.getD p 0 = f := ⟨_, rfl⟩
  rw [hfe] at hno hyes
  have Hf := Lib.hid hfe
  clear hfe
  have hok : okS kd f s = (decide (pop s = kd) && ((s &&& (2 ^ 64 - 1 - f)) == 0)) := by
    unfold okS
    congr 1
  have HOK := Lib.hid hok
  clear hok
  show Exec _ _ (Code.seq _ _) _ _ _
  refine exec_seq (exec_region_o fun ds => ?_)
  gi_wp2
  refine eq_mk (Keep.refl _) ?_
  show Exec _ _ (Code.seq (Code.seq _ _) _) _ _ _
  refine exec_seq (exec_seq (exec_region_o fun ds => ?_))
  gi_wp2_with fail
  refine ⟨trivial, rfl, (callsIn_wide.2 (size55 s (by omega) W)).mono ?_⟩
  rintro e X ⟨rfl, hx⟩
  have hWX := hW.keep hx
  have c0 := cells_get (cs := [_, _, _]) (k := 0) hWX.sp.p.heap rfl
  have c1 := cells_get (cs := [_, _, _]) (k := 1) hWX.sp.p.heap rfl
  have c2 := cells_get (cs := [_, _, _]) (k := 2) hWX.sp.p.heap rfl
  clear hW
  obtain ⟨z, hz⟩ : ∃ z, pop s = z := ⟨_, rfl⟩
  rw [hz] at HOK
  simp only [hz]
  have Hz := Lib.hid hz
  clear hz
  by_cases hpk : z = kd
  · subst hpk
    have hokz : okS z f s = ((s &&& (2 ^ 64 - 1 - f)) == 0) := by rw [HOK.out]; simp
    clear HOK
    gi_wp2_with fail
    refine ⟨trivial, rfl, (callsIn_wide.2 (open_plain a hf X hWX.sp.p.at_)).mono ?_⟩
    rintro e Y ⟨pp, m, rfl, hpp, hy, hP⟩
    have hWY := hWX.keep hy
    have hxy := hx.trans (hy.mono hx.size)
    have e3 := cells_get (cs := [_, _, _, _]) (k := 3) hP.heap rfl
    obtain ⟨ad, hA, hc⟩ := row_u64 hP.rf (i := p) (by rw [hP.fl]; exact hpN)
    have hflt : f < 2 ^ 64 := by
      rw [← Hf.out]
      exact hP.fb _ (mem_getD (by rw [hP.fl]; exact hpN))
    rw [Hf.out] at hc
    rw [hA] at e3
    have hpI : (p : Int) < (toP a.s3).needs.length := by omega
    have han : bits .andNot .u64 (s : Int) (f : Int) = ((s &&& (2 ^ 64 - 1 - f) : Nat) : Int) := andNot_nat s f (by omega) hflt
    clear c0 c1 c2 hWX hP hpp
    obtain ⟨q, hq⟩ : ∃ q, s &&& (2 ^ 64 - 1 - f) = q := ⟨_, rfl⟩
    rw [hq] at han hokz
    clear hq hA
    gi_wp2
    refine eq_mk (Keep.of_below hxy) ?_
    show Exec _ _ (Code.cond _ _ _) _ _ _
    cases hqz : (q == 0) with
    | true =>
      have hq0 : q = 0 := by simpa using hqz
      subst hq0
      refine exec_cond (b := false) rfl (fun h => by cases h) (fun _ => exec_skip ?_)
      exact hyes (by rw [hokz]; rfl) _ _ hWY (by simp [Slots, Fits])
    | false =>
      have hq0 : q ≠ 0 := by simpa using hqz
      refine exec_cond (b := true) (by first | (show Value.bool (decide _) = _; simp [hq0]; done) | (show Value.bool (!decide _) = _; simp [hq0]; done) | (show Value.bool (!(_ == _)) = _; simp [hq0]; done)) (fun _ => exec_exit ?_) (fun h => by cases h)
      exact hno (by rw [hokz, hqz]) _ _ hWY (by simp [Slots, Fits])
  · have hokz : okS kd f s = false := by rw [HOK.out]; simp [hpk]
    clear HOK
    have hpkI : ¬ ((z : Int) = kd) := by omega
    gi_wp2
    first | refine ⟨trivial, ?_⟩ | skip
    rename_i hK
    refine hK _ _ ?_
    gi_wp2
    refine eq_mk (Keep.of_below hx) ?_
    show Exec _ _ (Code.cond _ _ _) _ _ _
    refine exec_cond (b := true) rfl (fun _ => exec_exit ?_) (fun h => by cases h)
    exact hno hokz _ _ hWX (by simp [Slots, Fits])
end Go.Proofs.Ytbdmmikflkpmpaa
end

section
namespace Go.Proofs.Ytbdmmikflkpmpaa
open Go.RowKit Go.TL Go.Shelf Go.Pn
attribute [local go_sem] Oper.semAt_some
attribute [local go_sem] run_store_func
structure SiY (w : World) (a : XP) (b : Nat) (acc l : List Nat) (v2 : Value) (A4 : Option Addr) (by8 : Nat) (A5 : Option Addr) (c5 : Nat) (D : List Int) (W : World) : Prop where
  si : SiW w a b acc l v2 A4 W
  box : W.heap[by8]? = some (.cells #[.slice A5 l.length c5, a.sN, a.sK] 25 (0, 0))
  row : RowV W A5 (D.map vi)
  far : ∀ q, v2.ownBlock = some q → q < by8
  far5 : D ≠ [] → ∀ ad, A5 = some ad → by8 < ad.block
theorem SiY.keep {w : World} {a : XP} {b : Nat} {acc l : List Nat} {v2 : Value} {A4 : Option Addr} {by8 : Nat} {A5 : Option Addr} {c5 : Nat} {D : List Int} {W W' : World} (h : SiY w a b acc l v2 A4 by8 A5 c5 D W) (hb : Below W.heap.size W W') : SiY w a b acc l v2 A4 by8 A5 c5 D W' := ⟨h.si.keep hb, (hb.block _ (heap_lt h.box)).trans h.box, h.row.below hb, h.far, h.far5⟩
theorem clone_nat (A : Option Addr) (c : Nat) (l : List Nat) (hl : l.length ≤ 1000) (w : World) (hf : RowV w A (l.map iv)) : Calls Try.prog 54 #[.slice A l.length c] w fun e w' => ∃ v, e = .returned v ∧ w'.ownsRow w.heap.size 3 1 v l.length (l.map iv) ∧ Below w.heap.size w w' := by
  have e : (l.map fun n : Nat => (n : Int)).map vi = l.map iv := by rw [List.map_map]; rfl
  have h := clone54 A c (l.map fun n : Nat => (n : Int)) (by simpa using hl) w (by rw [e]; exact hf)
  rw [e, List.length_map] at h
  exact h
set_option maxRecDepth 100000 in
set_option maxHeartbeats 1000000 in
theorem sit_copy {w : World} {a : XP} {b : Nat} {acc l : List Nat} {v2 : Value} {A4 : Option Addr} {c4 p kd N s : Nat} (hl : l.length ≤ 6) (hlb : ∀ x ∈ l, x ≤ 6) (hs : s < 64) {W : World} (hW : SiW w a b acc l v2 A4 W) {t : Array Value} (hSl : Slots (none :: some (.pointer (some ⟨b, 0, none⟩)) :: some (v2) :: some (.pointer (some ⟨b + 1, 0, none⟩)) :: some (.slice A4 l.length c4) :: some (iv p) :: some (iv kd) :: some (u64 s) :: o4 (o4 (o4 (some (.slice a.AN a.N.length a.cN) :: some (iv a.N.length) :: some (iv p) :: none :: none :: none :: o4 (some (u64 N) :: some (u64 s) :: none :: none :: o4 (o64 [])))))) t) {Q : Exit → Array Value → World → Prop}
    (hR : ∀ by8 A5 c5 t W', SiY w a b acc l v2 A4 by8 A5 c5 (decI l s l.length) W' → Slots (none :: some (.pointer (some ⟨b, 0, none⟩)) :: some (v2) :: some (.pointer (some ⟨b + 1, 0, none⟩)) :: some (.slice A4 l.length c4) :: some (iv p) :: some (iv kd) :: some (u64 s) :: some (.pointer (some ⟨by8, 0, none⟩)) :: none :: none :: none :: o4 (o4 (some (.slice a.AN a.N.length a.cN) :: some (iv a.N.length) :: some (iv p) :: none :: none :: none :: o4 (some (u64 N) :: some (u64 s) :: none :: none :: o4 (o64 []))))) t → Exec Try.prog none (sub sround [1, 1, 1, 1, 1]) t W' Q) :
    Exec Try.prog none (sub sround [1, 1]) t W Q := by
  have hu25 := Try.underlying25
  have hu22 := Try.underlying22
  obtain ⟨x, hx⟩ := Slots.open_ hSl; simp only [fill, Nat.reduceAdd] at hx; subst hx; clear hSl
  have hh := hW.sp.p.heap
  simp only [XP.sL, XP.sN, XP.sK] at hh
  have c0 := cells_get (cs := [_, _, _]) (k := 0) hh rfl
  have c1 := cells_get (cs := [_, _, _]) (k := 1) hh rfl
  have c2 := cells_get (cs := [_, _, _]) (k := 2) hh rfl
  clear hh
  show Exec _ _ (Code.seq _ _) _ _ _
  refine exec_seq (exec_region_o fun ds => ?_)
  gi_wp2
  refine eq_mk ((Keep.refl _).alloc _) ?_
  show Exec _ _ (Code.seq _ _) _ (W.alloc (.cells #[a.sL, a.sN, a.sK] 25)) _
  have hB := (Below.refl W.heap.size W).alloc (Nat.le_refl _) (.cells #[a.sL, a.sN, a.sK] 25)
  have hWX := hW.keep hB
  have y1 : (W.alloc (.cells #[a.sL, a.sN, a.sK] 25)).heap[W.heap.size]? = some (.cells #[a.sL, a.sN, a.sK] 25 (0, 0)) := World.alloc_heap_new _ _
  have hfar : ∀ q, v2.ownBlock = some q → q < W.heap.size := fun q e => (hW.own.lt q e).2
  have hsz : (W.alloc (.cells #[a.sL, a.sN, a.sK] 25)).heap.size = W.heap.size + 1 := by simp
  clear c0 c1 c2
  generalize W.alloc (.cells #[a.sL, a.sN, a.sK] 25) = X at *
  have hcl := clone_nat A4 c4 l (by omega) X hWX.row
  refine exec_seq (exec_region_o fun ds => ?_)
  gi_wp2_with fail
  refine ⟨trivial, rfl, (callsIn_wide.2 hcl).mono ?_⟩
  rintro e Y ⟨v, rfl, hown, hy⟩
  have y2 : Y.heap[W.heap.size]? = some (.cells #[a.sL, a.sN, a.sK] 25 (0, 0)) := (hy.block _ (heap_lt y1)).trans y1
  obtain ⟨A5, c5, rfl, hr5⟩ := row_of_own hown
  have cf : Y.frozen? ⟨W.heap.size, 0, none⟩ = false := frozen_cells y2
  have cc := cells_get (cs := [_, _, _]) (k := 0) y2 rfl
  have hys := hy.size
  have hBY := hB.trans (hy.mono hB.size)
  clear hcl hWX y1
  gi_wp2
  refine eq_mk ((Keep.of_below hy).setCell _ _) ?_
  have y3 : (Y.setCell ⟨W.heap.size, 0, none⟩ (.slice A5 l.length c5)).heap[W.heap.size]? = some (.cells #[.slice A5 l.length c5, a.sN, a.sK] 25 (0, 0)) := box_set Y W.heap.size 0 [a.sL, a.sN, a.sK] 25 (.slice A5 l.length c5) y2
  have o3 := own_other (b := W.heap.size) (o := 0) (x := .slice A5 l.length c5) hown (by omega)
  have hBZ : Below W.heap.size W (Y.setCell ⟨W.heap.size, 0, none⟩ (.slice A5 l.length c5)) := hBY.setCell (Nat.le_refl _) _
  have hsz3 : (Y.setCell ⟨W.heap.size, 0, none⟩ (.slice A5 l.length c5)).heap.size = Y.heap.size := by simp
  clear hown hr5 y2 cf cc hBY hy
  generalize Y.setCell ⟨W.heap.size, 0, none⟩ (.slice A5 l.length c5) = Z at *
  show Exec _ _ (Code.seq (sub sround [1, 1, 1, 1, 0]) (sub sround [1, 1, 1, 1, 1])) _ _ _
  refine exec_seq ((sit_dec (n1 := X.heap.size) (s := s) (u1 := .pointer (some ⟨b, 0, none⟩)) (u2 := v2) (u3 := .pointer (some ⟨b + 1, 0, none⟩)) (u4 := .slice A4 l.length c4) (u5 := iv p) (u6 := iv kd) (u20 := .slice a.AN a.N.length a.cN) (u21 := iv a.N.length) (u22 := iv p) (u30 := u64 N) (by omega) hl (fun x hx => by have := hlb x hx; omega) o3 y3 (by omega) (by omega) _ (by simp [Slots, Fits])).mono ?_)
  intro e t Z' hh
  obtain ⟨rfl, hBD, hOD, hSl⟩ := only_normal hh
  clear hh
  refine hR _ A5 c5 _ _ ⟨?_, ?_, ?_, hfar, ?_⟩ hSl
  · exact hW.keep (hBZ.trans (hBD.mono (by omega)))
  · exact (hBD.block _ (by omega)).trans y3
  · obtain ⟨A, c, e, hr⟩ := row_of_own hOD
    simp only [Value.slice.injEq] at e
    rw [e.1]
    exact hr
  · intro hne ad e
    subst e
    rcases hOD.2 with ⟨h0, _⟩ | ⟨g, cap, cur, e, hb, _⟩
    · cases h0
    · simp only [Value.slice.injEq, Option.some.injEq] at e
      rw [e.1]
      show W.heap.size < g
      omega
end Go.Proofs.Ytbdmmikflkpmpaa
end

section
namespace Go.Proofs.Ytbdmmikflkpmpaa
open Go.RowKit Go.TL Go.Shelf Go.Pn
attribute [local go_sem] Oper.semAt_some
attribute [local go_sem] run_store_func
theorem restBits : ∀ n, n < 7 → ∀ p, p < n → ∀ i, i < n → (2 ^ n - 2 ^ (p + 1)).testBit i = decide (p < i) := by decide
theorem dec_any {l : List Nat} {s : Nat} (hl : l.length ≤ 6) (hs : s < 2 ^ l.length) : (decI l s l.length).any (fun x => decide (x < 0)) = !canL l s := by
  have key : (decI l s l.length).any (fun x => decide (x < 0)) = true ↔ ¬ canL l s = true := by
    rw [canL_iff, List.any_eq_true]
    constructor
    · rintro ⟨x, hx, hx0⟩ hall
      obtain ⟨i, hi⟩ := List.mem_iff_getElem?.1 hx
      have hil : i < l.length := by
        have := (List.getElem?_eq_some_iff.1 hi).1
        rwa [decI_len] at this
      rw [decI_get hil] at hi
      have hx0 : x < 0 := by simpa using hx0
      have hi := Option.some.inj hi
      rw [decide_eq_true hil, Bool.true_and] at hi
      cases hb : s.testBit i with
      | false => rw [hb] at hi; simp at hi; omega
      | true =>
        have := hall i (by omega) hb
        rw [hb] at hi
        simp only [if_true] at hi
        omega
    · intro hn
      have : ∃ j, j < 6 ∧ s.testBit j = true ∧ ¬ 0 < l.getD j 0 := by
        apply Classical.byContradiction
        intro c
        exact hn fun j hj hb => Classical.byContradiction fun h => c ⟨j, hj, hb, h⟩
      obtain ⟨j, hj, hb, h0⟩ := this
      have hjl := bit_lt hs hb
      refine ⟨_, List.mem_of_getElem? (decI_get hjl), ?_⟩
      rw [decide_eq_true hjl, hb]
      simp only [Bool.and_self, if_true, decide_eq_true_eq]
      omega
  cases h1 : canL l s with
  | true =>
    cases h2 : (decI l s l.length).any (fun x => decide (x < 0)) with
    | false => rfl
    | true => exact absurd h1 (key.1 h2)
  | false => rw [key.2 (by rw [h1]; simp)]; rfl
theorem subL_len (l : List Nat) (s : Nat) : (subL l s).length = l.length := by simp [subL]
theorem dec_sub {l : List Nat} {s : Nat} (hl : l.length ≤ 6) (h : canL l s = true) : decI l s l.length = (subL l s).map fun n : Nat => (n : Int) := by
  refine List.ext_getElem? fun i => ?_
  by_cases hi : i < l.length
  · rw [decI_get hi, List.getElem?_map, List.getElem?_eq_getElem (by rw [subL_len]; exact hi), ← getD_lt (by rw [subL_len]; exact hi), subL_get, decide_eq_true hi, Bool.true_and]
    have := canL_iff.1 h i (by omega)
    cases hb : s.testBit i with
    | false => simp [b1]
    | true =>
      have := this hb
      simp only [if_true, b1, Option.map_some]
      congr 1
      omega
  · rw [List.getElem?_eq_none (by rw [decI_len]; omega), List.getElem?_eq_none (by rw [List.length_map, subL_len]; omega)]
theorem subL_le {l : List Nat} {s q : Nat} (h : ∀ x ∈ l, x ≤ q) : ∀ x ∈ subL l s, x ≤ q := by
  intro x hx
  unfold subL at hx
  obtain ⟨i, hi, rfl⟩ := List.mem_map.1 hx
  have := h _ (mem_getD (List.mem_range.1 hi))
  omega
theorem held_pass {P : Program} {md : Region.Mode} {ops : Array Oper} {Q : Exit → Act → World → Prop} {S : World → Prop} {o : Oper} {fuel : Nat} {listed : Array Bool} {a : Act} {w : World} (i : Nat) (hi : ops[i]? = some o) (hs : Region.noSelect ops = true) (hf : Region.free md ops listed i = true) (hr : (Region.ready md ops listed).contains i = true)
    (hQ : ∀ c a w, Q (.panic c) (a.put o.dst undef) w → Q (.panic c) a w) (hw : Region.wanted o (yielded ops a.tmps) = false) (hS : S w)
    (h : wpAnyH P md ops Q S fuel (listed.setIfInBounds i true) (a.put o.dst undef) w) : wpAnyH P md ops Q S (fuel + 1) listed a w :=
  wpAnyH_take hi hs hf hr hQ (.inr ⟨hw, rfl⟩) hS h
def restB (a : XP) (p : Nat) (l : List Nat) : Bool := (seqs a.L.length ((nf (toP a.s3)).drop (p + 1)).length).any (okL ((nf (toP a.s3)).drop (p + 1)) l)
set_option maxRecDepth 100000 in
set_option maxHeartbeats 1000000 in
theorem sit_rest {w : World} {a : XP} {b : Nat} {acc l : List Nat} {v2 : Value} {A4 : Option Addr} {c4 p kd N s by8 : Nat} {A5 : Option Addr} {c5 : Nat} (hf : a.Fine) (hp : p < a.N.length) (hl : l.length = a.L.length) (hlb : ∀ x ∈ l, x ≤ 6) (hs : s < 2 ^ a.L.length) {W : World} (hY : SiY w a b acc l v2 A4 by8 A5 c5 (decI l s l.length) W) {t : Array Value} (hSl : Slots (none :: some (.pointer (some ⟨b, 0, none⟩)) :: some (v2) :: some (.pointer (some ⟨b + 1, 0, none⟩)) :: some (.slice A4 l.length c4) :: some (iv p) :: some (iv kd) :: some (u64 s) :: some (.pointer (some ⟨by8, 0, none⟩)) :: none :: none :: none :: o4 (o4 (some (.slice a.AN a.N.length a.cN) :: some (iv a.N.length) :: some (iv p) :: none :: none :: none :: o4 (some (u64 N) :: some (u64 s) :: none :: none :: o4 (o64 []))))) t) {Q : Exit → Array Value → World → Prop}
    (hno : (canL l s && restB a p (subL l s)) = false → ∀ t W', SiW w a b acc l v2 A4 W' → Slots (none :: some (.pointer (some ⟨b, 0, none⟩)) :: some (v2) :: some (.pointer (some ⟨b + 1, 0, none⟩)) :: some (.slice A4 l.length c4) :: some (iv p) :: some (iv kd) :: none :: o4 (o4 (o4 (some (.slice a.AN a.N.length a.cN) :: some (iv a.N.length) :: some (iv p) :: none :: none :: none :: o4 (some (u64 N) :: some (u64 s) :: none :: none :: o4 (o64 [])))))) t → Q (.exit 3) t W')
    (hyes : (canL l s && restB a p (subL l s)) = true → ∀ t W', SiY w a b acc l v2 A4 by8 A5 c5 (decI l s l.length) W' → Slots (none :: some (.pointer (some ⟨b, 0, none⟩)) :: some (v2) :: some (.pointer (some ⟨b + 1, 0, none⟩)) :: some (.slice A4 l.length c4) :: some (iv p) :: some (iv kd) :: some (u64 s) :: some (.pointer (some ⟨by8, 0, none⟩)) :: none :: none :: none :: o4 (o4 (some (.slice a.AN a.N.length a.cN) :: some (iv a.N.length) :: some (iv p) :: none :: none :: none :: o4 (some (u64 N) :: some (u64 s) :: none :: none :: o4 (o64 []))))) t → Exec Try.prog none (sub sround [1, 1, 1, 1, 1, 1, 1]) t W' Q) :
    Exec Try.prog none (sub sround [1, 1, 1, 1, 1]) t W Q := by
  have hu25 := Try.underlying25
  have hu22 := Try.underlying22
  have hu136 := Try.underlying136
  have hu83 := Try.underlying83
  have h6 := hf.j
  have hn6 := hf.p
  obtain ⟨x, hx⟩ := Slots.open_ hSl; simp only [fill, Nat.reduceAdd] at hx; subst hx; clear hSl
  have hDl := decI_len l s l.length
  have hda := dec_any (l := l) (s := s) (by omega) (by rw [hl]; exact hs)
  have hds := @dec_sub l s (by omega)
  generalize decI l s l.length = D at *
  have hsh1 := shl_u a.N.length (by omega)
  have hsh2 := shl_u (p + 1) (by omega)
  have hpl : 2 ^ (p + 1) ≤ 2 ^ a.N.length := Nat.pow_le_pow_right (by omega) (by omega)
  have hpn : 2 ^ a.N.length ≤ 2 ^ 6 := Nat.pow_le_pow_right (by omega) (by omega)
  obtain ⟨rest, hrest⟩ : ∃ r, 2 ^ a.N.length - 2 ^ (p + 1) = r := ⟨_, rfl⟩
  have hr64 : rest < 2 ^ 64 := Nat.lt_of_le_of_lt (by rw [← hrest]; exact Nat.sub_le _ _) (Nat.lt_of_le_of_lt hpn (by decide))
  have hbits : ∀ i, i < a.N.length → rest.testBit i = decide (p < i) := by
    rw [← hrest]
    exact restBits a.N.length (by omega) p hp
  have hw1 : IntKind.i64.wrap ((p : Int) + 1) = ((p + 1 : Nat) : Int) := by rw [IntWalk.i64_in _ (by omega)]; norm_cast
  have hw2 : IntKind.u64.wrap ((2 : Int) ^ a.N.length - (2 : Int) ^ (p + 1)) = ((rest : Nat) : Int) := by
    rw [pow_cast, pow_cast, show ((2 ^ a.N.length : Nat) : Int) - ((2 ^ (p + 1) : Nat) : Int) = ((rest : Nat) : Int) by rw [← hrest, Int.ofNat_sub hpl]]
    exact wrapu _ (Int.natCast_nonneg _) (by exact_mod_cast hr64)
  show Exec _ _ (Code.seq _ _) _ _ _
  have cN0 : ∀ X, Below W.heap.size W X → X.cell? ⟨b, 1, none⟩ = some (.slice a.AN a.N.length a.cN) := fun X hX => cells_get (cs := [_, _, _]) ((hY.keep hX).si.sp.p.heap) rfl
  refine exec_seq (region_of_tail 8 (by kernel_rfl) (by kernel_rfl) (by kernel_rfl) (fun X => Below W.heap.size W X) (fun _ _ _ => False) (fun _ _ _ h => h.elim) fun ds => ?_)
  have hS : Below W.heap.size W W.drew := (Below.refl _ W).drew
  refine held_take 0 (.pointer (some ⟨b, 1, none⟩)) rfl (by kernel_rfl) (by kernel_rfl) (by kernel_rfl) (by intro _ _ _ h; first | exact h | (simpa [behind, Act.put] using h)) rfl (by first | exact hS | assumption) (fun wq hq => ?_) ?_; (focus (simp [go_sem, hu25]; done)); simp only [Act.put, Array.getInternal_eq_getElem, List.take_succ_cons, List.take_zero, List.take_nil, List.getElem_toArray, List.getElem_cons_succ, List.getElem_cons_zero, List.setIfInBounds_toArray, List.set_cons_succ, List.set_cons_zero]
  refine held_take 1 (.slice a.AN a.N.length a.cN) rfl (by kernel_rfl) (by kernel_rfl) (by kernel_rfl) (by intro _ _ _ h; first | exact h | (simpa [behind, Act.put] using h)) rfl (by first | exact hS | assumption) (fun wq hq => ?_) ?_; (focus (simp [go_sem, cN0 wq hq]; done)); simp only [Act.put, Array.getInternal_eq_getElem, List.take_succ_cons, List.take_zero, List.take_nil, List.getElem_toArray, List.getElem_cons_succ, List.getElem_cons_zero, List.setIfInBounds_toArray, List.set_cons_succ, List.set_cons_zero]
  refine held_take 2 (iv a.N.length) rfl (by kernel_rfl) (by kernel_rfl) (by kernel_rfl) (by intro _ _ _ h; first | exact h | (simpa [behind, Act.put] using h)) rfl (by first | exact hS | assumption) (fun wq hq => ?_) ?_; (focus (simp [go_sem]; done)); simp only [Act.put, Array.getInternal_eq_getElem, List.take_succ_cons, List.take_zero, List.take_nil, List.getElem_toArray, List.getElem_cons_succ, List.getElem_cons_zero, List.setIfInBounds_toArray, List.set_cons_succ, List.set_cons_zero]
  refine held_take 3 (u64 (2 ^ a.N.length)) rfl (by kernel_rfl) (by kernel_rfl) (by kernel_rfl) (by intro _ _ _ h; first | exact h | (simpa [behind, Act.put] using h)) rfl (by first | exact hS | assumption) (fun wq hq => ?_) ?_; (focus (simp [go_sem, hsh1]; done)); simp only [Act.put, Array.getInternal_eq_getElem, List.take_succ_cons, List.take_zero, List.take_nil, List.getElem_toArray, List.getElem_cons_succ, List.getElem_cons_zero, List.setIfInBounds_toArray, List.set_cons_succ, List.set_cons_zero]
  refine held_take 4 (iv p) rfl (by kernel_rfl) (by kernel_rfl) (by kernel_rfl) (by intro _ _ _ h; first | exact h | (simpa [behind, Act.put] using h)) rfl (by first | exact hS | assumption) (fun wq hq => ?_) ?_; (focus (first | rfl | (simp [go_sem]; done))); simp only [Act.put, Array.getInternal_eq_getElem, List.take_succ_cons, List.take_zero, List.take_nil, List.getElem_toArray, List.getElem_cons_succ, List.getElem_cons_zero, List.setIfInBounds_toArray, List.set_cons_succ, List.set_cons_zero]
  refine held_take 5 (iv (p + 1)) rfl (by kernel_rfl) (by kernel_rfl) (by kernel_rfl) (by intro _ _ _ h; first | exact h | (simpa [behind, Act.put] using h)) rfl (by first | exact hS | assumption) (fun wq hq => ?_) ?_; (focus (simp [go_sem, hw1]; done)); simp only [Act.put, Array.getInternal_eq_getElem, List.take_succ_cons, List.take_zero, List.take_nil, List.getElem_toArray, List.getElem_cons_succ, List.getElem_cons_zero, List.setIfInBounds_toArray, List.set_cons_succ, List.set_cons_zero]
  refine held_take 6 (u64 (2 ^ (p + 1))) rfl (by kernel_rfl) (by kernel_rfl) (by kernel_rfl) (by intro _ _ _ h; first | exact h | (simpa [behind, Act.put] using h)) rfl (by first | exact hS | assumption) (fun wq hq => ?_) ?_; (focus (simp [go_sem, hsh2]; done)); simp only [Act.put, Array.getInternal_eq_getElem, List.take_succ_cons, List.take_zero, List.take_nil, List.getElem_toArray, List.getElem_cons_succ, List.getElem_cons_zero, List.setIfInBounds_toArray, List.set_cons_succ, List.set_cons_zero]
  refine held_take 7 (u64 rest) rfl (by kernel_rfl) (by kernel_rfl) (by kernel_rfl) (by intro _ _ _ h; first | exact h | (simpa [behind, Act.put] using h)) rfl (by first | exact hS | assumption) (fun wq hq => ?_) ?_; (focus (simp [go_sem, hw2]; done)); simp only [Act.put, Array.getInternal_eq_getElem, List.take_succ_cons, List.take_zero, List.take_nil, List.getElem_toArray, List.getElem_cons_succ, List.getElem_cons_zero, List.setIfInBounds_toArray, List.set_cons_succ, List.set_cons_zero]
  refine held_done (by kernel_rfl) ?_
  refine behind_normal 1 (by kernel_rfl) ?_
  refine any_val 8 (u64 rest) rfl (by kernel_rfl) rfl (by first | (simp [go_sem]; done) | rfl) ?_; simp only [Act.put, Array.getInternal_eq_getElem, List.take_succ_cons, List.take_zero, List.take_nil, List.getElem_toArray, List.getElem_cons_succ, List.getElem_cons_zero, List.setIfInBounds_toArray, List.set_cons_succ, List.set_cons_zero]
  simp only [Act.put, Array.getInternal_eq_getElem, List.take_succ_cons, List.take_zero, List.take_nil, List.drop_succ_cons, List.drop_zero, List.append_toArray, List.cons_append, List.nil_append, List.getElem_toArray, List.getElem_cons_succ, List.getElem_cons_zero, List.setIfInBounds_toArray, List.set_cons_succ, List.set_cons_zero]
  refine any_done (by kernel_rfl) ⟨rfl, Keep.of_below hS, ?_⟩
  have hYd := hY.keep hS
  clear cN0 hsh1 hsh2 hpl hpn hw1 hw2 hrest hY hS
  generalize W.drew = X at *
  show Exec _ _ (Code.seq (Code.seq _ _) _) _ _ _
  have c5' : ∀ Y, Below X.heap.size X Y → Y.cell? ⟨by8, 0, none⟩ = some (.slice A5 l.length c5) ∧ Y.cell? ⟨by8, 1, none⟩ = some a.sN ∧ Y.cell? ⟨by8, 2, none⟩ = some a.sK := fun Y hX => ⟨cells_get (cs := [_, _, _]) (hYd.keep hX).box rfl, cells_get (cs := [_, _, _]) (hYd.keep hX).box rfl, cells_get (cs := [_, _, _]) (hYd.keep hX).box rfl⟩
  refine exec_seq (exec_seq (region_of_tail 12 (by kernel_rfl) (by kernel_rfl) (by kernel_rfl) (fun Y => Below X.heap.size X Y) (fun _ _ _ => False) (fun _ _ _ h => h.elim) fun ds => ?_))
  have hS : Below X.heap.size X X.drew := (Below.refl _ X).drew
  refine held_take 0 (.pointer (some ⟨by8, 0, none⟩)) rfl (by kernel_rfl) (by kernel_rfl) (by kernel_rfl) (by intro _ _ _ h; first | exact h | (simpa [behind, Act.put] using h)) rfl (by first | exact hS | assumption) (fun wq hq => ?_) ?_; (focus (simp [go_sem, hu25]; done)); simp only [Act.put, Array.getInternal_eq_getElem, List.take_succ_cons, List.take_zero, List.take_nil, List.getElem_toArray, List.getElem_cons_succ, List.getElem_cons_zero, List.setIfInBounds_toArray, List.set_cons_succ, List.set_cons_zero]
  refine held_take 1 (.slice A5 l.length c5) rfl (by kernel_rfl) (by kernel_rfl) (by kernel_rfl) (by intro _ _ _ h; first | exact h | (simpa [behind, Act.put] using h)) rfl (by first | exact hS | assumption) (fun wq hq => ?_) ?_; (focus (simp [go_sem, (c5' wq hq).1]; done)); simp only [Act.put, Array.getInternal_eq_getElem, List.take_succ_cons, List.take_zero, List.take_nil, List.getElem_toArray, List.getElem_cons_succ, List.getElem_cons_zero, List.setIfInBounds_toArray, List.set_cons_succ, List.set_cons_zero]
  have eg59 : ∀ args w, (callFunc 59 args).run Try.prog w = .ok (.enter 59 args) w := enters_of Try.func59 (by kernel_rfl) rfl
  have hsome := some58 (lb := #[]) eg59 (fun y => decide (y < 0)) A5 c5 D (by omega) X.drew (hYd.keep hS).row (fun x _ W _ => neg59 x W)
  rw [hDl, hda] at hsome
  refine held_call 2 (f := 58) (args := #[.slice A5 l.length c5, .func (.func 59) #[] #[]]) rfl (by kernel_rfl) rfl (by simp [go_sem]) ?_
  refine hsome.mono ?_
  rintro e X1 ⟨rfl, hx1⟩
  have k1 : Below X.heap.size X X1 := hS.trans hx1
  refine .inl ⟨_, rfl, k1, ?_⟩
  simp only [Act.put, Array.getInternal_eq_getElem, List.take_succ_cons, List.take_zero, List.take_nil, List.getElem_toArray, List.getElem_cons_succ, List.getElem_cons_zero, List.setIfInBounds_toArray, List.set_cons_succ, List.set_cons_zero]
  clear hsome
  cases hc : canL l s with
  | false =>
    rw [hc] at hno
    clear hyes hds hda hc
    refine held_take 3 (.bool true) rfl (by kernel_rfl) (by kernel_rfl) (by kernel_rfl) (by intro _ _ _ h; first | exact h | (simpa [behind, Act.put] using h)) rfl (by first | exact hS | assumption) (fun wq hq => ?_) ?_; (focus (simp [go_sem]; done)); simp only [Act.put, Array.getInternal_eq_getElem, List.take_succ_cons, List.take_zero, List.take_nil, List.getElem_toArray, List.getElem_cons_succ, List.getElem_cons_zero, List.setIfInBounds_toArray, List.set_cons_succ, List.set_cons_zero]
    refine held_pass 4 rfl (by kernel_rfl) (by kernel_rfl) (by kernel_rfl) (by intro _ _ _ h; exact h) (by kernel_rfl) (by first | exact hS | assumption) ?_; simp only [Act.put, Array.getInternal_eq_getElem, List.take_succ_cons, List.take_zero, List.take_nil, List.getElem_toArray, List.getElem_cons_succ, List.getElem_cons_zero, List.setIfInBounds_toArray, List.set_cons_succ, List.set_cons_zero]
    refine held_pass 5 rfl (by kernel_rfl) (by kernel_rfl) (by kernel_rfl) (by intro _ _ _ h; exact h) (by kernel_rfl) (by first | exact hS | assumption) ?_; simp only [Act.put, Array.getInternal_eq_getElem, List.take_succ_cons, List.take_zero, List.take_nil, List.getElem_toArray, List.getElem_cons_succ, List.getElem_cons_zero, List.setIfInBounds_toArray, List.set_cons_succ, List.set_cons_zero]
    refine held_pass 6 rfl (by kernel_rfl) (by kernel_rfl) (by kernel_rfl) (by intro _ _ _ h; exact h) (by kernel_rfl) (by first | exact hS | assumption) ?_; simp only [Act.put, Array.getInternal_eq_getElem, List.take_succ_cons, List.take_zero, List.take_nil, List.getElem_toArray, List.getElem_cons_succ, List.getElem_cons_zero, List.setIfInBounds_toArray, List.set_cons_succ, List.set_cons_zero]
    refine held_pass 7 rfl (by kernel_rfl) (by kernel_rfl) (by kernel_rfl) (by intro _ _ _ h; exact h) (by kernel_rfl) (by first | exact hS | assumption) ?_; simp only [Act.put, Array.getInternal_eq_getElem, List.take_succ_cons, List.take_zero, List.take_nil, List.getElem_toArray, List.getElem_cons_succ, List.getElem_cons_zero, List.setIfInBounds_toArray, List.set_cons_succ, List.set_cons_zero]
    refine held_pass 8 rfl (by kernel_rfl) (by kernel_rfl) (by kernel_rfl) (by intro _ _ _ h; exact h) (by kernel_rfl) (by first | exact hS | assumption) ?_; simp only [Act.put, Array.getInternal_eq_getElem, List.take_succ_cons, List.take_zero, List.take_nil, List.getElem_toArray, List.getElem_cons_succ, List.getElem_cons_zero, List.setIfInBounds_toArray, List.set_cons_succ, List.set_cons_zero]
    refine held_pass 9 rfl (by kernel_rfl) (by kernel_rfl) (by kernel_rfl) (by intro _ _ _ h; exact h) (by kernel_rfl) (by first | exact hS | assumption) ?_; simp only [Act.put, Array.getInternal_eq_getElem, List.take_succ_cons, List.take_zero, List.take_nil, List.getElem_toArray, List.getElem_cons_succ, List.getElem_cons_zero, List.setIfInBounds_toArray, List.set_cons_succ, List.set_cons_zero]
    refine held_pass 10 rfl (by kernel_rfl) (by kernel_rfl) (by kernel_rfl) (by intro _ _ _ h; exact h) (by kernel_rfl) (by first | exact hS | assumption) ?_; simp only [Act.put, Array.getInternal_eq_getElem, List.take_succ_cons, List.take_zero, List.take_nil, List.getElem_toArray, List.getElem_cons_succ, List.getElem_cons_zero, List.setIfInBounds_toArray, List.set_cons_succ, List.set_cons_zero]
    refine held_take 11 (.bool true) rfl (by kernel_rfl) (by kernel_rfl) (by kernel_rfl) (by intro _ _ _ h; first | exact h | (simpa [behind, Act.put] using h)) rfl (by first | exact hS | assumption) (fun wq hq => ?_) ?_; (focus (simp [go_sem]; done)); simp only [Act.put, Array.getInternal_eq_getElem, List.take_succ_cons, List.take_zero, List.take_nil, List.getElem_toArray, List.getElem_cons_succ, List.getElem_cons_zero, List.setIfInBounds_toArray, List.set_cons_succ, List.set_cons_zero]
    refine held_done (by kernel_rfl) ?_
    refine any_done (by kernel_rfl) ⟨rfl, Keep.of_below k1, ?_⟩
    show Exec _ _ (Code.cond _ _ _) _ _ _
    refine exec_cond (b := true) rfl (fun _ => exec_exit ?_) (fun h => by cases h)
    exact hno rfl _ _ (hYd.keep k1).si (by simp [Slots, Fits])
  | true =>
    rw [hc] at hno hyes
    have hds := hds hc
    clear hda hc
    subst hds
    have hls : (subL l s).length = l.length := subL_len l s
    have hsle := subL_le (s := s) hlb
    generalize subL l s = l2 at *
    obtain ⟨z, hz⟩ : ∃ z, restB a p l2 = z := ⟨_, rfl⟩
    rw [hz] at hno hyes
    -- the panels that are opened
    obtain ⟨y, hy⟩ : ∃ y : XP, { a with AL := A5, cL := c5, L := l2.map fun n : Nat => (n : Int) } = y := ⟨_, rfl⟩
    have hyL : y.L.length = l.length := by rw [← hy]; simp [hls]
    have hyv : y.val = .agg #[.slice A5 l.length c5, a.sN, a.sK] := by
      rw [← hy]
      simp [XP.val, XP.sL, XP.sN, XP.sK, hls]
    have hys3 : y.s3 = (l2, a.s3.2.1, a.s3.2.2) := by
      rw [← hy]
      simp only [XP.s3, List.map_map]
      congr 1
      conv => rhs; rw [← List.map_id l2]
      exact List.map_congr_left fun n _ => Int.toNat_natCast n
    have hyf : y.Fine := by
      rw [← hy]
      refine ⟨by simp only [List.length_map]; omega, hf.p, hf.k, ?_, hf.nb, ?_⟩
      · intro q hq
        obtain ⟨n, hn, rfl⟩ := List.mem_map.1 hq
        have := hsle n hn
        omega
      · intro q hq
        have := hf.kb q hq
        simp only [List.length_map]
        omega
    have hya : ∀ Z, Below X.heap.size X Z → y.At Z := fun Z hZ => by
      have h1 := (hYd.keep hZ).row
      have h2 := (hYd.keep hZ).si.sp.p.at_
      rw [← hy]
      refine ⟨?_, h2.n, h2.k, by simp only [List.length_map]; omega, h2.n4, h2.k4⟩
      exact h1
    have hcz : canV (toP (y.s3.only rest)) = z := by
      rw [← hz, hys3]
      have hg := XP.good hyf
      rw [hys3] at hg
      have hlen : a.s3.1.length = a.L.length := by simp [XP.s3]
      have := rest_can (L := a.s3.1) hg (by rw [hls, hl, hlen]) (p := p) (rest := rest) (by simpa [XP.s3] using hp) (by simpa [XP.s3] using hbits)
      rw [this]
      unfold restB
      rw [hlen]
    have HZ := Lib.hid hcz
    have Hgood := (XP.good hyf).only rest
    clear hcz hz hys3 hy hbits
    refine held_take 3 (.bool false) rfl (by kernel_rfl) (by kernel_rfl) (by kernel_rfl) (by intro _ _ _ h; first | exact h | (simpa [behind, Act.put] using h)) rfl (by first | exact hS | assumption) (fun wq hq => ?_) ?_; (focus (simp [go_sem]; done)); simp only [Act.put, Array.getInternal_eq_getElem, List.take_succ_cons, List.take_zero, List.take_nil, List.getElem_toArray, List.getElem_cons_succ, List.getElem_cons_zero, List.setIfInBounds_toArray, List.set_cons_succ, List.set_cons_zero]
    refine held_take 4 (.agg #[.slice A5 l.length c5, a.sN, a.sK]) rfl (by kernel_rfl) (by kernel_rfl) (by kernel_rfl) (by intro _ _ _ h; exact h) (by kernel_rfl) (by first | exact hS | assumption) (fun wq hq => ?_) ?_; (focus (simp [go_sem, hu25, (c5' wq hq).1, (c5' wq hq).2.1, (c5' wq hq).2.2]; done)); simp only [Act.put, Array.getInternal_eq_getElem, List.take_succ_cons, List.take_zero, List.take_nil, List.getElem_toArray, List.getElem_cons_succ, List.getElem_cons_zero, List.setIfInBounds_toArray, List.set_cons_succ, List.set_cons_zero]
    refine held_take 5 (u64 rest) rfl (by kernel_rfl) (by kernel_rfl) (by kernel_rfl) (by intro _ _ _ h; exact h) (by kernel_rfl) (by first | exact hS | assumption) (fun wq hq => ?_) ?_; (focus (simp [go_sem]; done)); simp only [Act.put, Array.getInternal_eq_getElem, List.take_succ_cons, List.take_zero, List.take_nil, List.getElem_toArray, List.getElem_cons_succ, List.getElem_cons_zero, List.setIfInBounds_toArray, List.set_cons_succ, List.set_cons_zero]
    refine held_call 6 (f := 60) (args := #[u64 rest]) rfl (by kernel_rfl) (by kernel_rfl) (by simp [go_sem]) ?_
    refine (only60 rest X1).mono ?_
    rintro e X2 ⟨b1, rfl, hb1, hbx, hx2⟩
    have k2 : Below X.heap.size X X2 := k1.trans (hx2.mono k1.size)
    refine .inl ⟨_, rfl, k2, ?_⟩
    simp only [Act.put, Array.getInternal_eq_getElem, List.take_succ_cons, List.take_zero, List.take_nil, List.getElem_toArray, List.getElem_cons_succ, List.getElem_cons_zero, List.setIfInBounds_toArray, List.set_cons_succ, List.set_cons_zero]
    have h2 := (Below.refl X2.heap.size X2).alloc (Nat.le_refl _) (.cells #[.func (.func 108) #[] #[.pointer (some ⟨b1, 0, none⟩)]] 83)
    have bA := Boxed.new X2 83 (.func (.func 108) #[] #[.pointer (some ⟨b1, 0, none⟩)])
    have k3 : Below X.heap.size X (X2.alloc (.cells #[.func (.func 108) #[] #[.pointer (some ⟨b1, 0, none⟩)]] 83)) := k2.trans (h2.mono k2.size)
    have bB : Boxed (X2.alloc (.cells #[.func (.func 108) #[] #[.pointer (some ⟨b1, 0, none⟩)]] 83)) b1 79 (u64 rest) := (h2.block _ hbx.lt).trans hbx
    refine held_mk 7 (.slice (some ⟨X2.heap.size, 0, none⟩) 1 1) (X2.alloc (.cells #[.func (.func 108) #[] #[.pointer (some ⟨b1, 0, none⟩)]] 83)) rfl (by kernel_rfl) (by kernel_rfl) (by simp [go_sem, hu136, hu83]) k3 ?_
    simp only [Act.put, Array.getInternal_eq_getElem, List.take_succ_cons, List.take_zero, List.take_nil, List.getElem_toArray, List.getElem_cons_succ, List.getElem_cons_zero, List.setIfInBounds_toArray, List.set_cons_succ, List.set_cons_zero]
    generalize X2.alloc (.cells #[.func (.func 108) #[] #[.pointer (some ⟨b1, 0, none⟩)]] 83) = X3 at *
    generalize X2.heap.size = bA' at *
    refine held_call 8 (f := 56) (args := #[.agg #[.slice A5 l.length c5, a.sN, a.sK], .slice (some ⟨bA', 0, none⟩) 1 1]) rfl (by kernel_rfl) (by kernel_rfl) (by simp [go_sem]) ?_
    have hop := open_one y hyf X3 (hya X3 k3) (only_chg hr64 bB) trivial Hgood ⟨bA', 0, none⟩ bA.cell
    rw [hyv] at hop
    refine hop.mono ?_
    rintro e X4 ⟨pp, m, rfl, hpp, hx4, hP⟩
    have k4 := k3.trans (hx4.mono k3.size)
    refine .inl ⟨_, rfl, k4, ?_⟩
    simp only [Act.put, Array.getInternal_eq_getElem, List.take_succ_cons, List.take_zero, List.take_nil, List.getElem_toArray, List.getElem_cons_succ, List.getElem_cons_zero, List.setIfInBounds_toArray, List.set_cons_succ, List.set_cons_zero]
    clear hop
    have hcan := can61 hP
    rw [show toP (y.s3.1, onlyN rest y.s3.2.1, y.s3.2.2) = toP (y.s3.only rest) from rfl, HZ.out] at hcan
    refine held_call 9 (f := 61) (args := #[.pointer (some ⟨pp, 0, none⟩)]) rfl (by kernel_rfl) (by kernel_rfl) (by simp [go_sem]) ?_
    refine hcan.mono ?_
    rintro e X5 ⟨rfl, hx5⟩
    have k5 := k4.trans (hx5.mono k4.size)
    refine .inl ⟨_, rfl, k5, ?_⟩
    simp only [Act.put, Array.getInternal_eq_getElem, List.take_succ_cons, List.take_zero, List.take_nil, List.getElem_toArray, List.getElem_cons_succ, List.getElem_cons_zero, List.setIfInBounds_toArray, List.set_cons_succ, List.set_cons_zero]
    refine held_take 10 (.bool (!z)) rfl (by kernel_rfl) (by kernel_rfl) (by kernel_rfl) (by intro _ _ _ h; exact h) (by kernel_rfl) (by first | exact hS | assumption) (fun wq hq => ?_) ?_; (focus (simp [go_sem]; done)); simp only [Act.put, Array.getInternal_eq_getElem, List.take_succ_cons, List.take_zero, List.take_nil, List.getElem_toArray, List.getElem_cons_succ, List.getElem_cons_zero, List.setIfInBounds_toArray, List.set_cons_succ, List.set_cons_zero]
    refine held_take 11 (.bool (!z)) rfl (by kernel_rfl) (by kernel_rfl) (by kernel_rfl) (by intro _ _ _ h; first | exact h | (simpa [behind, Act.put] using h)) rfl (by first | exact hS | assumption) (fun wq hq => ?_) ?_; (focus (simp [go_sem]; done)); simp only [Act.put, Array.getInternal_eq_getElem, List.take_succ_cons, List.take_zero, List.take_nil, List.getElem_toArray, List.getElem_cons_succ, List.getElem_cons_zero, List.setIfInBounds_toArray, List.set_cons_succ, List.set_cons_zero]
    refine held_done (by kernel_rfl) ?_
    refine any_done (by kernel_rfl) ⟨rfl, Keep.of_below k5, ?_⟩
    show Exec _ _ (Code.cond _ _ _) _ _ _
    have hY5 := hYd.keep k5
    cases z with
    | false =>
      refine exec_cond (b := true) rfl (fun _ => exec_exit ?_) (fun h => by cases h)
      exact hno rfl _ _ hY5.si (by simp [Slots, Fits])
    | true =>
      refine exec_cond (b := false) rfl (fun h => by cases h) (fun _ => exec_skip ?_)
      exact hyes rfl _ _ hY5 (by simp [Slots, Fits])
end Go.Proofs.Ytbdmmikflkpmpaa
end

section
namespace Go.Proofs.Ytbdmmikflkpmpaa
open Go.RowKit Go.TL Go.Shelf Go.Pn
attribute [local go_sem] Oper.semAt_some
attribute [local go_sem] run_store_func
theorem RowV.grown {W W' : World} {A : Option Addr} {vs : List Value} {g : Option Nat} (h : RowV W A vs) (hne : vs ≠ [] → ∀ ad, A = some ad → some ad.block ≠ g) (hg : W.grownBy W' g) : RowV W' A vs := by
  intro i v hv
  obtain ⟨ad, e, hc⟩ := h i v hv
  have hn : vs ≠ [] := fun c => by rw [c] at hv; simp at hv
  refine ⟨ad, e, ?_⟩
  have hlt := World.block_lt_of_cell? W _ hc
  have hbl : (ad.add i).block = ad.block := by unfold Addr.add; split <;> rfl
  unfold World.cell? at hc ⊢
  rw [hg.block _ hlt (by rw [hbl]; exact hne hn ad e)]
  exact hc
def SiT (w : World) (a : XP) (b : Nat) (acc l : List Nat) (p : Nat) (t : Array Value) (W : World) : Prop :=
  ∃ v2 A4 c4, SiW w a b acc l v2 A4 W ∧ Slots (none :: some (.pointer (some ⟨b, 0, none⟩)) :: some (v2) :: some (.pointer (some ⟨b + 1, 0, none⟩)) :: some (.slice A4 l.length c4) :: none :: none :: none :: o4 (o4 (o4 (some (.slice a.AN a.N.length a.cN) :: some (iv a.N.length) :: some (iv p) :: none :: none :: none :: o4 (o4 (o4 (o64 []))))))) t
set_option maxRecDepth 100000 in
set_option maxHeartbeats 1000000 in
theorem sit_take {w : World} {a : XP} {b : Nat} {acc l : List Nat} {v2 : Value} {A4 : Option Addr} {c4 p kd N s by8 : Nat} {A5 : Option Addr} {c5 : Nat} (h0 : a.At w) (hb : w.heap.size = b) (hacc : acc.length ≤ 10) (hl : l.length = a.L.length) (hs : s < 64) (hc : canL l s = true) (hl6 : l.length ≤ 6) {W : World} (hY : SiY w a b acc l v2 A4 by8 A5 c5 (decI l s l.length) W) {t : Array Value} (hSl : Slots (none :: some (.pointer (some ⟨b, 0, none⟩)) :: some (v2) :: some (.pointer (some ⟨b + 1, 0, none⟩)) :: some (.slice A4 l.length c4) :: some (iv p) :: some (iv kd) :: some (u64 s) :: some (.pointer (some ⟨by8, 0, none⟩)) :: none :: none :: none :: o4 (o4 (some (.slice a.AN a.N.length a.cN) :: some (iv a.N.length) :: some (iv p) :: none :: none :: none :: o4 (some (u64 N) :: some (u64 s) :: none :: none :: o4 (o64 []))))) t) :
    Exec Try.prog none (sub sround [1, 1, 1, 1, 1, 1, 1]) t W (fun e t W => e = .exit 2 ∧ SiT w a b (acc ++ [s]) (subL l s) p t W) := by
  have hu25 := Try.underlying25
  have hu22 := Try.underlying22
  rw [dec_sub hl6 hc] at hY
  have hls := subL_len l s
  generalize subL l s = l2 at *
  clear hc
  obtain ⟨x, hx⟩ := Slots.open_ hSl; simp only [fill, Nat.reduceAdd] at hx; subst hx; clear hSl
  have hcv : IntKind.i64.wrap (s : Int) = (s : Int) := IntWalk.i64_in _ (by omega)
  have hS0 : ∀ {X : World}, Below W.heap.size W X → X.cell? ⟨by8, 0, none⟩ = some (.slice A5 l.length c5) := fun hX => cells_get (cs := [_, _, _]) (hY.keep hX).box rfl
  show Exec _ _ (Code.seq _ _) _ _ _
  refine exec_seq (region_of_tail 9 (by kernel_rfl) (by kernel_rfl) (by kernel_rfl) (fun X => X.cell? ⟨by8, 0, none⟩ = some (.slice A5 l.length c5)) (fun _ _ _ => False) (fun _ _ _ h => h.elim) fun ds => ?_)
  have hd : Below W.heap.size W W.drew := (Below.refl _ W).drew
  have hS := hS0 hd
  refine held_take 0 (v2) rfl (by kernel_rfl) (by kernel_rfl) (by kernel_rfl) (by intro _ _ _ h; first | exact h | (simpa [behind, Act.put] using h)) rfl (by first | exact hS | assumption) (fun wq hq => ?_) ?_; (focus (first | rfl | (simp [go_sem]; done))); simp only [Act.put, Array.getInternal_eq_getElem, List.take_succ_cons, List.take_zero, List.take_nil, List.getElem_toArray, List.getElem_cons_succ, List.getElem_cons_zero, List.setIfInBounds_toArray, List.set_cons_succ, List.set_cons_zero]
  refine held_take 1 (u64 s) rfl (by kernel_rfl) (by kernel_rfl) (by kernel_rfl) (by intro _ _ _ h; first | exact h | (simpa [behind, Act.put] using h)) rfl (by first | exact hS | assumption) (fun wq hq => ?_) ?_; (focus (first | rfl | (simp [go_sem]; done))); simp only [Act.put, Array.getInternal_eq_getElem, List.take_succ_cons, List.take_zero, List.take_nil, List.getElem_toArray, List.getElem_cons_succ, List.getElem_cons_zero, List.setIfInBounds_toArray, List.set_cons_succ, List.set_cons_zero]
  refine held_take 2 (iv s) rfl (by kernel_rfl) (by kernel_rfl) (by kernel_rfl) (by intro _ _ _ h; first | exact h | (simpa [behind, Act.put] using h)) rfl (by first | exact hS | assumption) (fun wq hq => ?_) ?_; (focus (simp [go_sem, hcv]; done)); simp only [Act.put, Array.getInternal_eq_getElem, List.take_succ_cons, List.take_zero, List.take_nil, List.getElem_toArray, List.getElem_cons_succ, List.getElem_cons_zero, List.setIfInBounds_toArray, List.set_cons_succ, List.set_cons_zero]
  refine held_take 5 (.pointer (some ⟨by8, 0, none⟩)) rfl (by kernel_rfl) (by kernel_rfl) (by kernel_rfl) (by intro _ _ _ h; first | exact h | (simpa [behind, Act.put] using h)) rfl (by first | exact hS | assumption) (fun wq hq => ?_) ?_; (focus (simp [go_sem, hu25]; done)); simp only [Act.put, Array.getInternal_eq_getElem, List.take_succ_cons, List.take_zero, List.take_nil, List.getElem_toArray, List.getElem_cons_succ, List.getElem_cons_zero, List.setIfInBounds_toArray, List.set_cons_succ, List.set_cons_zero]
  refine held_take 6 (.slice A5 l.length c5) rfl (by kernel_rfl) (by kernel_rfl) (by kernel_rfl) (by intro _ _ _ h; first | exact h | (simpa [behind, Act.put] using h)) rfl (by first | exact hS | assumption) (fun wq hq => ?_) ?_; (focus (simp [go_sem, hq]; done)); simp only [Act.put, Array.getInternal_eq_getElem, List.take_succ_cons, List.take_zero, List.take_nil, List.getElem_toArray, List.getElem_cons_succ, List.getElem_cons_zero, List.setIfInBounds_toArray, List.set_cons_succ, List.set_cons_zero]
  have hYd := hY.keep hd
  clear hY hS0 hS
  have hKd := Keep.of_below hd
  clear hd
  generalize W.drew = X at *
  obtain ⟨i0, hi0, hz0, hz1, hz2⟩ := info3q
  have hfar := hYd.far
  have hbx := hYd.box
  have hbs := hYd.si.sp.p.heap
  have hes := hYd.si.sp.e
  have hbel := hYd.si.sp.below
  have ho := hYd.si.own.alloc (.cells #[iv s] 3)
  have hbl := heap_lt hbs
  have hel := hes.lt
  have hxl := heap_lt hbx
  obtain ⟨v', W', hrun, hown, hg, _, hat⟩ := run_append_own_at (P := Try.prog) (w := X.alloc (.cells #[iv s] 3)) (b + 2) 22 22 3 i0 (.int .i64 0) 1 8 Try.underlying22 hi0 hz0 hz1 hz2 rfl (by decide) v2 acc.length (acc.map iv) ho ⟨X.heap.size, 0, none⟩ 1 1 [iv s] rfl (by
    intro j y hj
    match j, hj with
    | 0, hj =>
      cases hj
      exact cells_get (cs := [iv s]) (k := 0) (World.alloc_heap_new _ _) rfl) (by
    intro y hy
    simp at hy
    subst hy
    rfl) (by unfold maxLen; omega) (by omega) (by rw [World.size_alloc]; omega)
  have hlt2 : ∀ q, v2.ownBlock = some q → b + 2 ≤ q := fun q e => (ho.lt q e).1
  have hSa : (X.alloc (.cells #[iv s] 3)).cell? ⟨by8, 0, none⟩ = some (.slice A5 l.length c5) := cells_get (cs := [_, _, _]) (heap_next hbx _) rfl
  have hbx' : W'.heap[by8]? = some (.cells #[.slice A5 l.length c5, a.sN, a.sK] 25 (0, 0)) := (hg.block _ (by rw [World.size_alloc]; omega) (fun e => by have := hfar _ e.symm; omega)).trans (heap_next hbx _)
  have hbk : ∀ j o, v2.ownBlock = some j → (X.alloc (.cells #[iv s] 3)).heap[j]? = some o → book o = false := by
    intro j o hv ho'
    rcases ho.2 with ⟨rfl, _⟩ | ⟨g', cap', cur, rfl, _, hg', _⟩
    · simp [Value.ownBlock] at hv
    · simp only [Value.ownBlock, Option.some.injEq] at hv
      subst hv
      rw [hg'] at ho'
      cases ho'
      rfl
  have hBw : Below w.heap.size w W' := (hbel.alloc hbel.size (.cells #[iv s] 3)).grown hg (by rw [World.size_alloc]; have := hbel.size; omega) (fun q e => by have := hlt2 q e; omega)
  have hKA : Keep X W' := ((Keep.refl X).alloc _).grown hg hbk
  refine held_mk 3 (.slice (some ⟨X.heap.size, 0, none⟩) 1 1) (X.alloc (.cells #[iv s] 3)) rfl (by kernel_rfl) rfl (by simp [go_sem, hu22]) hSa ?_
  simp only [Act.put, Array.getInternal_eq_getElem, List.take_succ_cons, List.take_zero, List.take_nil, List.getElem_toArray, List.getElem_cons_succ, List.getElem_cons_zero, List.setIfInBounds_toArray, List.set_cons_succ, List.set_cons_zero]
  refine held_mk 4 v' W' rfl (by kernel_rfl) rfl ?_ (cells_get (cs := [_, _, _]) hbx' rfl) ?_
  · exact exec_append _ _ 22 rfl rfl rfl hrun
  simp only [Act.put, Array.getInternal_eq_getElem, List.take_succ_cons, List.take_zero, List.take_nil, List.getElem_toArray, List.getElem_cons_succ, List.getElem_cons_zero, List.setIfInBounds_toArray, List.set_cons_succ, List.set_cons_zero]
  have hSb : W'.cell? ⟨by8, 0, none⟩ = some (.slice A5 l.length c5) := cells_get (cs := [_, _, _]) hbx' rfl
  clear hSa
  refine held_take 7 (v') rfl (by kernel_rfl) (by kernel_rfl) (by kernel_rfl) (by intro _ _ _ h; first | exact h | (simpa [behind, Act.put] using h)) rfl (by first | exact hS | assumption) (fun wq hq => ?_) ?_; (focus (first | rfl | (simp [go_sem]; done))); simp only [Act.put, Array.getInternal_eq_getElem, List.take_succ_cons, List.take_zero, List.take_nil, List.getElem_toArray, List.getElem_cons_succ, List.getElem_cons_zero, List.setIfInBounds_toArray, List.set_cons_succ, List.set_cons_zero]
  refine held_take 8 (.slice A5 l.length c5) rfl (by kernel_rfl) (by kernel_rfl) (by kernel_rfl) (by intro _ _ _ h; first | exact h | (simpa [behind, Act.put] using h)) rfl (by first | exact hS | assumption) (fun wq hq => ?_) ?_; (focus (first | rfl | (simp [go_sem]; done))); simp only [Act.put, Array.getInternal_eq_getElem, List.take_succ_cons, List.take_zero, List.take_nil, List.getElem_toArray, List.getElem_cons_succ, List.getElem_cons_zero, List.setIfInBounds_toArray, List.set_cons_succ, List.set_cons_zero]
  refine held_done (by kernel_rfl) ?_
  refine any_done (by kernel_rfl) ⟨rfl, hKd.trans hKA, ?_⟩
  show Exec _ _ (Code.exit 2) _ _ _
  refine exec_exit ⟨rfl, v', A5, c5, ⟨⟨⟨?_, ?_⟩, ?_, ?_⟩, ?_, ?_⟩, ?_⟩
  · exact (hg.block _ (by rw [World.size_alloc]; omega) (fun e => by have := hlt2 _ e.symm; omega)).trans (heap_next hbs _)
  · exact h0.below hBw
  · exact (hg.block _ (by rw [World.size_alloc]; omega) (fun e => by have := hlt2 _ e.symm; omega)).trans (heap_next hes _)
  · exact hBw
  · rw [List.length_append, List.map_append]
    exact hown
  · have hr := hYd.row
    rw [List.map_map] at hr
    have hr2 : RowV (X.alloc (.cells #[iv s] 3)) A5 (l2.map iv) := hr.grow (Grow.alloc 0 _ _)
    refine hr2.grown (fun hne ad e c => ?_) hg
    have h5 := hYd.far5 (fun c => hne (by rw [List.map_eq_nil_iff] at c ⊢; exact c)) ad e
    have := hfar _ c.symm
    omega
  · rw [hls]
    simp [Slots, Fits]
end Go.Proofs.Ytbdmmikflkpmpaa
end

section
namespace Go.Proofs.Ytbdmmikflkpmpaa
open Go.RowKit Go.TL Go.Shelf Go.Pn
attribute [local go_sem] Oper.semAt_some
attribute [local go_sem] run_store_func
def okTry (a : XP) (p : Nat) (l : List Nat) (s : Nat) : Bool := okS ((toP a.s3).needs.getD p 0) ((toP a.s3).fit.getD p 0) s && canL l s && restB a p (subL l s)
def sitStep (a : XP) (p : Nat) (st : List Nat × List Nat) : List Nat × List Nat := match (List.range (2 ^ a.L.length)).find? (okTry a p st.2) with
  | some s => (st.1 ++ [s], subL st.2 s)
  | none => st
theorem sit_round {w : World} {a : XP} {b : Nat} {acc l : List Nat} {v2 : Value} {A4 : Option Addr} {c4 p kd N s : Nat} (hf : a.Fine) (h0 : a.At w) (hb : w.heap.size = b) (hp : p < a.N.length) (hkd : (toP a.s3).needs.getD p 0 = kd) (hacc : acc.length ≤ 10) (hl : l.length = a.L.length) (hlb : ∀ x ∈ l, x ≤ 6) (hs : s < 2 ^ a.L.length) {W : World} (hW : SiW w a b acc l v2 A4 W) {t : Array Value} (hSl : Slots (none :: some (.pointer (some ⟨b, 0, none⟩)) :: some (v2) :: some (.pointer (some ⟨b + 1, 0, none⟩)) :: some (.slice A4 l.length c4) :: some (iv p) :: some (iv kd) :: none :: o4 (o4 (o4 (some (.slice a.AN a.N.length a.cN) :: some (iv a.N.length) :: some (iv p) :: none :: none :: none :: o4 (some (u64 N) :: some (u64 s) :: none :: none :: o4 (o64 [])))))) t) {Q : Exit → Array Value → World → Prop}
    (hno : okTry a p l s = false → ∀ t W', SiW w a b acc l v2 A4 W' → Slots (none :: some (.pointer (some ⟨b, 0, none⟩)) :: some (v2) :: some (.pointer (some ⟨b + 1, 0, none⟩)) :: some (.slice A4 l.length c4) :: some (iv p) :: some (iv kd) :: none :: o4 (o4 (o4 (some (.slice a.AN a.N.length a.cN) :: some (iv a.N.length) :: some (iv p) :: none :: none :: none :: o4 (some (u64 N) :: some (u64 s) :: none :: none :: o4 (o64 [])))))) t → Q (.exit 3) t W')
    (hyes : okTry a p l s = true → ∀ t W', SiT w a b (acc ++ [s]) (subL l s) p t W' → Q (.exit 2) t W') :
    Exec Try.prog none sround t W Q := by
  have h6 := hf.j
  have hs64 : s < 64 := Nat.lt_of_lt_of_le hs (Nat.pow_le_pow_right (n := 2) (by omega) h6)
  have hd : okTry a p l s = (okS kd ((toP a.s3).fit.getD p 0) s && canL l s && restB a p (subL l s)) := by rw [← hkd]; rfl
  refine sit_pick hf hp hs64 hW hSl (fun h => hno (by rw [hd, h]; rfl)) fun h1 t W' hW hSl => ?_
  refine sit_copy (by omega) hlb hs64 hW hSl fun by8 A5 c5 t W' hY hSl => ?_
  refine sit_rest hf hp hl hlb hs hY hSl (fun h => hno (by rw [hd, h1, Bool.true_and, h])) fun h2 t W' hY hSl => ?_
  have hc : canL l s = true := by
    cases h : canL l s with
    | true => rfl
    | false => rw [h] at h2; cases h2
  refine (sit_take h0 hb hacc hl hs64 hc (by omega) hY hSl).mono ?_
  rintro e t W ⟨rfl, hT⟩
  exact hyes (by rw [hd, h1, Bool.true_and, h2]) _ _ hT
def SfI (w : World) (a : XP) (b : Nat) (acc l : List Nat) (v2 : Value) (A4 : Option Addr) (c4 p kd N : Nat) (n : Nat) (t : Array Value) (W : World) : Prop :=
  ∃ s : Nat, s ≤ N ∧ n = N - s ∧ (∀ i, i < s → okTry a p l i = false) ∧ SiW w a b acc l v2 A4 W ∧ Slots (none :: some (.pointer (some ⟨b, 0, none⟩)) :: some (v2) :: some (.pointer (some ⟨b + 1, 0, none⟩)) :: some (.slice A4 l.length c4) :: some (iv p) :: some (iv kd) :: none :: o4 (o4 (o4 (some (.slice a.AN a.N.length a.cN) :: some (iv a.N.length) :: some (iv p) :: none :: none :: none :: o4 (some (u64 N) :: some (u64 s) :: none :: none :: o4 (o64 [])))))) t
set_option maxRecDepth 100000 in
set_option maxHeartbeats 1000000 in
theorem sit_find {w : World} {a : XP} {b : Nat} {acc l : List Nat} {v2 : Value} {A4 : Option Addr} {c4 p : Nat} (hf : a.Fine) (h0 : a.At w) (hb : w.heap.size = b) (hp : p < a.N.length) (hacc : acc.length ≤ 10) (hl : l.length = a.L.length) (hlb : ∀ x ∈ l, x ≤ 6) {W : World} (hW : SiW w a b acc l v2 A4 W) {t : Array Value} (hSl : Slots (none :: some (.pointer (some ⟨b, 0, none⟩)) :: some (v2) :: some (.pointer (some ⟨b + 1, 0, none⟩)) :: some (.slice A4 l.length c4) :: none :: none :: none :: o4 (o4 (o4 (some (.slice a.AN a.N.length a.cN) :: some (iv a.N.length) :: some (iv p) :: none :: none :: none :: o4 (o4 (o4 (o64 []))))))) t) :
    Exec Try.prog none (sub scode [1, 1, 1, 1, 1, 0, 1, 0, 0, 1, 1, 0]) t W (andThen (SiT w a b (sitStep a p (acc, l)).1 (sitStep a p (acc, l)).2 p) fun _ _ _ => False) := by
  have hu25 := Try.underlying25
  have hu22 := Try.underlying22
  have h6 := hf.j
  obtain ⟨x, hx⟩ := Slots.open_ hSl; simp only [fill, Nat.reduceAdd] at hx; subst hx; clear hSl
  obtain ⟨st, hst⟩ : ∃ st, sitStep a p (acc, l) = st := ⟨_, rfl⟩
  rw [hst]
  have HST := Lib.hid hst
  clear hst
  obtain ⟨ad, hA, hcN⟩ := hW.sp.p.at_.n p (vi (a.N.getD p 0)) (by rw [List.getElem?_map, List.getElem?_eq_getElem hp, List.getD_eq_getElem?_getD, List.getElem?_eq_getElem hp]; rfl)
  have hN0 : 0 ≤ a.N.getD p 0 := by
    rw [List.getD_eq_getElem?_getD, List.getElem?_eq_getElem hp]
    exact (hf.nb _ (List.getElem_mem hp)).1
  obtain ⟨kd, hkd⟩ : ∃ kd : Nat, a.N.getD p 0 = kd := ⟨(a.N.getD p 0).toNat, by omega⟩
  have hneed : (toP a.s3).needs.getD p 0 = kd := by
    show (a.N.map Int.toNat).getD p 0 = kd
    rw [List.getD_eq_getElem?_getD, List.getElem?_map, List.getElem?_eq_getElem hp]
    rw [List.getD_eq_getElem?_getD, List.getElem?_eq_getElem hp] at hkd
    simp only [Option.map_some, Option.getD_some] at hkd ⊢
    omega
  rw [hkd] at hcN
  have HK := Lib.hid hneed
  clear hkd hN0 hneed
  have hpI : (p : Int) < a.N.length := by omega
  refine exec_block ?_
  show Exec _ _ (Code.seq _ _) _ _ _
  simp only [hA]
  refine exec_seq (exec_region_o fun ds => ?_)
  gi_wp2
  refine eq_mk (Keep.refl _) ?_
  show Exec _ _ (Code.seq _ _) _ _ _
  have hh := hW.sp.p.heap
  simp only [XP.sL] at hh
  have c0 := cells_get (cs := [_, _, _]) (k := 0) hh rfl
  have hsh := shl_u a.L.length (by omega)
  refine exec_seq (exec_region_o fun ds => ?_)
  gi_wp2
  refine eq_mk (Keep.refl _) ?_
  show Exec _ _ (Code.block _ _) _ _ _
  clear c0 hh hcN hsh
  obtain ⟨N, hN⟩ : ∃ N, 2 ^ a.L.length = N := ⟨_, rfl⟩
  have hN64 : N ≤ 64 := by rw [← hN]; exact Nat.pow_le_pow_right (n := 2) (by omega) h6
  have hNI : (2 : Int) ^ a.L.length = (N : Int) := by rw [pow_cast, hN]
  refine exec_block ?_
  refine exec_loop (SfI w a b acc l v2 A4 c4 p kd N) N ⟨0, by omega, rfl, fun i hi => by omega, hW, by simp [Slots, Fits, hA, hNI]⟩ ?_
  clear hW hA hNI
  clear W x
  rintro n t W ⟨s, hsN, hn, hlt, hW, hSl⟩
  obtain ⟨x, hx⟩ := Slots.open_ hSl; simp only [fill, Nat.reduceAdd] at hx; subst hx; clear hSl
  show Exec _ _ (Code.seq _ (Code.seq _ _)) _ _ _
  refine exec_seq (exec_region_o fun ds => ?_)
  gi_wp2
  refine eq_mk (Keep.refl _) ?_
  show Exec _ _ (Code.seq (Code.cond _ _ _) _) _ _ _
  refine exec_seq (exec_cond (b := decide (s < N)) (by first | rfl | (show Value.bool _ = _; congr 1; exact decide_eq_decide.2 (by omega))) (fun hp => exec_skip ?_) (fun hp => exec_exit ?_))
  · have hsl : s < N := by have := of_decide_eq_true hp; omega
    show Exec _ _ (Code.seq (Code.block _ _) _) _ _ _
    have HNo : okTry a p l s = false → ∀ i, i < s + 1 → okTry a p l i = false := fun h i hi => by
      by_cases e : i = s
      · rw [e]; exact h
      · exact hlt i (by omega)
    have HYes : okTry a p l s = true → st = (acc ++ [s], subL l s) := fun h => by
      rw [← HST.out]
      unfold sitStep
      have e : List.range (2 ^ a.L.length) = List.range s ++ (s :: (List.range (2 ^ a.L.length)).drop (s + 1)) := by
        rw [← range_drop (by omega), show List.range s = (List.range (2 ^ a.L.length)).take s by rw [List.take_range, Nat.min_eq_left (by omega)], List.take_append_drop]
      simp only
      rw [e, List.find?_append, List.find?_eq_none.2 (fun y hy => by simp [hlt y (List.mem_range.1 hy)])]
      simp [h]
    have H1 := Lib.hid HNo
    have H2 := Lib.hid HYes
    clear HNo HYes hlt
    refine exec_seq (exec_block ?_)
    show Exec _ _ sround _ _ _
    refine sit_round (c4 := c4) (N := N) (s := s) (kd := kd) (p := p) hf h0 hb (by omega) HK.out hacc hl hlb (by rw [hN]; exact hsl) hW (by simp [Slots, Fits]) ?_ ?_
    · intro h t W' hW' hSl'
      have hlt := H1.out h
      have HL := Lib.hid hlt
      clear hlt hW x
      clear W
      show Exec _ _ _ _ _ _
      obtain ⟨x, hx⟩ := Slots.open_ hSl'; simp only [fill, Nat.reduceAdd] at hx; subst hx; clear hSl'
      have hw : IntKind.u64.wrap ((s : Int) + 1) = ((s + 1 : Nat) : Int) := by rw [wrapu _ (by omega) (by omega)]; norm_cast
      refine exec_region_o fun ds => ?_
      gi_wp2
      exact eq_mk (Keep.refl _) ⟨n - 1, by omega, s + 1, by omega, by omega, HL.out, hW', by simp only [Slots, Fits, and_self]; simp⟩
    · intro h t W' hT
      have e := H2.out h
      rw [e]
      exact hT
  · have hsl : s = N := by have := of_decide_eq_false hp; omega
    have e : st = (acc, l) := by
      rw [← HST.out]
      unfold sitStep
      simp only
      rw [List.find?_eq_none.2 fun y hy => by
        have := hlt y (by have := List.mem_range.1 hy; omega)
        simp [this]]
    rw [e]
    exact ⟨v2, A4, c4, hW, by simp [Slots, Fits]⟩
end Go.Proofs.Ytbdmmikflkpmpaa
end

section
namespace Go.Proofs.Ytbdmmikflkpmpaa
open Go.RowKit Go.TL Go.Shelf Go.Pn
attribute [local go_sem] Oper.semAt_some
attribute [local go_sem] run_store_func
theorem results_row {fn : Func} {p q : Tmp} (hr : fn.results = #[.tmp p, .cell q 28]) {t : Array Value} {y : Nat} {v : Value} (hp : t[p]? = some v) (hq : t[q]? = some (.pointer (some ⟨y, 0, none⟩))) {W : World} {e : Int} (hy : Boxed W y 28 (.int .i64 e)) :
    (results fn t).run Try.prog W = .ok (.tuple #[v, .int .i64 e]) W := by
  have h2 := hy.cell
  simp [results, hr, hp, hq, go_sem, h2]
def sitFold (a : XP) (k : Nat) : List Nat × List Nat := (List.range k).foldl (fun st p => sitStep a p st) ([], a.s3.1)
theorem sitFold_succ (a : XP) (k : Nat) : sitFold a (k + 1) = sitStep a k (sitFold a k) := by
  unfold sitFold
  rw [List.range_succ, List.foldl_append]
  rfl
theorem sitFold_ok {a : XP} (hf : a.Fine) : ∀ k, (sitFold a k).1.length ≤ k ∧ (sitFold a k).2.length = a.L.length ∧ ∀ x ∈ (sitFold a k).2, x ≤ 6
  | 0 => by
    refine ⟨Nat.le_refl _, by simp [sitFold, XP.s3], fun x hx => ?_⟩
    obtain ⟨y, hy, rfl⟩ := List.mem_map.1 (show x ∈ a.L.map Int.toNat from hx)
    have := hf.lb y hy
    omega
  | k + 1 => by
    obtain ⟨h1, h2, h3⟩ := sitFold_ok hf k
    rw [sitFold_succ]
    unfold sitStep
    split
    · exact ⟨by simp only [List.length_append, List.length_singleton]; omega, by simp only [subL_len]; exact h2, subL_le h3⟩
    · exact ⟨by omega, h2, h3⟩
def sitA (a : XP) : List Nat × Int := if a.isP then (if canV (toP a.s3) then ((sitFold a a.N.length).1, 0) else ([], 4)) else ([], 1)
def SitI (w : World) (a : XP) (b : Nat) (n : Nat) (t : Array Value) (W : World) : Prop :=
  ∃ p : Nat, p ≤ a.N.length ∧ n = a.N.length - p ∧ SiT w a b (sitFold a p).1 (sitFold a p).2 p t W
def SitE (w : World) (a : XP) (b : Nat) (e : Exit) (t : Array Value) (W : World) : Prop :=
  e = .ret ∧ ∃ v2, Boxed W (b + 1) 28 (vi 0) ∧ Below w.heap.size w W ∧ W.ownsRow (b + 2) 3 1 v2 (sitFold a a.N.length).1.length ((sitFold a a.N.length).1.map iv) ∧ Slots (none :: none :: some (v2) :: some (.pointer (some ⟨b + 1, 0, none⟩)) :: none :: none :: o16 (o16 (o64 []))) t
set_option maxRecDepth 100000 in
set_option maxHeartbeats 1000000 in
theorem sit_all {w : World} {a : XP} {b : Nat} (hf : a.Fine) (h0 : a.At w) (hb : w.heap.size = b) {A4 : Option Addr} {c4 : Nat} {W : World} (hW : SiW w a b [] a.s3.1 (.slice none 0 0) A4 W) {t : Array Value} (hSl : Slots (none :: some (.pointer (some ⟨b, 0, none⟩)) :: some (.slice none 0 0) :: some (.pointer (some ⟨b + 1, 0, none⟩)) :: some (.slice A4 a.s3.1.length c4) :: none :: o16 (o16 (o64 []))) t) :
    Exec Try.prog none (sub scode [1, 1, 1, 1, 1]) t W (SitE w a b) := by
  have hu25 := Try.underlying25
  have hn6 := hf.p
  obtain ⟨x, hx⟩ := Slots.open_ hSl; simp only [fill, Nat.reduceAdd] at hx; subst hx; clear hSl
  have hh := hW.sp.p.heap
  simp only [XP.sN] at hh
  have c1 := cells_get (cs := [_, _, _]) (k := 1) hh rfl
  clear hh
  show Exec _ _ (Code.seq (Code.seq _ _) _) _ _ _
  refine exec_seq (exec_seq (exec_region_o fun ds => ?_))
  gi_wp2
  refine eq_mk (Keep.refl _) ?_
  show Exec _ _ (Code.block _ _) _ _ _
  refine exec_block ?_
  refine exec_loop (SitI w a b) a.N.length ⟨0, by omega, rfl, .slice none 0 0, A4, c4, hW, by simp [Slots, Fits, sitFold]⟩ ?_
  clear hW c1
  clear W x
  rintro n t W ⟨p, hpN, hn, hT⟩
  obtain ⟨g1, g2, g3⟩ := sitFold_ok hf p
  have hnext := sitFold_succ a p
  have hend : p = a.N.length → sitFold a p = sitFold a a.N.length := fun e => by rw [e]
  generalize sitFold a p = st at *
  obtain ⟨acc, l⟩ := st
  simp only at g1 g2 g3
  obtain ⟨v2, A4, c4, hW, hSl⟩ := hT
  simp only at hW hSl
  obtain ⟨x, hx⟩ := Slots.open_ hSl; simp only [fill, Nat.reduceAdd] at hx; subst hx; clear hSl
  show Exec _ _ (Code.seq _ (Code.seq _ _)) _ _ _
  refine exec_seq (exec_region_o fun ds => ?_)
  gi_wp2
  refine eq_mk (Keep.refl _) ?_
  show Exec _ _ (Code.seq (Code.cond _ _ _) _) _ _ _
  refine exec_seq (exec_cond (b := decide (p < a.N.length)) (by first | rfl | (show Value.bool _ = _; congr 1; exact decide_eq_decide.2 (by omega))) (fun hp => exec_skip ?_) (fun hp => exec_exit ?_))
  · have hpl : p < a.N.length := by have := of_decide_eq_true hp; omega
    show Exec _ _ (Code.seq (sub scode [1, 1, 1, 1, 1, 0, 1, 0, 0, 1, 1, 0]) _) _ _ _
    have HN := Lib.hid hnext
    clear hnext hend
    refine exec_seq ((sit_find (c4 := c4) (p := p) hf h0 hb hpl (by omega) g2 g3 hW (by simp [Slots, Fits])).mono ?_)
    clear hW x
    clear W
    intro e t W hh
    obtain ⟨rfl, hT⟩ := only_normal hh
    clear hh
    rw [← HN.out] at hT
    obtain ⟨v2, A4, c4, hW, hSl⟩ := hT
    show Exec _ _ _ _ _ _
    obtain ⟨st, hst⟩ : ∃ st, sitFold a (p + 1) = st := ⟨_, rfl⟩
    rw [hst] at hW hSl
    have HS := Lib.hid hst
    clear hst HN
    obtain ⟨x, hx⟩ := Slots.open_ hSl; simp only [fill, Nat.reduceAdd] at hx; subst hx; clear hSl
    have hw : IntKind.i64.wrap ((p : Int) + 1) = ((p + 1 : Nat) : Int) := by rw [IntWalk.i64_in _ (by omega)]; norm_cast
    refine exec_region_o fun ds => ?_
    gi_wp2
    exact eq_mk (Keep.refl _) ⟨n - 1, by omega, p + 1, by omega, by omega, by rw [HS.out]; exact ⟨v2, A4, c4, hW, by simp only [Slots, Fits, and_self]; simp⟩⟩
  · have hpl : p = a.N.length := by have := of_decide_eq_false hp; omega
    have he := hend hpl
    have HE := Lib.hid he
    clear he hend hnext
    have e1 := hW.sp.e.cell
    have e2 := hW.sp.e.frozen
    obtain ⟨A2, c2, e, hr⟩ := row_of_own hW.own
    show Exec _ _ (Code.seq _ _) _ _ _
    refine exec_seq (exec_region_o fun ds => ?_)
    gi_wp2
    refine eq_mk ((Keep.refl _).setCell _ _) ?_
    show Exec _ _ _ _ _ _
    have g7 := boxed_set hW.sp.e (.int .i64 0)
    have hB5 : Below w.heap.size w (W.setCell ⟨b + 1, 0, none⟩ (.int .i64 0)) := hW.sp.below.setCell (by show w.heap.size ≤ b + 1; omega) _
    have o5 := own_other (b := b + 1) (o := 0) (x := .int .i64 0) hW.own (by omega)
    refine exec_ret ⟨rfl, v2, g7, hB5, ?_, by simp [Slots, Fits]⟩
    rw [← HE.out]
    exact o5
set_option maxRecDepth 100000 in
set_option maxHeartbeats 600000 in
theorem Sit_any (a : XP) (w : World) (h : a.At w) : Calls Try.prog 15 #[a.val] w fun e w' => ∃ A c, e = .returned (.tuple #[.slice A (sitA a).1.length c, vi (sitA a).2]) ∧ RowV w' A ((sitA a).1.map iv) ∧ Below w.heap.size w w' := by
  have hmf : ∀ fn first cap w, (Instr.makeFunc fn first cap).run Try.prog w = .ok (.func fn first cap) w := fun _ _ _ _ => rfl
  have hu25 := Try.underlying25
  have hu22 := Try.underlying22
  obtain ⟨A, hA⟩ : ∃ A, sitA a = A := ⟨_, rfl⟩
  rw [hA]
  have HA := Lib.hid hA
  clear hA
  refine (callsIn_wide (n := 0)).1 (callsIn_of_wp_marks Try.func15 rfl trivial ?_)
  simp only [Try.ntmps15, List.size_toArray, List.length_cons, List.length_nil, Nat.reduceAdd, Nat.reduceSub, Array.replicate_succ, Array.replicate_zero, List.push_toArray, List.append_toArray, List.nil_append, List.cons_append]
  simp only [XP.val]
  refine split_rest fun rest hR => ?_
  gi_wp2
  have hB := ((Below.refl w.heap.size w).alloc (Nat.le_refl _) (.cells #[a.sL, a.sN, a.sK] 25)).alloc (by simp) (.cells #[.int .i64 0] 28)
  have b1 : PBx ((w.alloc (.cells #[a.sL, a.sN, a.sK] 25)).alloc (.cells #[.int .i64 0] 28)) w.heap.size a := ⟨heap_next (World.alloc_heap_new _ _) _, h.below hB⟩
  have b3 : Boxed ((w.alloc (.cells #[a.sL, a.sN, a.sK] 25)).alloc (.cells #[.int .i64 0] 28)) (w.heap.size + 1) 28 (.int .i64 0) := by (simp only [Boxed, Box2, heap_alloc_at, heap_set_at, World.size_alloc, World.size_setCell]; repeat (first | rfl | rw [if_pos (by omega)] | rw [if_neg (by omega)]))
  refine guard_rest (lo := w.heap.size) (T := 133) (b := w.heap.size + 1) catches50 ⟨_, _, rfl⟩ (fun W => by simp [go_sem]) hB.size ?_
  subst hR
  generalize (w.alloc (.cells #[a.sL, a.sN, a.sK] 25)).alloc (.cells #[.int .i64 0] 28) = V at *
  have c0 := cells_get (cs := [_, _, _]) (k := 0) b1.heap rfl
  have c1 := cells_get (cs := [_, _, _]) (k := 1) b1.heap rfl
  have c2 := cells_get (cs := [_, _, _]) (k := 2) b1.heap rfl
  refine exec_seq (exec_region_o fun ds => ?_)
  gi_wp2_with fail
  cases hp : a.isP with
  | false =>
    refine ⟨trivial, rfl, (callsIn_wide.2 (checked_no a V b1.at_ hp)).mono ?_⟩
    rintro e W2 ⟨rfl, hw2⟩
    refine eq_mk (Keep.of_below hw2) (.inr ⟨1, 28, 0, rfl, (hw2.block _ b3.lt).trans b3, ?_⟩)
    rintro W' W'' hG rfl
    have hB2 := hB.trans (hw2.mono hB.size)
    have d3 := hG.boxed (show Boxed W2 (w.heap.size + 1) 28 (.int .i64 0) from (hw2.block _ b3.lt).trans b3)
    refine ⟨_, results_row rfl rfl rfl (boxed_set d3 _), none, 0, ?_⟩
    have hA : A = ([], 1) := by rw [← HA.out]; simp [sitA, hp]
    rw [hA]
    exact ⟨rfl, RowV.nil _ _, (hB2.trans (hG.below (Nat.le_refl _) hB2.size)).setCell (by show w.heap.size ≤ w.heap.size + 1; omega) _⟩
  | true =>
    refine ⟨trivial, rfl, (callsIn_wide.2 (checked_yes a V b1.at_ hp)).mono ?_⟩
    rintro e W2 ⟨rfl, hw2⟩
    have hf := a.fine hp
    gi_wp2
    refine eq_mk (Keep.of_below hw2) ?_
    show Exec _ _ _ _ _ _
    have hS2 : SpB w a w.heap.size W2 := ⟨b1.keep hw2, (hw2.block _ b3.lt).trans b3, hB.trans (hw2.mono hB.size)⟩
    clear b1 b3 c0 c1 c2 hB hw2
    clear V
    have c0 := cells_get (cs := [_, _, _]) (k := 0) hS2.p.heap rfl
    have c1 := cells_get (cs := [_, _, _]) (k := 1) hS2.p.heap rfl
    have c2 := cells_get (cs := [_, _, _]) (k := 2) hS2.p.heap rfl
    refine exec_seq (exec_region_o fun ds => ?_)
    gi_wp2_with fail
    cases hc : canV (toP a.s3) with
    | false =>
      refine ⟨trivial, rfl, (callsIn_wide.2 (found_no a hf W2 hS2.p.at_ hc)).mono ?_⟩
      rintro e W3 ⟨rfl, hw3⟩
      have hS3 := hS2.keep hw3
      refine eq_mk (Keep.of_below hw3) (.inr ⟨4, 28, 0, rfl, hS3.e, ?_⟩)
      rintro W' W'' hG rfl
      refine ⟨_, results_row rfl rfl rfl (boxed_set (hG.boxed hS3.e) _), none, 0, ?_⟩
      have hA : A = ([], 4) := by rw [← HA.out]; simp [sitA, hp, hc]
      rw [hA]
      exact ⟨rfl, RowV.nil _ _, (hS3.below.trans (hG.below (Nat.le_refl _) hS3.below.size)).setCell (by show w.heap.size ≤ w.heap.size + 1; omega) _⟩
    | true =>
      refine ⟨trivial, rfl, (callsIn_wide.2 (found_yes a hf W2 hS2.p.at_ hc)).mono ?_⟩
      rintro e W3 ⟨rfl, hw3⟩
      have hA : A = ((sitFold a a.N.length).1, 0) := by rw [← HA.out]; simp [sitA, hp, hc]
      have HA := Lib.hid hA
      clear hp hA hc
      gi_wp2
      refine eq_mk (Keep.of_below hw3) ?_
      show Exec _ _ _ _ _ _
      have hS3 := hS2.keep hw3
      clear c0 c1 c2 hS2 hw3
      clear W2
      have hh := hS3.p.heap
      simp only [XP.sL] at hh
      have c0 := cells_get (cs := [_, _, _]) (k := 0) hh rfl
      have hcl := clone54 a.AL a.cL a.L (by have := hf.j; omega) W3 hS3.p.at_.l
      refine exec_seq (exec_region_o fun ds => ?_)
      gi_wp2_with fail
      refine ⟨trivial, rfl, (callsIn_wide.2 hcl).mono ?_⟩
      rintro e W4 ⟨v, rfl, hown, hw4⟩
      have hS4 := hS3.keep hw4
      obtain ⟨A4, c4, rfl, hr4⟩ := row_of_own hown
      clear hown hcl hS3 c0 hh
      gi_wp2
      refine eq_mk (Keep.of_below hw4) ?_
      clear hw4
      clear W3
      have hlen : a.L.length = a.s3.1.length := by simp [XP.s3]
      have hrow : RowV W4 A4 (a.s3.1.map iv) := by
        rw [show a.s3.1.map iv = a.L.map vi from map_iv fun y hy => (hf.lb y hy).1]
        exact hr4
      rw [hlen]
      refine (sit_all (c4 := c4) hf h (b := w.heap.size) rfl ⟨hS4, World.ownsRow_nil _ _ _ _, hrow⟩ (by simp [Slots, Fits])).mono ?_
      rintro e t Z ⟨rfl, v2, hZe, hZB, hZo, hSl⟩
      obtain ⟨A2, c2, rfl, hr2⟩ := row_of_own hZo
      obtain ⟨x, hx⟩ := Slots.open_ hSl; simp only [fill, Nat.reduceAdd] at hx; subst hx; clear hSl
      exact .inl ⟨.inr rfl, hZe.lt, fun W' hG => ⟨_, results_row rfl rfl rfl (hG.boxed hZe), A2, c2, by rw [HA.out]; rfl, by rw [HA.out]; exact hr2.grow hG, hZB.trans (hG.below (Nat.le_refl _) hZB.size)⟩⟩
end Go.Proofs.Ytbdmmikflkpmpaa
end

section
namespace Go.Proofs.Ytbdmmikflkpmpaa
open Go.RowKit Go.TL Go.Shelf Go.Pn
attribute [local go_sem] Oper.semAt_some
attribute [local go_sem] run_store_func
theorem laidOut : laidOutB Try.prog = true := by kernel_rfl
theorem keyed88 : Go.Maps.Keyed Try.prog 88 := Go.Maps.Keyed.of_law (deep_law_laid (m := 9) laidOut (by decide) (of_decide_eq_true (by kernel_rfl)) (by kernel_rfl) (by kernel_rfl))
theorem key88 (a b c d e f : Int) (ha : (Lit.int .i64 a).wf = true) (hb : (Lit.int .i64 b).wf = true) (hc : (Lit.int .i64 c).wf = true) (hd : (Lit.int .i64 d).wf = true) (he : (Lit.int .i64 e).wf = true) (hf : (Lit.int .i64 f).wf = true) : ∃ l, keyOf Try.prog 88 (.agg #[.int .i64 a, .int .i64 b, .int .i64 c, .int .i64 d, .int .i64 e, .int .i64 f]) = some l := by
  have h1 : Try.prog.keyType 88 = true := by kernel_rfl
  have h2 : Try.prog.cellsOf 88 = 6 := by kernel_rfl
  have h4 : Try.prog.cellsOf 3 = 1 := by kernel_rfl
  obtain ⟨n, hn⟩ : ∃ n, Try.prog.types.size = n + 2 := ⟨Try.prog.types.size - 2, by have : 2 ≤ Try.prog.types.size := of_decide_eq_true (by kernel_rfl); omega⟩
  have u3 : Try.prog.underlying 3 = some (.int .i64) := Try.underlying3
  simp [keyOf, Try.underlying88, h1, h2, Value.formed, hn, Value.cells]
  simp [Program.keyLits, Try.underlying88, u3, h2, h4, ha, hb, hc, hd, he, hf, List.range, List.range.loop]
abbrev A6 := {l : List Nat // l.length = 6}
def encA (x : A6) : Value := .agg (x.1.map iv).toArray
def okA (x : A6) : Prop := ∀ n ∈ x.1, n ≤ 1000000
theorem six {l : List Nat} (h : l.length = 6) : ∃ a b c d e f, l = [a, b, c, d, e, f] := by
  match l, h with
  | [a, b, c, d, e, f], _ => exact ⟨a, b, c, d, e, f, rfl⟩
theorem map_iv_inj : ∀ {l m : List Nat}, l.map iv = m.map iv → l = m
  | [], [], _ => rfl
  | [], _ :: _, h => by cases h
  | _ :: _, [], h => by cases h
  | a :: l, b :: m, h => by
    simp only [List.map_cons, List.cons.injEq, Value.int.injEq, true_and] at h
    rw [Int.natCast_inj.1 h.1, map_iv_inj h.2]
theorem keyA : KeyEnc Try.prog 88 encA okA where
  keyed := keyed88
  lit x h := by
    obtain ⟨l, hl⟩ := x
    obtain ⟨a, b, c, d, e, f, rfl⟩ := six hl
    have hw : ∀ n ∈ [a, b, c, d, e, f], (Lit.int .i64 (n : Int)).wf = true := fun n hn => WalkArith.wf_i64 (by have := h n hn; omega)
    exact key88 _ _ _ _ _ _ (hw a (by simp)) (hw b (by simp)) (hw c (by simp)) (hw d (by simp)) (hw e (by simp)) (hw f (by simp))
  inj x y h := by
    unfold encA at h
    simp only [Value.agg.injEq] at h
    exact Subtype.ext (map_iv_inj (by simpa using congrArg Array.toList h))
def sub6 (x : A6) (s : Nat) : A6 := ⟨subL x.1 s, by rw [subL_len]; exact x.2⟩
def lessTo (l : List Nat) (s k : Nat) : List Nat := (List.range l.length).map fun i => l.getD i 0 - if decide (i < k) && s.testBit i then 1 else 0
theorem lessTo_len (l : List Nat) (s k : Nat) : (lessTo l s k).length = l.length := by simp [lessTo]
theorem lessTo_get {l : List Nat} {s k i : Nat} (hi : i < l.length) : (lessTo l s k)[i]? = some (l.getD i 0 - if decide (i < k) && s.testBit i then 1 else 0) := by
  unfold lessTo
  rw [List.getElem?_map, List.getElem?_range hi]
  rfl
theorem lessTo_zero (l : List Nat) (s : Nat) : lessTo l s 0 = l := by
  refine List.ext_getElem? fun i => ?_
  by_cases hi : i < l.length
  · rw [lessTo_get hi, List.getElem?_eq_getElem hi, getD_lt hi]
    simp
  · rw [List.getElem?_eq_none (by rw [lessTo_len]; omega), List.getElem?_eq_none (by omega)]
theorem lessTo_end (l : List Nat) (s : Nat) (h : l.length = 6) : lessTo l s 6 = subL l s := by
  unfold lessTo subL
  refine List.map_congr_left fun i hi => ?_
  have := List.mem_range.1 hi
  rw [decide_eq_true (by omega), Bool.true_and]
  rfl
theorem lessTo_succ {l : List Nat} {s k : Nat} (hk : k < l.length) : lessTo l s (k + 1) = if s.testBit k then (lessTo l s k).set k (l.getD k 0 - 1) else lessTo l s k := by
  refine List.ext_getElem? fun i => ?_
  by_cases hi : i < l.length
  · rw [lessTo_get hi]
    cases hb : s.testBit k with
    | true =>
      rw [if_pos rfl, List.getElem?_set, lessTo_len]
      by_cases e : k = i
      · subst e
        simp [hb, hk]
      · rw [if_neg e, lessTo_get hi]
        have : decide (i < k + 1) = decide (i < k) := decide_eq_decide.2 (by omega)
        rw [this]
    | false =>
      rw [if_neg (show ¬ (false = true) by decide)]
      refine Eq.trans ?_ (lessTo_get hi).symm
      by_cases e : i = k
      · subst e
        simp [hb]
      · have : decide (i < k + 1) = decide (i < k) := decide_eq_decide.2 (by omega)
        rw [this]
  · rw [List.getElem?_eq_none (by rw [lessTo_len]; omega)]
    split
    · rw [List.getElem?_eq_none (by rw [List.length_set, lessTo_len]; omega)]
    · rw [List.getElem?_eq_none (by rw [lessTo_len]; omega)]
def LeI (w : World) (l : List Nat) (s : Nat) (n : Nat) (t : Array Value) (W : World) : Prop :=
  ∃ k : Nat, k ≤ 6 ∧ n = 6 - k ∧ (∀ i, i < k → s.testBit i = true → 0 < l.getD i 0) ∧ Below w.heap.size w W ∧ W.heap[w.heap.size]? = some (.cells ((lessTo l s k).map iv).toArray 88 (0, 0)) ∧ (∃ m : A6, W.heap[w.heap.size + 1]? = some (.cells (m.1.map iv).toArray 88 (0, 0))) ∧ Slots (none :: some (u64 s) :: some (.pointer (some ⟨w.heap.size, 0, none⟩)) :: none :: some (.pointer (some ⟨w.heap.size + 1, 0, none⟩)) :: some (.bool false) :: none :: some (iv k) :: none :: none :: o16 []) t
def LeM (w : World) (l M : List Nat) (s k : Nat) (t : Array Value) (W : World) : Prop :=
  (s.testBit k = true → 0 < l.getD k 0) ∧ Below w.heap.size w W ∧ W.heap[w.heap.size]? = some (.cells (M.map iv).toArray 88 (0, 0)) ∧ (∃ m : A6, W.heap[w.heap.size + 1]? = some (.cells (m.1.map iv).toArray 88 (0, 0))) ∧ Slots (none :: some (u64 s) :: some (.pointer (some ⟨w.heap.size, 0, none⟩)) :: none :: some (.pointer (some ⟨w.heap.size + 1, 0, none⟩)) :: some (.bool false) :: none :: some (iv k) :: none :: none :: o16 []) t
def LessR (l : List Nat) (s : Nat) (e : Ending) : Prop := ∃ y : A6, e = .returned (.tuple #[encA y, .bool (canL l s)]) ∧ (canL l s = true → y.1 = subL l s)
theorem fill6 {W : World} {b : Nat} {t : TypeId} {z0 z1 z2 z3 z4 z5 : Value} (v0 v1 v2 v3 v4 v5 : Value) (h : W.heap[b]? = some (.cells #[z0, z1, z2, z3, z4, z5] t (0, 0))) :
    ((((((W.setCell ⟨b, 0, none⟩ v0).setCell ⟨b, 1, none⟩ v1).setCell ⟨b, 2, none⟩ v2).setCell ⟨b, 3, none⟩ v3).setCell ⟨b, 4, none⟩ v4).setCell ⟨b, 5, none⟩ v5).heap[b]? = some (.cells #[v0, v1, v2, v3, v4, v5] t (0, 0)) := by
  have h0 := box_set _ b 0 [z0, z1, z2, z3, z4, z5] t v0 h
  have h1 := box_set _ b 1 [v0, z1, z2, z3, z4, z5] t v1 h0
  have h2 := box_set _ b 2 [v0, v1, z2, z3, z4, z5] t v2 h1
  have h3 := box_set _ b 3 [v0, v1, v2, z3, z4, z5] t v3 h2
  have h4 := box_set _ b 4 [v0, v1, v2, v3, z4, z5] t v4 h3
  exact box_set _ b 5 [v0, v1, v2, v3, v4, z5] t v5 h4
theorem less_res {W : World} {b : Nat} {a c d e f g : Nat} {t : Array Value} {z : Bool} (ht : t[4]? = some (.pointer (some ⟨b, 0, none⟩))) (h5 : t[5]? = some (.bool z)) (h : W.heap[b]? = some (.cells #[iv a, iv c, iv d, iv e, iv f, iv g] 88 (0, 0))) : (results Try.f64 t).run Try.prog W = .ok (.tuple #[.agg #[iv a, iv c, iv d, iv e, iv f, iv g], .bool z]) W := by
  have hu88 := Try.underlying88
  have c0 := cells_get (cs := [_, _, _, _, _, _]) (k := 0) h rfl
  have c1 := cells_get (cs := [_, _, _, _, _, _]) (k := 1) h rfl
  have c2 := cells_get (cs := [_, _, _, _, _, _]) (k := 2) h rfl
  have c3 := cells_get (cs := [_, _, _, _, _, _]) (k := 3) h rfl
  have c4 := cells_get (cs := [_, _, _, _, _, _]) (k := 4) h rfl
  have c5 := cells_get (cs := [_, _, _, _, _, _]) (k := 5) h rfl
  simp [results, Try.f64, ht, h5, go_sem, hu88, c0, c1, c2, c3, c4, c5]
set_option maxRecDepth 100000 in
set_option maxHeartbeats 1000000 in
theorem less64 (l : List Nat) (hl : l.length = 6) (s : Nat) (hs : s < 2 ^ 64) (hx : ∀ n ∈ l, n ≤ 1000000) (w : World) : Calls Try.prog 64 #[.agg (l.map iv).toArray, u64 s] w fun e w' => LessR l s e ∧ Below w.heap.size w w' := by
  have hu88 := Try.underlying88
  refine calls_of_exec Try.func64 rfl ?_
  simp only [Try.ntmps64, List.size_toArray, List.length_cons, List.length_nil, Nat.reduceAdd, Nat.reduceSub, Array.replicate_succ, Array.replicate_zero, List.push_toArray, List.append_toArray, List.nil_append, List.cons_append]
  refine exec_seq (exec_region_o fun ds => ?_)
  obtain ⟨Q0, hQ0⟩ : ∃ Q0, LessR l s = Q0 := ⟨_, rfl⟩
  simp only [hQ0]
  have HQ := Lib.hid hQ0
  clear hQ0
  have hvals : ∃ a b c d e f, (l.map iv).toArray = #[iv a, iv b, iv c, iv d, iv e, iv f] ∧ l = [a, b, c, d, e, f] := by
    obtain ⟨a, b, c, d, e, f, rfl⟩ := six hl
    exact ⟨a, b, c, d, e, f, rfl, rfl⟩
  obtain ⟨a0, a1, a2, a3, a4, a5, ha, hla⟩ := hvals
  simp only [ha]
  gi_wp2
  refine eq_mk (((Keep.refl _).alloc _).alloc _) ?_
  show Exec _ _ _ _ ((w.alloc (.cells #[iv a0, iv a1, iv a2, iv a3, iv a4, iv a5] 88)).alloc (.cells #[iv 0, iv 0, iv 0, iv 0, iv 0, iv 0] 88)) _
  rw [← ha]
  have hB := ((Below.refl w.heap.size w).alloc (Nat.le_refl _) (.cells (l.map iv).toArray 88)).alloc (by simp) (.cells #[iv 0, iv 0, iv 0, iv 0, iv 0, iv 0] 88)
  have h1 : ((w.alloc (.cells (l.map iv).toArray 88)).alloc (.cells #[iv 0, iv 0, iv 0, iv 0, iv 0, iv 0] 88)).heap[w.heap.size]? = some (.cells (l.map iv).toArray 88 (0, 0)) := heap_next (World.alloc_heap_new _ _) _
  have h2 : ((w.alloc (.cells (l.map iv).toArray 88)).alloc (.cells #[iv 0, iv 0, iv 0, iv 0, iv 0, iv 0] 88)).heap[w.heap.size + 1]? = some (.cells (([0, 0, 0, 0, 0, 0] : List Nat).map iv).toArray 88 (0, 0)) := by
    have := World.alloc_heap_new (w.alloc (.cells (l.map iv).toArray 88)) (.cells #[iv 0, iv 0, iv 0, iv 0, iv 0, iv 0] 88)
    rw [World.size_alloc] at this
    exact this
  clear ha hla
  generalize (w.alloc (.cells (l.map iv).toArray 88)).alloc (.cells #[iv 0, iv 0, iv 0, iv 0, iv 0, iv 0] 88) = V at *
  refine exec_seq (exec_seq (exec_region_o fun ds => ?_))
  gi_wp2
  refine eq_mk (Keep.refl _) ?_
  show Exec _ _ (Code.block _ _) _ _ _
  refine exec_block ?_
  refine exec_loop (LeI w l s) 6 ⟨0, by omega, rfl, fun i hi => by omega, hB, by rw [lessTo_zero]; exact h1, ⟨⟨[0, 0, 0, 0, 0, 0], rfl⟩, h2⟩, by simp [Slots, Fits]⟩ ?_
  clear hB h1 h2
  clear V
  rintro n t X ⟨k, hk, hn, hall, hB, h1, ⟨⟨z, hz⟩, h2⟩, hSl⟩
  have hMl : (lessTo l s k).length = 6 := by rw [lessTo_len, hl]
  have hsu := @lessTo_succ l s k
  have hget := @lessTo_get l s k k
  have hend := lessTo_end l s hl
  obtain ⟨x, hx⟩ := Slots.open_ hSl; simp only [fill, Nat.reduceAdd] at hx; subst hx; clear hSl
  refine exec_seq (exec_region_o fun ds => ?_)
  gi_wp2
  refine eq_mk (Keep.refl _) ?_
  show Exec _ _ (Code.seq (Code.cond _ _ _) _) _ _ _
  refine exec_seq (exec_cond (b := decide (k < 6)) (by first | rfl | (show Value.bool _ = _; congr 1; exact decide_eq_decide.2 (by omega))) (fun hp => exec_skip ?_) (fun hp => exec_exit ?_))
  · have hk6 : k < 6 := by have := of_decide_eq_true hp; omega
    have hsu := hsu (by omega)
    have hget := hget (by omega)
    rw [show decide (k < k) = false from decide_eq_false (by omega)] at hget
    simp only [Bool.false_and, Bool.false_eq_true, if_false, Nat.sub_zero] at hget
    clear hend
    generalize lessTo l s k = M at *
    obtain ⟨M2, hM2⟩ : ∃ M2, lessTo l s (k + 1) = M2 := ⟨_, rfl⟩
    rw [hM2] at hsu
    have H2 := Lib.hid hM2
    have HS := Lib.hid hsu
    have HA := Lib.hid hall
    clear hsu hM2 hall
    show Exec _ _ (Code.seq (Code.block _ _) _) _ _ _
    refine exec_cut (LeM w l M2 s k) (exec_block (exec_seq (exec_region_o fun ds => ?_))) ?_
    · gi_wp2
      refine eq_mk (Keep.refl _) ?_
      show Exec _ _ (Code.seq (Code.seq _ _) _) _ _ _
      refine exec_seq (exec_seq (exec_region_o fun ds => ?_))
      gi_wp2_with fail
      refine ⟨trivial, rfl, (callsIn_wide.2 (has57 s k hs (by omega) X)).mono ?_⟩
      rintro e Y ⟨rfl, hy⟩
      have hBY := hB.trans (hy.mono hB.size)
      have h1Y : Y.heap[w.heap.size]? = some (.cells (M.map iv).toArray 88 (0, 0)) := (hy.block _ (heap_lt h1)).trans h1
      have h2Y : Y.heap[w.heap.size + 1]? = some (.cells (z.map iv).toArray 88 (0, 0)) := (hy.block _ (heap_lt h2)).trans h2
      have hKY := Keep.of_below hy
      clear h1 h2 hB hy
      cases hq : s.testBit k with
      | false =>
        have HE : RowKit.Hid (M2 = M) := Lib.hid (by rw [HS.out, hq]; rfl)
        have HQ2 := Lib.hid hq
        clear hq
        gi_wp2
        refine eq_mk hKY ?_
        show Exec _ _ (Code.cond _ _ _) _ _ _
        refine exec_cond (b := true) rfl (fun _ => exec_exit ?_) (fun h => by cases h)
        exact ⟨fun h => (by rw [HQ2.out] at h; cases h), hBY, by rw [HE.out]; exact h1Y, ⟨⟨z, hz⟩, h2Y⟩, (by simp only [Slots, Fits, and_self])⟩
      | true =>
        have HE : RowKit.Hid (M2 = M.set k (l.getD k 0 - 1)) := Lib.hid (by rw [HS.out, hq]; rfl)
        have HQ2 := Lib.hid hq
        clear hq
        gi_wp2
        refine eq_mk hKY ?_
        show Exec _ _ (Code.cond _ _ _) _ _ _
        refine exec_cond (b := false) rfl (fun h => by cases h) (fun _ => exec_skip ?_)
        have hlk : l.getD k 0 ≤ 1000000 := hx _ (mem_getD (by omega))
        have ck : Y.cell? ⟨w.heap.size, k, none⟩ = some (iv (l.getD k 0)) := cells_get (cs := M.map iv) h1Y (by rw [List.getElem?_map, hget]; rfl)
        have cf : Y.frozen? ⟨w.heap.size, k, none⟩ = false := frozen_cells h1Y
        obtain ⟨lk, hlke⟩ : ∃ lk, l.getD k 0 = lk := ⟨_, rfl⟩
        rw [hlke] at ck hlk
        have HL := Lib.hid hlke
        clear hlke hget
        have hkI : (k : Int) < 6 := by omega
        show Exec _ _ (Code.seq (Code.seq _ _) _) _ _ _
        refine exec_seq (exec_seq (exec_region_o fun ds => ?_))
        gi_wp2
        refine eq_mk (Keep.refl _) ?_
        show Exec _ _ (Code.cond _ _ _) _ _ _
        refine exec_cond (b := decide (lk = 0)) (by first | rfl | (show Value.bool _ = _; congr 1; exact decide_eq_decide.2 (by omega))) (fun hp => ?_) (fun hp => exec_skip ?_)
        · have hl0 : lk = 0 := of_decide_eq_true hp
          obtain ⟨m0, m1, m2, m3, m4, m5, hm⟩ := six hMl
          obtain ⟨z0, z1, z2, z3, z4, z5, hzz⟩ := six hz
          rw [hm] at h1Y
          rw [hzz] at h2Y
          have e0 := cells_get (cs := [_, _, _, _, _, _]) (k := 0) h1Y rfl
          have e1 := cells_get (cs := [_, _, _, _, _, _]) (k := 1) h1Y rfl
          have e2 := cells_get (cs := [_, _, _, _, _, _]) (k := 2) h1Y rfl
          have e3 := cells_get (cs := [_, _, _, _, _, _]) (k := 3) h1Y rfl
          have e4 := cells_get (cs := [_, _, _, _, _, _]) (k := 4) h1Y rfl
          have e5 := cells_get (cs := [_, _, _, _, _, _]) (k := 5) h1Y rfl
          have f0 := cells_get (cs := [_, _, _, _, _, _]) (k := 0) h2Y rfl
          have f1 := cells_get (cs := [_, _, _, _, _, _]) (k := 1) h2Y rfl
          have f2 := cells_get (cs := [_, _, _, _, _, _]) (k := 2) h2Y rfl
          have f3 := cells_get (cs := [_, _, _, _, _, _]) (k := 3) h2Y rfl
          have f4 := cells_get (cs := [_, _, _, _, _, _]) (k := 4) h2Y rfl
          have f5 := cells_get (cs := [_, _, _, _, _, _]) (k := 5) h2Y rfl
          have fz : ∀ o, Y.frozen? ⟨w.heap.size + 1, o, none⟩ = false := fun o => frozen_cells h2Y
          have h3 := fill6 (iv m0) (iv m1) (iv m2) (iv m3) (iv m4) (iv m5) h2Y
          have hB3 : Below w.heap.size w ((((((Y.setCell ⟨w.heap.size + 1, 0, none⟩ (iv m0)).setCell ⟨w.heap.size + 1, 1, none⟩ (iv m1)).setCell ⟨w.heap.size + 1, 2, none⟩ (iv m2)).setCell ⟨w.heap.size + 1, 3, none⟩ (iv m3)).setCell ⟨w.heap.size + 1, 4, none⟩ (iv m4)).setCell ⟨w.heap.size + 1, 5, none⟩ (iv m5)) := (((((hBY.setCell (by show w.heap.size ≤ w.heap.size + 1; omega) _).setCell (by show w.heap.size ≤ w.heap.size + 1; omega) _).setCell (by show w.heap.size ≤ w.heap.size + 1; omega) _).setCell (by show w.heap.size ≤ w.heap.size + 1; omega) _).setCell (by show w.heap.size ≤ w.heap.size + 1; omega) _).setCell (by show w.heap.size ≤ w.heap.size + 1; omega) _
          refine exec_seq (exec_region_o fun ds => ?_)
          gi_wp2
          refine eq_mk ((((((Keep.refl _).setCell _ _).setCell _ _).setCell _ _).setCell _ _).setCell _ _ |>.setCell _ _) ?_
          show Exec _ _ _ _ _ _
          have hc : canL l s = false := by
            cases hcc : canL l s with
            | false => rfl
            | true =>
              have := canL_iff.1 hcc k hk6 HQ2.out
              rw [HL.out] at this
              omega
          refine exec_ret ⟨.inr rfl, fun W' hG => ⟨_, less_res rfl rfl (hG.same _ _ h3 (.inr rfl)), ?_, hB3.trans (hG.below (Nat.le_refl _) hB3.size)⟩⟩
          rw [← HQ.out]
          exact ⟨⟨[m0, m1, m2, m3, m4, m5], rfl⟩, by rw [hc]; rfl, fun h => (by rw [hc] at h; cases h)⟩
        · have hl0 : lk ≠ 0 := of_decide_eq_false hp
          have hw : IntKind.i64.wrap ((lk : Int) - 1) = ((lk - 1 : Nat) : Int) := by rw [IntWalk.i64_in _ (by omega)]; omega
          have h3 := box_set Y w.heap.size k (M.map iv) 88 (iv (lk - 1)) h1Y
          rw [map_set] at h3
          have h4 := box_far Y w.heap.size k (w.heap.size + 1) (iv (lk - 1)) _ h2Y (by omega)
          have hB3 := hBY.setCell (p := ⟨w.heap.size, k, none⟩) (Nat.le_refl _) (iv (lk - 1))
          show Exec _ _ (Code.region _ _ _) _ _ _
          refine exec_region_o fun ds => ?_
          gi_wp2
          refine eq_mk ((Keep.refl _).setCell _ _) ?_
          exact ⟨fun _ => by rw [HL.out]; omega, hB3, by rw [HE.out, HL.out]; exact h3, ⟨⟨z, hz⟩, h4⟩, (by simp only [Slots, Fits, and_self])⟩
    · clear hB h1 h2 hget hz z x
      clear X
      rintro t' Y ⟨hkk, hB, h1, h2, hSl⟩
      have hall : ∀ i, i < k + 1 → s.testBit i = true → 0 < l.getD i 0 := fun i hi hb => by
        by_cases e : i = k
        · rw [e] at hb ⊢
          exact hkk hb
        · exact HA.out i (by omega) hb
      have HA2 := Lib.hid hall
      clear hall hkk
      rw [← H2.out] at h1
      obtain ⟨x, hx⟩ := Slots.open_ hSl; simp only [fill, Nat.reduceAdd] at hx; subst hx; clear hSl
      have hw : IntKind.i64.wrap ((k : Int) + 1) = ((k + 1 : Nat) : Int) := by rw [IntWalk.i64_in _ (by omega)]; norm_cast
      refine exec_region_o fun ds => ?_
      gi_wp2
      exact eq_mk (Keep.refl _) ⟨n - 1, by omega, k + 1, by omega, by omega, HA2.out, hB, h1, h2, by simp only [Slots, Fits, and_self]; simp⟩
  · have hk6 : k = 6 := by have := of_decide_eq_false hp; omega
    subst hk6
    rw [hend] at h1
    clear hend hsu hget
    have hc : canL l s = true := canL_iff.2 hall
    have HC := Lib.hid hc
    clear hc hall
    have hSl6 : (subL l s).length = 6 := by rw [subL_len, hl]
    obtain ⟨m0, m1, m2, m3, m4, m5, hm⟩ := six hSl6
    rw [hm] at h1
    have HM := Lib.hid hm
    clear hm hSl6
    obtain ⟨z0, z1, z2, z3, z4, z5, hzz⟩ := six hz
    subst hzz
    have e0 := cells_get (cs := [_, _, _, _, _, _]) (k := 0) h1 rfl
    have e1 := cells_get (cs := [_, _, _, _, _, _]) (k := 1) h1 rfl
    have e2 := cells_get (cs := [_, _, _, _, _, _]) (k := 2) h1 rfl
    have e3 := cells_get (cs := [_, _, _, _, _, _]) (k := 3) h1 rfl
    have e4 := cells_get (cs := [_, _, _, _, _, _]) (k := 4) h1 rfl
    have e5 := cells_get (cs := [_, _, _, _, _, _]) (k := 5) h1 rfl
    show Exec _ _ (Code.seq _ _) _ _ _
    have f0 := cells_get (cs := [_, _, _, _, _, _]) (k := 0) h2 rfl
    have f1 := cells_get (cs := [_, _, _, _, _, _]) (k := 1) h2 rfl
    have f2 := cells_get (cs := [_, _, _, _, _, _]) (k := 2) h2 rfl
    have f3 := cells_get (cs := [_, _, _, _, _, _]) (k := 3) h2 rfl
    have f4 := cells_get (cs := [_, _, _, _, _, _]) (k := 4) h2 rfl
    have f5 := cells_get (cs := [_, _, _, _, _, _]) (k := 5) h2 rfl
    have fz : ∀ o, X.frozen? ⟨w.heap.size + 1, o, none⟩ = false := fun o => frozen_cells h2
    have h3 := fill6 (iv m0) (iv m1) (iv m2) (iv m3) (iv m4) (iv m5) h2
    have hB3 : Below w.heap.size w ((((((X.setCell ⟨w.heap.size + 1, 0, none⟩ (iv m0)).setCell ⟨w.heap.size + 1, 1, none⟩ (iv m1)).setCell ⟨w.heap.size + 1, 2, none⟩ (iv m2)).setCell ⟨w.heap.size + 1, 3, none⟩ (iv m3)).setCell ⟨w.heap.size + 1, 4, none⟩ (iv m4)).setCell ⟨w.heap.size + 1, 5, none⟩ (iv m5)) := (((((hB.setCell (by show w.heap.size ≤ w.heap.size + 1; omega) _).setCell (by show w.heap.size ≤ w.heap.size + 1; omega) _).setCell (by show w.heap.size ≤ w.heap.size + 1; omega) _).setCell (by show w.heap.size ≤ w.heap.size + 1; omega) _).setCell (by show w.heap.size ≤ w.heap.size + 1; omega) _).setCell (by show w.heap.size ≤ w.heap.size + 1; omega) _
    refine exec_seq (exec_region_o fun ds => ?_)
    gi_wp2
    refine eq_mk ((((((Keep.refl _).setCell _ _).setCell _ _).setCell _ _).setCell _ _).setCell _ _ |>.setCell _ _) ?_
    show Exec _ _ _ _ _ _
    refine exec_ret ⟨.inr rfl, fun W' hG => ⟨_, less_res rfl rfl (hG.same _ _ h3 (.inr rfl)), ?_, hB3.trans (hG.below (Nat.le_refl _) hB3.size)⟩⟩
    rw [← HQ.out]
    exact ⟨⟨[m0, m1, m2, m3, m4, m5], rfl⟩, by rw [HC.out]; rfl, fun _ => by rw [HM.out]⟩
end Go.Proofs.Ytbdmmikflkpmpaa
end

section
namespace Go.Proofs.Ytbdmmikflkpmpaa
open Go.RowKit Go.TL Go.Shelf Go.Pn
attribute [local go_sem] Oper.semAt_some
attribute [local go_sem] run_store_func
open Go.ChangeMaps (setBlock heap_setBlock_same heap_setBlock_other modify_eq_set)
section
variable {κ : Type} {P : Program} {k t e : TypeId} {enc : κ → Value} {ok : κ → Prop} {W : World} {b : Nat} {l : List (κ × Value)}
theorem mapR_block {W W' : World} {o : Obj} (h : MapR enc ok W b l) (h1 : W.heap[b]? = some o) (h2 : W'.heap[b]? = some o) : MapR enc ok W' b l := h.kept (h2.trans h1.symm)
theorem gb_block {W : World} {o o' : Obj} (hb : W.heap[b]? = some o') : W.grownBy (setBlock W b o) (some b) := ⟨rfl, rfl, rfl, by simp [setBlock], fun i _ hi => heap_setBlock_any _ _ _ _ (fun e => hi (by rw [e]))⟩
theorem entry_new [DecidableEq κ] {es : Array MapEntry} {clock : Nat} (hb : W.heap[b]? = some (.map es clock)) (R : EntR enc ok es clock l) (E : KeyEnc P k enc ok) (ht : P.underlying t = some (.map k e)) {x : κ} (hx : ok x) (h1 : ∀ w, (Instr.findKey k (enc x) es.toList).run P w = .ok none w) (v : Value) :
    MapR enc ok (setBlock W b (.map (es.push ⟨enc x, v, clock⟩) (clock + 1))) b (put l x v) := by
  obtain ⟨lx, hlx⟩ := E.lit x hx
  obtain ⟨W', hrun, hm, _⟩ := MapR.update (P := P) ⟨es, clock, hb, R⟩ E ht hx v
  have hr : (Instr.mapUpdate t (.map (some b)) (enc x) v).run P W = .ok () (setBlock W b (.map (es.push ⟨enc x, v, clock⟩) (clock + 1))) := by
    simp [Instr.mapUpdate, run_underlying ht, MapKept.run_getObj_map hb, E.keyed.check W false hlx, h1, MapKept.run_setObj_map _ hb, Result.andThen, setBlock]
  rw [hr] at hrun
  cases hrun
  exact hm
theorem entry_old [DecidableEq κ] {es : Array MapEntry} {clock j : Nat} {e0 : MapEntry} (hb : W.heap[b]? = some (.map es clock)) (R : EntR enc ok es clock l) (E : KeyEnc P k enc ok) (ht : P.underlying t = some (.map k e)) {x : κ} (hx : ok x) (h1 : ∀ w, (Instr.findKey k (enc x) es.toList).run P w = .ok (some (j, e0.val)) w) (h3 : es[j]? = some e0) (h4 : e0.key = enc x) (v : Value) :
    MapR enc ok (setBlock W b (.map (es.modify j fun e' => { e' with key := enc x, val := v }) clock)) b (put l x v) := by
  obtain ⟨lx, hlx⟩ := E.lit x hx
  obtain ⟨W', hrun, hm, _⟩ := MapR.update (P := P) ⟨es, clock, hb, R⟩ E ht hx v
  have hr : (Instr.mapUpdate t (.map (some b)) (enc x) v).run P W = .ok () (setBlock W b (.map (es.modify j fun e' => { e' with key := enc x, val := v }) clock)) := by
    simp [Instr.mapUpdate, run_underlying ht, MapKept.run_getObj_map hb, E.keyed.check W false hlx, h1, h3, h4, E.keyed.stays W hlx, MapKept.run_setObj_map _ hb, Result.andThen, setBlock]
  rw [hr] at hrun
  cases hrun
  exact hm
theorem modify_same {es : Array MapEntry} {j : Nat} {e0 : MapEntry} (h3 : es[j]? = some e0) (f : MapEntry → MapEntry) (hf : f e0 = e0) : es.modify j f = es := by
  apply Array.ext'
  have h3' : es.toList[j]? = some e0 := by simpa using h3
  rw [Array.toList_modify, modify_eq_set _ _ _ _ h3', hf]
  refine List.ext_getElem? fun i => ?_
  rw [List.getElem?_set]
  split
  · rename_i hji
    subst hji
    split
    · exact h3'.symm
    · rename_i hl
      rw [List.getElem?_eq_none (by omega)]
  · rfl
theorem modify_eq {es : Array MapEntry} {j : Nat} {e0 : MapEntry} (h3 : es[j]? = some e0) (f g : MapEntry → MapEntry) (hf : f e0 = g e0) : es.modify j f = es.modify j g := by
  apply Array.ext'
  have h3' : es.toList[j]? = some e0 := by simpa using h3
  rw [Array.toList_modify, Array.toList_modify, modify_eq_set _ _ _ _ h3', modify_eq_set _ _ _ _ h3', hf]
theorem born_idx {es : Array MapEntry} {j : Nat} {e0 : MapEntry} (hn : (es.toList.map (·.born)).Nodup) (h3 : es[j]? = some e0) : es.findIdx? (fun e => (e.born : Int) == (e0.born : Int)) = some j := by
  rw [Array.findIdx?_eq_some_iff_getElem]
  obtain ⟨hj, he⟩ := Array.getElem?_eq_some_iff.1 h3
  refine ⟨hj, by rw [he]; simp, fun i hi => ?_⟩
  have hp := List.pairwise_iff_getElem.1 hn i j (by simp; omega) (by simp; exact hj) hi
  simp only [List.getElem_map, Array.getElem_toList] at hp
  rw [he] at hp
  simp only [beq_iff_eq, Int.natCast_inj]
  exact hp
theorem born_push {es : Array MapEntry} {clock : Nat} {x : Value} (ho : ∀ e ∈ es.toList, e.born < clock) (z : Value) : (es.push ⟨x, z, clock⟩).findIdx? (fun e => (e.born : Int) == (clock : Int)) = some es.size := by
  rw [Array.findIdx?_eq_some_iff_getElem]
  refine ⟨by simp, by simp, fun i hi => ?_⟩
  rw [Array.getElem_push_lt hi]
  have := ho es[i] (by simp)
  simp only [beq_iff_eq, Int.natCast_inj]
  omega
theorem push_modify {es : Array MapEntry} (x z v : Value) (c : Nat) : (es.push ⟨x, z, c⟩).modify es.size (fun e => { e with val := v }) = es.push ⟨x, v, c⟩ := by
  apply Array.ext'
  have h3' : (es.push ⟨x, z, c⟩).toList[es.size]? = some ⟨x, z, c⟩ := by simp
  rw [Array.toList_modify, modify_eq_set _ _ _ _ h3']
  simp
theorem mapR_entry [DecidableEq κ] (h : MapR enc ok W b l) (E : KeyEnc P k enc ok) (ht : P.underlying t = some (.map k e)) {z : Value} (hz : (zeroValue e).run P W = .ok z W) {x : κ} (hx : ok x) :
    ∃ (W1 : World) (st : Nat), (Instr.mapEntry t (.map (some b)) (enc x)).run P W = .ok (.tuple #[(at? l x).getD z, goInt st]) W1 ∧ W.grownBy W1 (some b) ∧ MapR enc ok W1 b (put l x ((at? l x).getD z)) ∧
      ∀ W2 : World, W2.heap[b]? = W1.heap[b]? → ∀ v, ∃ W3, (Instr.entryStore t (.map (some b)) (goInt st) v).run P W2 = .ok () W3 ∧ MapR enc ok W3 b (put l x v) ∧ W2.grownBy W3 (some b) := by
  obtain ⟨es, clock, hb, R⟩ := h
  obtain ⟨lx, hlx⟩ := E.lit x hx
  rcases entR_find E R W hx with ⟨h1, h2⟩ | ⟨j, v0, e0, h1, h2, h3, h4, h5⟩
  · have h1' : ∀ w, (Instr.findKey k (enc x) es.toList).run P w = .ok none w := fun w => by
      rcases entR_find E R w hx with ⟨h, _⟩ | ⟨j, v, e1, _, hl, _⟩
      · exact h
      · exact absurd (List.mem_map.2 ⟨_, List.mem_of_getElem? hl, rfl⟩) h2
    rw [at_none h2]
    refine ⟨setBlock W b (.map (es.push ⟨enc x, z, clock⟩) (clock + 1)), clock, ?_, gb_block hb, entry_new hb R E ht hx h1' z, fun W2 hW2 v => ?_⟩
    · simp [Instr.mapEntry, run_underlying ht, MapKept.run_getObj_map hb, E.keyed.check W false hlx, h1, hz, MapKept.run_setObj_map _ hb, Result.andThen, setBlock]
    · have hb2 : W2.heap[b]? = some (.map (es.push ⟨enc x, z, clock⟩) (clock + 1)) := hW2.trans (heap_setBlock_same hb _)
      refine ⟨setBlock W2 b (.map (es.push ⟨enc x, v, clock⟩) (clock + 1)), ?_, mapR_block (entry_new hb R E ht hx h1' v) (heap_setBlock_same hb _) (heap_setBlock_same hb2 _), gb_block hb2⟩
      simp [Instr.entryStore, MapKept.run_getObj_map hb2, asInt, asIntOf, goInt, Result.andThen, born_push R.old z, push_modify, MapKept.run_setObj_map _ hb2, setBlock]
  · subst h5
    have h1' : ∀ w, (Instr.findKey k (enc x) es.toList).run P w = .ok (some (j, e0.val)) w := fun w => by
      rcases entR_find E R w hx with ⟨_, h⟩ | ⟨j', v', e1, hh, hl, hj, hk, hv⟩
      · exact absurd (List.mem_map.2 ⟨_, List.mem_of_getElem? h2, rfl⟩) h
      · have e1 := at_some R.nodup h2
        have e2 := at_some R.nodup hl
        have hjj : j' = j := by
          obtain ⟨hjl, hje⟩ := List.getElem?_eq_some_iff.1 h2
          obtain ⟨hil, hie⟩ := List.getElem?_eq_some_iff.1 hl
          have n := List.pairwise_iff_getElem.1 (show (l.map (·.1)).Pairwise (· ≠ ·) from R.nodup)
          rcases Nat.lt_trichotomy j' j with hlt | heq | hlt
          · exact (n j' j (by simpa using hil) (by simpa using hjl) hlt (by simp [hie, hje])).elim
          · exact heq
          · exact (n j j' (by simpa using hjl) (by simpa using hil) hlt (by simp [hie, hje])).elim
        rw [hh, hjj]
        rw [e1] at e2
        rw [← Option.some.inj e2]
    have hj : es[j]? = some e0 := by simpa using h3
    rw [at_some R.nodup h2]
    have hsame : es.modify j (fun e' => { e' with key := enc x }) = es := modify_same hj _ (by rw [← h4])
    have hput : MapR enc ok W b (put l x e0.val) := by
      have := entry_old hb R E ht hx h1' hj h4 e0.val
      rw [modify_same hj _ (by rw [← h4])] at this
      exact mapR_block this (heap_setBlock_same hb _) hb
    refine ⟨setBlock W b (.map es clock), e0.born, ?_, gb_block hb, mapR_block hput hb (heap_setBlock_same hb _), fun W2 hW2 v => ?_⟩
    · simp [Instr.mapEntry, run_underlying ht, MapKept.run_getObj_map hb, E.keyed.check W false hlx, h1, hj, h4, E.keyed.stays W hlx, hsame, MapKept.run_setObj_map _ hb, Result.andThen, setBlock]
    · have hb2 : W2.heap[b]? = some (.map es clock) := hW2.trans (heap_setBlock_same hb _)
      refine ⟨setBlock W2 b (.map (es.modify j fun e' => { e' with key := enc x, val := v }) clock), ?_, mapR_block (entry_old hb R E ht hx h1' hj h4 v) (heap_setBlock_same hb _) (heap_setBlock_same hb2 _), gb_block hb2⟩
      have hm : es.modify j (fun e' => { e' with val := v }) = es.modify j (fun e' => { e' with key := enc x, val := v }) := modify_eq hj _ _ (by rw [← h4])
      simp [Instr.entryStore, MapKept.run_getObj_map hb2, asInt, asIntOf, goInt, Result.andThen, born_idx R.born hj, hm, MapKept.run_setObj_map _ hb2, setBlock]
end
end Go.Proofs.Ytbdmmikflkpmpaa
end

section
namespace Go.Proofs.Ytbdmmikflkpmpaa
open Go.RowKit Go.TL Go.Shelf Go.Pn
attribute [local go_sem] Oper.semAt_some
attribute [local go_sem] run_store_func
abbrev LW := List (A6 × Nat)
def lwV (lw : LW) : List (A6 × Value) := lw.map fun p => (p.1, iv p.2)
def keysW (lw : LW) : List A6 := lw.map (·.1)
theorem lwV_keys (lw : LW) : (lwV lw).map (·.1) = keysW lw := by simp [lwV, keysW]
def getN (lw : LW) (x : A6) : Nat := ((lw.find? fun p => decide (p.1 = x)).map (·.2)).getD 0
def addN (lw : LW) (x : A6) (m : Nat) : LW := if x ∈ keysW lw then lw.map (fun p => if p.1 = x then (x, p.2 + m) else p) else lw ++ [(x, m)]
def wsum (F : A6 → Nat) (lw : LW) : Nat := (lw.map fun p => F p.1 * p.2).sum
theorem at_lw (lw : LW) (x : A6) : (at? (lwV lw) x).getD (iv 0) = iv (getN lw x) := by
  unfold at? getN lwV
  rw [List.find?_map]
  have e : ((fun p : A6 × Value => decide (p.1 = x)) ∘ fun p : A6 × Nat => (p.1, iv p.2)) = fun p => decide (p.1 = x) := rfl
  rw [e]
  cases lw.find? (fun p => decide (p.1 = x)) <;> rfl
theorem getN_in {lw : LW} (hn : (keysW lw).Nodup) {p : A6 × Nat} (hp : p ∈ lw) : getN lw p.1 = p.2 := by
  unfold getN
  cases hf : lw.find? (fun q => decide (q.1 = p.1)) with
  | none =>
    have := List.find?_eq_none.1 hf p hp
    simp at this
  | some q =>
    have hq := List.find?_some hf
    have hqm := List.mem_of_find?_eq_some hf
    simp at hq
    have : q = p := by
      clear hf
      induction lw with
      | nil => simp at hp
      | cons a r ih =>
        simp only [keysW, List.map_cons, List.nodup_cons] at hn
        rcases List.mem_cons.1 hp with rfl | hp'
        · rcases List.mem_cons.1 hqm with h' | h'
          · exact h'
          · exact absurd (List.mem_map.2 ⟨q, h', hq⟩) hn.1
        · rcases List.mem_cons.1 hqm with h' | h'
          · subst h'
            exact absurd (List.mem_map.2 ⟨p, hp', hq.symm⟩) hn.1
          · exact ih hn.2 hp' h'
    rw [this]
    rfl
theorem put_lw {lw : LW} (hn : (keysW lw).Nodup) (x : A6) (m : Nat) : put (lwV lw) x (iv (getN lw x + m)) = lwV (addN lw x m) := by
  unfold put addN
  rw [lwV_keys]
  split
  · unfold lwV
    rw [List.map_map, List.map_map]
    refine List.map_congr_left fun p hp => ?_
    simp only [Function.comp]
    split
    · rename_i h
      have := getN_in hn hp
      rw [h] at this
      rw [this]
    · rfl
  · rename_i h
    have h0 : getN lw x = 0 := by
      unfold getN
      rw [List.find?_eq_none.2]
      · rfl
      · intro p hp he
        exact h (List.mem_map.2 ⟨p, hp, by simpa using he⟩)
    rw [h0, Nat.zero_add]
    simp [lwV]
theorem addN_keys {lw : LW} {x : A6} {m : Nat} : keysW (addN lw x m) = if x ∈ keysW lw then keysW lw else keysW lw ++ [x] := by
  unfold addN
  split
  · unfold keysW
    rw [List.map_map]
    refine List.map_congr_left fun p hp => ?_
    simp only [Function.comp]
    split
    · rename_i h; exact h.symm
    · rfl
  · simp [keysW]
theorem addN_nodup {lw : LW} (hn : (keysW lw).Nodup) (x : A6) (m : Nat) : (keysW (addN lw x m)).Nodup := by
  rw [addN_keys]
  split
  · exact hn
  · rename_i h
    rw [List.nodup_append]
    exact ⟨hn, by simp, fun a ha y hy e => by simp at hy; subst hy; subst e; exact h ha⟩
theorem getN_add0 {lw : LW} (hn : (keysW lw).Nodup) (x : A6) : getN (addN lw x 0) x = getN lw x := by
  by_cases h : x ∈ keysW lw
  · obtain ⟨p, hp, rfl⟩ := List.mem_map.1 h
    have hm : p ∈ addN lw p.1 0 := by
      unfold addN
      rw [if_pos h]
      exact List.mem_map.2 ⟨p, hp, by simp⟩
    rw [getN_in (addN_nodup hn _ _) hm, getN_in hn hp]
  · have h0 : getN lw x = 0 := by
      unfold getN
      rw [List.find?_eq_none.2]
      · rfl
      · intro p hp he
        exact h (List.mem_map.2 ⟨p, hp, by simpa using he⟩)
    have hm : (x, 0) ∈ addN lw x 0 := by
      unfold addN
      rw [if_neg h]
      simp
    rw [h0]
    exact getN_in (addN_nodup hn x 0) hm
theorem wsum_add (F : A6 → Nat) {lw : LW} (hn : (keysW lw).Nodup) (x : A6) (m : Nat) : wsum F (addN lw x m) = wsum F lw + F x * m := by
  unfold addN
  split
  · rename_i h
    induction lw with
    | nil => simp [keysW] at h
    | cons a r ih =>
      have hn' := hn
      simp only [keysW, List.map_cons, List.nodup_cons] at hn'
      unfold wsum
      rw [List.map_cons, List.map_cons, List.sum_cons, List.map_cons, List.sum_cons]
      by_cases e : a.1 = x
      · rw [if_pos e]
        have hr : (r.map fun p => if p.1 = x then (x, p.2 + m) else p) = r := by
          conv => rhs; rw [← List.map_id r]
          refine List.map_congr_left fun p hp => ?_
          rw [if_neg fun c => hn'.1 (by rw [e, ← c]; exact List.mem_map.2 ⟨p, hp, rfl⟩)]
          rfl
        rw [hr, e, Nat.mul_add]
        show F x * a.2 + F x * m + _ = F x * a.2 + _ + F x * m
        omega
      · rw [if_neg e]
        have hx : x ∈ keysW r := by
          simp only [keysW, List.map_cons, List.mem_cons] at h
          rcases h with h | h
          · exact absurd h.symm e
          · exact h
        have := ih hn'.2 hx
        unfold wsum at this
        rw [this]
        omega
  · unfold wsum
    rw [List.map_append, List.sum_append]
    simp
theorem wsum_split (F : A6 → Nat) (pre post : LW) (p : A6 × Nat) : wsum F (pre ++ p :: post) = wsum F (pre ++ post) + F p.1 * p.2 := by
  unfold wsum
  simp only [List.map_append, List.map_cons, List.sum_append, List.sum_cons]
  omega
theorem wsum_mem (F : A6 → Nat) {lw : LW} {p : A6 × Nat} (h : p ∈ lw) : F p.1 * p.2 ≤ wsum F lw := by
  obtain ⟨a, b, rfl⟩ := List.append_of_mem h
  rw [wsum_split]
  omega
def setsTo (k f : Nat) (x : A6) (m : Nat) (ln : LW) : Nat → LW
  | 0 => ln
  | s + 1 => if okS k f s && canL x.1 s then addN (setsTo k f x m ln s) (sub6 x s) m else setsTo k f x m ln s
theorem setsTo_nodup {k f : Nat} {x : A6} {m : Nat} {ln : LW} (hn : (keysW ln).Nodup) : ∀ s, (keysW (setsTo k f x m ln s)).Nodup
  | 0 => hn
  | s + 1 => by
    unfold setsTo
    split
    · exact addN_nodup (setsTo_nodup hn s) _ _
    · exact setsTo_nodup hn s
theorem setsTo_sum (F : A6 → Nat) {k f : Nat} {x : A6} {m : Nat} {ln : LW} (hn : (keysW ln).Nodup) : ∀ s, wsum F (setsTo k f x m ln s) = wsum F ln + ((List.range s).map fun s => if okS k f s && canL x.1 s then F (sub6 x s) else 0).sum * m
  | 0 => by simp [setsTo]
  | s + 1 => by
    rw [List.range_succ, List.map_append, List.sum_append]
    unfold setsTo
    have ih := setsTo_sum F (k := k) (f := f) (x := x) (m := m) hn s
    by_cases h : (okS k f s && canL x.1 s) = true
    · rw [if_pos h, wsum_add F (setsTo_nodup hn s), ih]
      simp only [List.map_cons, List.map_nil, List.sum_cons, List.sum_nil, if_pos h, Nat.add_mul]
      omega
    · rw [if_neg h, ih]
      simp only [List.map_cons, List.map_nil, List.sum_cons, List.sum_nil, if_neg h]
      simp
theorem sum_le_range (g : Nat → Nat) (h : ∀ s, g s ≤ 1) : ∀ n, ((List.range n).map g).sum ≤ n
  | 0 => by simp
  | n + 1 => by
    rw [List.range_succ, List.map_append, List.sum_append]
    have := sum_le_range g h n
    have := h n
    simp only [List.map_cons, List.map_nil, List.sum_cons, List.sum_nil]
    omega
theorem setsTo_le {k f : Nat} {x : A6} {m : Nat} {ln : LW} (hn : (keysW ln).Nodup) (s : Nat) : wsum (fun _ => 1) (setsTo k f x m ln s) ≤ wsum (fun _ => 1) ln + s * m := by
  rw [setsTo_sum _ hn]
  have := Nat.mul_le_mul_right m (sum_le_range (fun s => if okS k f s && canL x.1 s then 1 else 0) (fun s => by split <;> omega) s)
  omega
theorem setsTo_ways {n k f : Nat} {r : List (Nat × Nat)} {x : A6} {m : Nat} {ln : LW} (hn : (keysW ln).Nodup) : wsum (fun y => ways n r y.1) (setsTo k f x m ln (2 ^ n)) = wsum (fun y => ways n r y.1) ln + ways n ((k, f) :: r) x.1 * m := by
  rw [setsTo_sum _ hn]
  rfl
theorem okA_sub {x : A6} (h : okA x) (s : Nat) : okA (sub6 x s) := subL_le h
end Go.Proofs.Ytbdmmikflkpmpaa
end

section
namespace Go.Proofs.Ytbdmmikflkpmpaa
open Go.RowKit Go.TL Go.Shelf Go.Pn
attribute [local go_sem] Oper.semAt_some
attribute [local go_sem] run_store_func
noncomputable abbrev ccode : Code := Try.f17.body.getD .skip
noncomputable abbrev cround : Code := sub ccode [1, 1, 1, 1, 1, 1, 1, 0, 1, 0, 0, 1, 1, 0, 0, 1, 1, 0, 1, 0, 0, 1, 1, 0, 1, 1, 0, 0, 1, 1, 0, 0]
theorem map_book {W : World} {b : Nat} {l : List (A6 × Value)} (h : MapR encA okA W b l) : ∀ j o, some b = some j → W.heap[j]? = some o → book o = false := by
  intro j o e ho
  obtain ⟨es, c, hb, _⟩ := h
  cases e
  rw [hb] at ho
  cases ho
  rfl
theorem six_get {W : World} {b : Nat} {a c d e f g : Nat} (h : W.heap[b]? = some (.cells #[iv a, iv c, iv d, iv e, iv f, iv g] 88 (0, 0))) : W.cell? ⟨b, 0, none⟩ = some (iv a) ∧ W.cell? ⟨b, 1, none⟩ = some (iv c) ∧ W.cell? ⟨b, 2, none⟩ = some (iv d) ∧ W.cell? ⟨b, 3, none⟩ = some (iv e) ∧ W.cell? ⟨b, 4, none⟩ = some (iv f) ∧ W.cell? ⟨b, 5, none⟩ = some (iv g) :=
  ⟨cells_get (cs := [_, _, _, _, _, _]) (k := 0) h rfl, cells_get (cs := [_, _, _, _, _, _]) (k := 1) h rfl, cells_get (cs := [_, _, _, _, _, _]) (k := 2) h rfl, cells_get (cs := [_, _, _, _, _, _]) (k := 3) h rfl, cells_get (cs := [_, _, _, _, _, _]) (k := 4) h rfl, cells_get (cs := [_, _, _, _, _, _]) (k := 5) h rfl⟩
def SixAt (W : World) (b : Nat) (a c d e f g : Nat) : Prop := W.cell? ⟨b, 0, none⟩ = some (iv a) ∧ W.cell? ⟨b, 1, none⟩ = some (iv c) ∧ W.cell? ⟨b, 2, none⟩ = some (iv d) ∧ W.cell? ⟨b, 3, none⟩ = some (iv e) ∧ W.cell? ⟨b, 4, none⟩ = some (iv f) ∧ W.cell? ⟨b, 5, none⟩ = some (iv g)
set_option maxRecDepth 100000 in
set_option maxHeartbeats 2000000 in
theorem cnt_add {W : World} {x : A6} {bn b13 m : Nat} {ln : LW} (hn : (keysW ln).Nodup) (hx : okA x) (hM : MapR encA okA W bn (lwV ln)) (h13 : W.heap[b13]? = some (.cells (x.1.map iv).toArray 88 (0, 0))) (hne : b13 ≠ bn) (hg : getN ln x + m < 2 ^ 60) {pp b10 i kd N s : Nat} {u1 u2 u3 u6 u30 u31 u39 : Value} {t : Array Value} (hSl : Slots (none :: some (u1) :: some (u2) :: some (u3) :: some (.pointer (some ⟨pp, 0, none⟩)) :: none :: some (u6) :: some (iv i) :: some (iv kd) :: some (.map (some bn)) :: some (.pointer (some ⟨b10, 0, none⟩)) :: some (iv m) :: none :: some (.pointer (some ⟨b13, 0, none⟩)) :: o16 (some (u30) :: some (u31) :: some (iv i) :: none :: none :: o4 (some (u39) :: o4 (o4 (some (u64 N) :: some (u64 s) :: none :: o4 (o4 (o4 (o16 (o16 []))))))))) t) {Q : Exit → Array Value → World → Prop}
    (hR : ∀ t W', W.grownBy W' (some bn) → MapR encA okA W' bn (lwV (addN ln x m)) → Slots (none :: some (u1) :: some (u2) :: some (u3) :: some (.pointer (some ⟨pp, 0, none⟩)) :: none :: some (u6) :: some (iv i) :: some (iv kd) :: some (.map (some bn)) :: some (.pointer (some ⟨b10, 0, none⟩)) :: some (iv m) :: none :: none :: o16 (some (u30) :: some (u31) :: some (iv i) :: none :: none :: o4 (some (u39) :: o4 (o4 (some (u64 N) :: some (u64 s) :: none :: o4 (o4 (o4 (o16 (o16 []))))))))) t → Q .normal t W') :
    Exec Try.prog none (sub cround [1, 1, 1, 1, 0]) t W Q := by
  have hu88 := Try.underlying88
  have hu89 := Try.underlying89
  obtain ⟨l, hl⟩ := x
  obtain ⟨y0, y1, y2, y3, y4, y5, rfl⟩ := six hl
  obtain ⟨X6, hX6⟩ : ∃ X6 : A6, X6 = ⟨[y0, y1, y2, y3, y4, y5], hl⟩ := ⟨_, rfl⟩
  rw [← hX6] at hx hg hR
  have henc : encA X6 = .agg #[iv y0, iv y1, iv y2, iv y3, iv y4, iv y5] := by rw [hX6]; rfl
  have hput := put_lw hn X6 m
  have hat := at_lw ln X6
  generalize getN ln X6 = g at *
  have hlook : ∀ Z, (∃ l', MapR encA okA Z bn l' ∧ (at? l' X6).getD (iv 0) = iv g) → (Instr.lookup 89 (.map (some bn)) (.agg #[iv y0, iv y1, iv y2, iv y3, iv y4, iv y5]) false).run Try.prog Z = .ok (iv g) Z := fun Z ⟨l', h1, h2⟩ => by
    have := MapR.lookup (P := Try.prog) h1 keyA hu89 (z := .int .i64 0) (e := 3) rfl hx false
    rw [henc] at this
    rw [this]
    show Result.ok ((at? l' X6).getD (iv 0)) Z = _
    rw [h2]
  have hSix : SixAt W b13 y0 y1 y2 y3 y4 y5 := six_get h13
  obtain ⟨x, hx⟩ := Slots.open_ hSl; simp only [fill, Nat.reduceAdd] at hx; subst hx; clear hSl
  show Exec _ _ (Code.region _ _ true) _ _ _
  refine region_of_tail 7 (by kernel_rfl) (by kernel_rfl) (by kernel_rfl) (fun Z => SixAt Z b13 y0 y1 y2 y3 y4 y5 ∧ ∃ l', MapR encA okA Z bn l' ∧ (at? l' X6).getD (iv 0) = iv g) (fun _ _ _ => False) (fun _ _ _ h => h.elim) fun ds => ?_
  have hd : Below W.heap.size W W.drew := (Below.refl _ W).drew
  have hMd : MapR encA okA W.drew bn (lwV ln) := hM.kept (hd.block _ hM.lt)
  have h13d : W.drew.heap[b13]? = some (.cells #[iv y0, iv y1, iv y2, iv y3, iv y4, iv y5] 88 (0, 0)) := (hd.block _ (heap_lt h13)).trans h13
  have hS : SixAt W.drew b13 y0 y1 y2 y3 y4 y5 ∧ ∃ l', MapR encA okA W.drew bn l' ∧ (at? l' X6).getD (iv 0) = iv g := ⟨six_get h13d, _, hMd, hat⟩
  have hw : IntKind.i64.wrap ((g : Int) + m) = ((g + m : Nat) : Int) := by rw [IntWalk.i64_in _ (by omega)]; norm_cast
  refine held_take 0 (.map (some bn)) rfl (by kernel_rfl) (by kernel_rfl) (by kernel_rfl) (by intro _ _ _ h; first | exact h | (simpa [behind, Act.put] using h)) rfl (by first | exact hS | assumption) (fun wq hq => ?_) ?_; (focus (first | rfl | (simp [go_sem]; done))); simp only [Act.put, Array.getInternal_eq_getElem, List.take_succ_cons, List.take_zero, List.take_nil, List.getElem_toArray, List.getElem_cons_succ, List.getElem_cons_zero, List.setIfInBounds_toArray, List.set_cons_succ, List.set_cons_zero]
  refine held_take 1 (.agg #[iv y0, iv y1, iv y2, iv y3, iv y4, iv y5]) rfl (by kernel_rfl) (by kernel_rfl) (by kernel_rfl) (by intro _ _ _ h; first | exact h | (simpa [behind, Act.put] using h)) rfl (by first | exact hS | assumption) (fun wq hq => ?_) ?_; (focus (simp [go_sem, hu88, hq.1.1, hq.1.2.1, hq.1.2.2.1, hq.1.2.2.2.1, hq.1.2.2.2.2.1, hq.1.2.2.2.2.2]; done)); simp only [Act.put, Array.getInternal_eq_getElem, List.take_succ_cons, List.take_zero, List.take_nil, List.getElem_toArray, List.getElem_cons_succ, List.getElem_cons_zero, List.setIfInBounds_toArray, List.set_cons_succ, List.set_cons_zero]
  refine held_take 2 (iv g) rfl (by kernel_rfl) (by kernel_rfl) (by kernel_rfl) (by intro _ _ _ h; first | exact h | (simpa [behind, Act.put] using h)) rfl (by first | exact hS | assumption) (fun wq hq => ?_) ?_; (focus (simp [go_sem, hlook wq hq.2]; done)); simp only [Act.put, Array.getInternal_eq_getElem, List.take_succ_cons, List.take_zero, List.take_nil, List.getElem_toArray, List.getElem_cons_succ, List.getElem_cons_zero, List.setIfInBounds_toArray, List.set_cons_succ, List.set_cons_zero]
  refine held_take 3 (iv m) rfl (by kernel_rfl) (by kernel_rfl) (by kernel_rfl) (by intro _ _ _ h; first | exact h | (simpa [behind, Act.put] using h)) rfl (by first | exact hS | assumption) (fun wq hq => ?_) ?_; (focus (first | rfl | (simp [go_sem]; done))); simp only [Act.put, Array.getInternal_eq_getElem, List.take_succ_cons, List.take_zero, List.take_nil, List.getElem_toArray, List.getElem_cons_succ, List.getElem_cons_zero, List.setIfInBounds_toArray, List.set_cons_succ, List.set_cons_zero]
  refine held_take 4 (iv (g + m)) rfl (by kernel_rfl) (by kernel_rfl) (by kernel_rfl) (by intro _ _ _ h; first | exact h | (simpa [behind, Act.put] using h)) rfl (by first | exact hS | assumption) (fun wq hq => ?_) ?_; (focus (simp [go_sem, hw]; done)); simp only [Act.put, Array.getInternal_eq_getElem, List.take_succ_cons, List.take_zero, List.take_nil, List.getElem_toArray, List.getElem_cons_succ, List.getElem_cons_zero, List.setIfInBounds_toArray, List.set_cons_succ, List.set_cons_zero]
  obtain ⟨W1, st, hrun, hg1, hM1, hst⟩ := mapR_entry (P := Try.prog) hMd keyA hu89 (z := .int .i64 0) rfl hx
  have hat' : (at? (lwV ln) X6).getD (.int .i64 0) = iv g := hat
  rw [henc, hat'] at hrun
  rw [hat'] at hM1
  have hp0 : put (lwV ln) X6 (iv g) = lwV (addN ln X6 0) := by
    have := put_lw hn X6 0
    have hgg := at_lw ln X6
    rw [hat] at hgg
    simp only [Value.int.injEq, Int.natCast_inj, true_and] at hgg
    rw [← hgg] at this
    exact this
  have hat0 : (at? (lwV (addN ln X6 0)) X6).getD (iv 0) = iv g := by
    rw [at_lw, getN_add0 hn, ← at_lw]
    exact hat
  rw [hp0] at hM1
  have h131 : W1.heap[b13]? = some (.cells #[iv y0, iv y1, iv y2, iv y3, iv y4, iv y5] 88 (0, 0)) := (hg1.block _ (heap_lt h13d) (fun e => hne (Option.some.inj e))).trans h13d
  have hS1 : SixAt W1 b13 y0 y1 y2 y3 y4 y5 ∧ ∃ l', MapR encA okA W1 bn l' ∧ (at? l' X6).getD (iv 0) = iv g := ⟨six_get h131, _, hM1, hat0⟩
  refine held_mk 5 (.tuple #[iv g, .int .i64 st]) W1 rfl (by kernel_rfl) rfl (by simp [go_sem, hrun]) hS1 ?_
  simp only [Act.put, Array.getInternal_eq_getElem, List.take_succ_cons, List.take_zero, List.take_nil, List.getElem_toArray, List.getElem_cons_succ, List.getElem_cons_zero, List.setIfInBounds_toArray, List.set_cons_succ, List.set_cons_zero]
  refine held_take 6 (.int .i64 st) rfl (by kernel_rfl) (by kernel_rfl) (by kernel_rfl) (by intro _ _ _ h; first | exact h | (simpa [behind, Act.put] using h)) rfl (by first | exact hS | assumption) (fun wq hq => ?_) ?_; (focus (simp [go_sem]; done)); simp only [Act.put, Array.getInternal_eq_getElem, List.take_succ_cons, List.take_zero, List.take_nil, List.getElem_toArray, List.getElem_cons_succ, List.getElem_cons_zero, List.setIfInBounds_toArray, List.set_cons_succ, List.set_cons_zero]
  refine held_done (by kernel_rfl) ?_
  refine behind_normal 1 (by kernel_rfl) ?_
  obtain ⟨W3, hrun3, hM3, hg3⟩ := hst W1 rfl (iv (g + m))
  have hrun3' : (Instr.entryStore 89 (.map (some bn)) (.int .i64 st) (iv (g + m))).run Try.prog W1 = .ok () W3 := hrun3
  refine any_skip 7 (W3) rfl (by kernel_rfl) rfl (by simp [go_sem, hrun3']) ?_; simp only [Act.put, Array.getInternal_eq_getElem, List.take_succ_cons, List.take_zero, List.take_nil, List.getElem_toArray, List.getElem_cons_succ, List.getElem_cons_zero, List.setIfInBounds_toArray, List.set_cons_succ, List.set_cons_zero]
  have hgd : W.grownBy W.drew (some bn) := ⟨rfl, rfl, rfl, Nat.le_refl _, fun _ _ _ => rfl⟩
  have hgA := (hgd.trans hg1).trans hg3
  refine any_done (by kernel_rfl) ⟨rfl, (Keep.refl W).grown hgA (map_book hM), ?_⟩
  refine hR _ W3 hgA ?_ (by simp [Slots, Fits])
  rw [hput] at hM3
  exact hM3
end Go.Proofs.Ytbdmmikflkpmpaa
end

section
namespace Go.Proofs.Ytbdmmikflkpmpaa
open Go.RowKit Go.TL Go.Shelf Go.Pn
attribute [local go_sem] Oper.semAt_some
attribute [local go_sem] run_store_func
theorem getN_le (ln : LW) (x : A6) : getN ln x ≤ wsum (fun _ => 1) ln := by
  unfold getN
  cases hf : ln.find? (fun p => decide (p.1 = x)) with
  | none => exact Nat.zero_le _
  | some p =>
    have := wsum_mem (fun _ => 1) (List.mem_of_find?_eq_some hf)
    simpa using this
theorem map_nodup {W : World} {b : Nat} {ln : LW} (h : MapR encA okA W b (lwV ln)) : (keysW ln).Nodup := by
  obtain ⟨es, c, _, R⟩ := h
  have := R.nodup
  rwa [lwV_keys] at this
theorem grownBy_below {W W' : World} {g : Option Nat} (h : Below W.heap.size W W') : W.grownBy W' g := ⟨h.os, h.tape, h.output, h.size, fun i hi _ => h.block i hi⟩
def cntS (k f : Nat) (x : A6) (m : Nat) (ln : LW) (s : Nat) : LW := if okS k f s && canL x.1 s then addN ln (sub6 x s) m else ln
set_option maxRecDepth 100000 in
set_option maxHeartbeats 2000000 in
theorem cnt_round {V0 : World} {pp : Nat} {P : Pnl} {mm : PM} (hP : PnlAt V0 pp P mm) {W : World} (hV : Below V0.heap.size V0 W) {bn b10 : Nat} (hbn : V0.heap.size ≤ bn) {x : A6} (hx : okA x) (h10 : W.heap[b10]? = some (.cells (x.1.map iv).toArray 88 (0, 0))) (hne : b10 ≠ bn) {ln : LW} (hM : MapR encA okA W bn (lwV ln)) {i kd m N s : Nat} (hi : i < P.needs.length) (hs : s < 64) (hb : wsum (fun _ => 1) ln + m < 2 ^ 59)
    {u1 u2 u3 u6 u30 u31 u39 : Value} {t : Array Value} (hSl : Slots (none :: some (u1) :: some (u2) :: some (u3) :: some (.pointer (some ⟨pp, 0, none⟩)) :: none :: some (u6) :: some (iv i) :: some (iv kd) :: some (.map (some bn)) :: some (.pointer (some ⟨b10, 0, none⟩)) :: some (iv m) :: none :: none :: o16 (some (u30) :: some (u31) :: some (iv i) :: none :: none :: o4 (some (u39) :: o4 (o4 (some (u64 N) :: some (u64 s) :: none :: o4 (o4 (o4 (o16 (o16 []))))))))) t) {Q : Exit → Array Value → World → Prop}
    (hR : ∀ e t W', e = .normal ∨ e = .exit 5 → W.grownBy W' (some bn) → MapR encA okA W' bn (lwV (cntS kd (P.fit.getD i 0) x m ln s)) → Slots (none :: some (u1) :: some (u2) :: some (u3) :: some (.pointer (some ⟨pp, 0, none⟩)) :: none :: some (u6) :: some (iv i) :: some (iv kd) :: some (.map (some bn)) :: some (.pointer (some ⟨b10, 0, none⟩)) :: some (iv m) :: none :: none :: o16 (some (u30) :: some (u31) :: some (iv i) :: none :: none :: o4 (some (u39) :: o4 (o4 (some (u64 N) :: some (u64 s) :: none :: o4 (o4 (o4 (o16 (o16 []))))))))) t → Q e t W') :
    Exec Try.prog none cround t W Q := by
  have hu88 := Try.underlying88
  have hu75 := Try.underlying75
  have hu73 := Try.underlying73
  have hiI : (i : Int) < P.needs.length := by omega
  have hifl : i < P.fit.length := by rw [hP.fl]; exact hi
  obtain ⟨f, hfe⟩ : ∃ f, P.fit.getD i 0 = f := ⟨_, rfl⟩
  have hflt : f < 2 ^ 64 := by rw [← hfe]; exact hP.fb _ (mem_getD hifl)
  obtain ⟨ad, hA, hcf⟩ := row_u64 hP.rf hifl
  have he3 := cells_get (cs := [_, _, _, _]) (k := 3) hP.heap rfl
  rw [hfe] at hcf hR
  rw [hA] at he3
  clear hfe hA
  obtain ⟨LN, hLN⟩ : ∃ LN, cntS kd f x m ln s = LN := ⟨_, rfl⟩
  rw [hLN] at hR
  have HLN := Lib.hid hLN
  clear hLN
  obtain ⟨l, hl⟩ := x
  obtain ⟨x0, x1, x2, x3, x4, x5, rfl⟩ := six hl
  obtain ⟨x, hx⟩ := Slots.open_ hSl; simp only [fill, Nat.reduceAdd] at hx; subst hx; clear hSl
  show Exec _ _ (Code.seq _ _) _ _ _
  refine exec_seq (exec_region_o fun ds => ?_)
  gi_wp2
  refine eq_mk (Keep.refl _) ?_
  show Exec _ _ (Code.seq (Code.seq _ _) _) _ _ _
  refine exec_seq (exec_seq (exec_region_o fun ds => ?_))
  gi_wp2_with fail
  refine ⟨trivial, rfl, (callsIn_wide.2 (size55 s (by omega) W)).mono ?_⟩
  rintro e X ⟨rfl, hwx⟩
  have hVX := hV.trans (hwx.mono hV.size)
  have hMX : MapR encA okA X bn (lwV ln) := hM.kept (hwx.block _ hM.lt)
  have h10X : X.heap[b10]? = some (.cells #[iv x0, iv x1, iv x2, iv x3, iv x4, iv x5] 88 (0, 0)) := (hwx.block _ (heap_lt h10)).trans h10
  have hgX : W.grownBy X (some bn) := grownBy_below hwx
  have g3 := (Grow.of_below (B := 0) hVX).cell he3
  have gf := (Grow.of_below (B := 0) hVX).cell hcf
  have hKX := Keep.of_below hwx
  clear hM h10 hV he3 hcf hwx
  obtain ⟨z, hz⟩ : ∃ z, pop s = z := ⟨_, rfl⟩
  have hok : okS kd f s = (decide (z = kd) && ((s &&& (2 ^ 64 - 1 - f)) == 0)) := by
    rw [← hz]
    unfold okS
    congr 1
  simp only [hz]
  clear hz
  have han : bits .andNot .u64 (s : Int) (f : Int) = ((s &&& (2 ^ 64 - 1 - f) : Nat) : Int) := andNot_nat s f (by omega) hflt
  obtain ⟨q, hq⟩ : ∃ q, s &&& (2 ^ 64 - 1 - f) = q := ⟨_, rfl⟩
  rw [hq] at han hok
  clear hq
  have HOK := Lib.hid hok
  clear hok
  have hno : okS kd f s = false → LN = ln := fun h => by
    rw [← HLN.out]
    unfold cntS
    rw [h]
    rfl
  have HNO := Lib.hid hno
  clear hno
  by_cases hpk : z = kd
  · subst hpk
    gi_wp2
    refine eq_mk hKX ?_
    show Exec _ _ (Code.cond _ _ _) _ _ _
    cases hqz : (q == 0) with
    | false =>
      have hq0 : q ≠ 0 := by simpa using hqz
      refine exec_cond (b := true) (by first | (show Value.bool (decide _) = _; simp [hq0]; done) | (show Value.bool (!decide _) = _; simp [hq0]; done) | (show Value.bool (!(_ == _)) = _; simp [hq0]; done)) (fun _ => exec_exit ?_) (fun h => by cases h)
      refine hR _ _ X (.inr rfl) hgX ?_ (by simp [Slots, Fits])
      rw [HNO.out (by rw [HOK.out, hqz]; simp)]
      exact hMX
    | true =>
      have hq0 : q = 0 := by simpa using hqz
      subst hq0
      have hok1 : okS z f s = true := by rw [HOK.out]; simp
      refine exec_cond (b := false) rfl (fun h => by cases h) (fun _ => exec_skip ?_)
      clear g3 gf HOK HNO hKX han
      show Exec _ _ (Code.seq _ _) _ _ _
      obtain ⟨e0, e1, e2, e3, e4, e5⟩ := six_get h10X
      have hless := less64 [x0, x1, x2, x3, x4, x5] rfl s (by omega) hx X
      refine exec_seq (exec_region_o fun ds => ?_)
      gi_wp2_with fail
      refine ⟨trivial, rfl, (callsIn_wide.2 hless).mono ?_⟩
      rintro e Y ⟨⟨y, rfl, hy⟩, hxy⟩
      have hMY : MapR encA okA Y bn (lwV ln) := hMX.kept (hxy.block _ hMX.lt)
      have hgY := hgX.trans (grownBy_below hxy)
      have hKY := Keep.of_below hxy
      clear hless e0 e1 e2 e3 e4 e5 hMX hgX h10X
      obtain ⟨ly, hly⟩ := y
      obtain ⟨y0, y1, y2, y3, y4, y5, rfl⟩ := six hly
      obtain ⟨c, hc⟩ : ∃ c, canL [x0, x1, x2, x3, x4, x5] s = c := ⟨_, rfl⟩
      rw [hc] at hy ⊢
      have HC := Lib.hid hc
      have HY := Lib.hid hy
      clear hc hy
      simp only [encA, List.map_cons, List.map_nil]
      gi_wp2
      refine eq_mk (hKY.alloc _) ?_
      show Exec _ _ (Code.seq _ _) _ (Y.alloc (.cells #[iv y0, iv y1, iv y2, iv y3, iv y4, iv y5] 88)) _
      have hal := (Below.refl Y.heap.size Y).alloc (Nat.le_refl _) (.cells #[iv y0, iv y1, iv y2, iv y3, iv y4, iv y5] 88)
      have h13 : (Y.alloc (.cells #[iv y0, iv y1, iv y2, iv y3, iv y4, iv y5] 88)).heap[Y.heap.size]? = some (.cells #[iv y0, iv y1, iv y2, iv y3, iv y4, iv y5] 88 (0, 0)) := World.alloc_heap_new _ _
      have hMZ : MapR encA okA (Y.alloc (.cells #[iv y0, iv y1, iv y2, iv y3, iv y4, iv y5] 88)) bn (lwV ln) := hMY.kept (hal.block _ hMY.lt)
      have hgZ := hgY.trans (grownBy_below (g := some bn) hal)
      have hbY := hMY.lt
      clear hal hMY hgY hKY
      generalize Y.alloc (.cells #[iv y0, iv y1, iv y2, iv y3, iv y4, iv y5] 88) = Z at *
      generalize Y.heap.size = b13 at *
      refine exec_seq (exec_region_o fun ds => ?_)
      gi_wp2
      refine eq_mk (Keep.refl _) ?_
      show Exec _ _ (Code.cond _ _ _) _ _ _
      cases c with
      | false =>
        refine exec_cond (b := false) rfl (fun h => by cases h) (fun _ => exec_skip ?_)
        refine hR _ _ Z (.inl rfl) hgZ ?_ (by simp [Slots, Fits])
        have : LN = ln := by
          rw [← HLN.out]
          unfold cntS
          rw [hok1, show canL (⟨[x0, x1, x2, x3, x4, x5], hl⟩ : A6).1 s = false from HC.out]
          rfl
        rw [this]
        exact hMZ
      | true =>
        have hsub : (⟨[y0, y1, y2, y3, y4, y5], hly⟩ : A6) = sub6 ⟨[x0, x1, x2, x3, x4, x5], hl⟩ s := Subtype.ext (HY.out rfl)
        have hLN : LN = addN ln ⟨[y0, y1, y2, y3, y4, y5], hly⟩ m := by
          rw [← HLN.out]
          unfold cntS
          rw [hok1, show canL (⟨[x0, x1, x2, x3, x4, x5], hl⟩ : A6).1 s = true from HC.out, hsub]
          rfl
        have hoy : okA ⟨[y0, y1, y2, y3, y4, y5], hly⟩ := by
          rw [hsub]
          exact okA_sub hx s
        refine exec_cond (b := true) rfl (fun _ => ?_) (fun h => by cases h)
        have hgl := getN_le ln ⟨[y0, y1, y2, y3, y4, y5], hly⟩
        refine cnt_add (b13 := b13) (m := m) (kd := z) (i := i) (N := N) (s := s) (pp := pp) (b10 := b10) (u1 := u1) (u2 := u2) (u3 := u3) (u6 := u6) (u30 := u30) (u31 := u31) (u39 := u39) (map_nodup hMZ) hoy hMZ h13 (by omega) (by omega) (by simp [Slots, Fits]) ?_
        intro t W' hg' hM' hSl'
        rw [hLN] at hR
        exact hR _ _ W' (.inl rfl) (hgZ.trans hg') hM' hSl'
  · have hok0 : okS kd f s = false := by rw [HOK.out]; simp [hpk]
    clear HOK han
    have hpkI : ¬ ((z : Int) = kd) := by omega
    gi_wp2
    refine eq_mk hKX ?_
    show Exec _ _ (Code.cond _ _ _) _ _ _
    refine exec_cond (b := true) rfl (fun _ => exec_exit ?_) (fun h => by cases h)
    refine hR _ _ X (.inr rfl) hgX ?_ (by simp [Slots, Fits])
    rw [HNO.out hok0]
    exact hMX
end Go.Proofs.Ytbdmmikflkpmpaa
end
