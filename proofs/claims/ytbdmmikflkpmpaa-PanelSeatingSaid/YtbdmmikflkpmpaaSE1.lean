/- PanelSeating returns true for all panels and other sets, in whatever order Go evaluates what it leaves open; no condition. -/
import Derived.Test.YtbdmmikflkpmpaaProg
import Derived.Test.YtbdmmikflkpmpaaNA1
import Derived.Test.YtbdmmikflkpmpaaWV1
import Derived.Test.YtbdmmikflkpmpaaNA3
import Derived.Test.YtbdmmikflkpmpaaNA4
import Derived.Maps.AppendAt
import Derived.Test.YtbdmmikflkpmpaaNA2
import Derived.WalkKit
import Derived.WalkSpells
import Derived.WalkLawsBesides
import Derived.Outline
import Derived.OwnWalkIn
import Derived.TacticsInMore
import Derived.LoopNIn
import Derived.LoopIn
import Derived.Shelf.RegionOpen
import Derived.Deep.QuietTactic
import Derived.BigQuiet
import Derived.Lib.Hide
import Derived.Test.YtbdmmikflkpmpaaRows
import Derived.ProofKit
import Derived.OpenShut
import Derived.ShutString
import Derived.ChangeOld
import Derived.Below
import Derived.SizedLaws
section
set_option linter.unusedVariables false
set_option linter.unusedSimpArgs false
namespace Go.Proofs.Ytbdmmikflkpmpaa
open Go.RowKit Go.TL Go.Shelf Go.Pn
attribute [local go_sem] Oper.semAt_some
attribute [local go_sem] run_store_func
theorem sitG_lex (n : Nat) : ∀ (r : List (Nat × Nat)) (l t : List Nat), t ∈ seqs n r.length → okL r l t = true → ∀ i, i < r.length → (∀ k, k < i → (sitG n r l).getD k 0 = t.getD k 0) → (sitG n r l).getD i 0 ≤ t.getD i 0
  | [], l, t, _, _, i, hi, _ => absurd hi (Nat.not_lt_zero _)
  | x :: r, l, t, ht, hok, i, hi, heq => by
    obtain ⟨s0, hs0, ht⟩ := List.mem_flatMap.1 ht
    obtain ⟨u, hu, rfl⟩ := List.mem_map.1 ht
    have hok' : (okS x.1 x.2 s0 && canL l s0 && okL r (subL l s0) u) = true := hok
    have hq0 : (okS x.1 x.2 s0 && canL l s0 && (seqs n r.length).any (okL r (subL l s0))) = true := by
      rw [Bool.and_eq_true] at hok' ⊢
      exact ⟨hok'.1, List.any_eq_true.2 ⟨u, hu, hok'.2⟩⟩
    rw [Bool.and_eq_true] at hok'
    have hd : sitG n (x :: r) l = (match (List.range (2 ^ n)).find? (fun s => okS x.1 x.2 s && canL l s && (seqs n r.length).any (okL r (subL l s))) with | some s => s :: sitG n r (subL l s) | none => sitG n r l) := rfl
    cases hq : (List.range (2 ^ n)).find? (fun s => okS x.1 x.2 s && canL l s && (seqs n r.length).any (okL r (subL l s))) with
    | none => exact absurd hq0 (by simpa using List.find?_eq_none.1 hq s0 hs0)
    | some s =>
      rw [hq] at hd
      simp only at hd
      obtain ⟨_, _, hmin⟩ := range_find hq
      rw [hd] at heq ⊢
      match i with
      | 0 =>
        show s ≤ s0
        refine Nat.le_of_not_lt fun hlt => ?_
        have := hmin s0 hlt
        simp only [hq0] at this
        cases this
      | i + 1 =>
        have e0 : s = s0 := heq 0 (by omega)
        subst e0
        exact sitG_lex n r _ u hu hok'.2 i (by simpa using hi) fun k hk => heq (k + 1) (by omega)
theorem sit_tie {a : XP} (hf : a.Fine) (hc : canV (toP a.s3) = true) : ∀ k, k ≤ a.N.length → (seqs a.L.length ((nf (toP a.s3)).drop k).length).any (okL ((nf (toP a.s3)).drop k) (sitFold a k).2) = true ∧ (sitFold a k).1 ++ sitG a.L.length ((nf (toP a.s3)).drop k) (sitFold a k).2 = sitG a.L.length (nf (toP a.s3)) a.s3.1
  | 0, _ => by
    have hF := toP_Fit (XP.good hf)
    have := hc
    rw [can_seqs hF, ← nf_len hF] at this
    have hL : (toP a.s3).loads.length = a.L.length := by simp [toP, XP.s3]
    rw [hL] at this
    exact ⟨this, rfl⟩
  | k + 1, hk => by
    obtain ⟨h1, h2⟩ := sit_tie hf hc k (by omega)
    have hF := toP_Fit (XP.good hf)
    have hnl : (toP a.s3).needs.length = a.N.length := by simp [toP, XP.s3]
    have hx := nf_get hF (i := k) (by omega)
    have hkl := (List.getElem?_eq_some_iff.1 hx).1
    have hdr : (nf (toP a.s3)).drop k = ((toP a.s3).needs.getD k 0, (toP a.s3).fit.getD k 0) :: (nf (toP a.s3)).drop (k + 1) := by
      rw [List.drop_eq_getElem_cons hkl, (List.getElem?_eq_some_iff.1 hx).2]
    rw [hdr] at h1 h2
    have hd : sitG a.L.length (((toP a.s3).needs.getD k 0, (toP a.s3).fit.getD k 0) :: (nf (toP a.s3)).drop (k + 1)) (sitFold a k).2 = (match (List.range (2 ^ a.L.length)).find? (okTry a k (sitFold a k).2) with | some s => s :: sitG a.L.length ((nf (toP a.s3)).drop (k + 1)) (subL (sitFold a k).2 s) | none => sitG a.L.length ((nf (toP a.s3)).drop (k + 1)) (sitFold a k).2) := rfl
    rw [hd] at h2
    rw [sitFold_succ]
    unfold sitStep
    cases hq : (List.range (2 ^ a.L.length)).find? (okTry a k (sitFold a k).2) with
    | none =>
      exfalso
      obtain ⟨t, ht, hok⟩ := List.any_eq_true.1 h1
      obtain ⟨s, hs, ht⟩ := List.mem_flatMap.1 ht
      obtain ⟨u, hu, rfl⟩ := List.mem_map.1 ht
      have hok' : (okS ((toP a.s3).needs.getD k 0) ((toP a.s3).fit.getD k 0) s && canL (sitFold a k).2 s && okL ((nf (toP a.s3)).drop (k + 1)) (subL (sitFold a k).2 s) u) = true := hok
      rw [Bool.and_eq_true] at hok'
      have := List.find?_eq_none.1 hq s hs
      refine this ?_
      unfold okTry
      rw [hok'.1, Bool.true_and]
      exact List.any_eq_true.2 ⟨u, hu, hok'.2⟩
    | some s =>
      rw [hq] at h2
      simp only at h2
      obtain ⟨_, hs, _⟩ := range_find hq
      unfold okTry at hs
      rw [Bool.and_eq_true] at hs
      refine ⟨hs.2, ?_⟩
      rw [← h2]
      simp
/-- What is told of the first seating. -/
structure SeFacts (a : XP) (l : List Nat) : Prop where
  mem : l ∈ seqs a.L.length a.N.length
  ok : okL (nf (toP a.s3)) a.s3.1 l = true
  lex : ∀ t ∈ seqs a.L.length a.N.length, okL (nf (toP a.s3)) a.s3.1 t = true → ∀ i, i < a.N.length → (∀ k, k < i → l.getD k 0 = t.getD k 0) → l.getD i 0 ≤ t.getD i 0
  one : 1 ≤ countF a
  two : ∀ t ∈ seqs a.L.length a.N.length, okL (nf (toP a.s3)) a.s3.1 t = true → l ≠ t → 1 < countF a
theorem len_two {l : List (List Nat)} {x y : List Nat} (hx : x ∈ l) (hy : y ∈ l) (h : x ≠ y) : 1 < l.length := by
  match l, hx, hy with
  | [z], hx, hy =>
    rw [List.mem_singleton] at hx hy
    exact absurd (hx.trans hy.symm) h
  | _ :: _ :: _, _, _ => simp
theorem count_is {a : XP} (hf : a.Fine) : countF a = ((seqs a.L.length a.N.length).filter (okL (nf (toP a.s3)) a.s3.1)).length := by
  have hF := toP_Fit (XP.good hf)
  have hnl : (toP a.s3).needs.length = a.N.length := by simp [toP, XP.s3]
  unfold countF
  rw [ways_count, nf_len hF, hnl]
  congr 1
  refine List.filter_congr fun t _ => okL_congr fun j _ => ?_
  unfold padL
  rw [List.getD_eq_getElem?_getD, List.getD_eq_getElem?_getD]
  rcases Nat.lt_or_ge j a.s3.1.length with h | h
  · rw [List.getElem?_append_left h]
  · rw [List.getElem?_append_right h, List.getElem?_replicate, List.getElem?_eq_none h]
    split <;> rfl
theorem sit_facts {a : XP} (hf : a.Fine) (hc : canV (toP a.s3) = true) : SeFacts a (sitFold a a.N.length).1 := by
  have hF := toP_Fit (XP.good hf)
  have hnl : (toP a.s3).needs.length = a.N.length := by simp [toP, XP.s3]
  have hnf : (nf (toP a.s3)).length = a.N.length := by rw [nf_len hF, hnl]
  obtain ⟨_, h2⟩ := sit_tie hf hc a.N.length (Nat.le_refl _)
  obtain ⟨h0, _⟩ := sit_tie hf hc 0 (Nat.zero_le _)
  rw [List.drop_of_length_le (by omega)] at h2
  have h3 : (sitFold a a.N.length).1 = sitG a.L.length (nf (toP a.s3)) a.s3.1 := by
    rw [← h2]
    simp [sitG]
  have h4 := sitG_is a.L.length (nf (toP a.s3)) a.s3.1 h0
  rw [← h3, hnf] at h4
  have hmem := List.mem_of_find?_eq_some h4
  have hok : okL (nf (toP a.s3)) a.s3.1 (sitFold a a.N.length).1 = true := List.find?_some h4
  refine ⟨hmem, hok, fun t ht hto i hi he => ?_, ?_, fun t ht hto hne => ?_⟩
  · rw [h3] at he ⊢
    exact sitG_lex a.L.length _ _ t (by rw [hnf]; exact ht) hto i (by omega) he
  · rw [count_is hf]
    exact List.length_pos_of_mem (List.mem_filter.2 ⟨hmem, hok⟩)
  · rw [count_is hf]
    exact len_two (List.mem_filter.2 ⟨hmem, hok⟩) (List.mem_filter.2 ⟨ht, hto⟩) hne
theorem no_seating {a : XP} (hf : a.Fine) (hc : canV (toP a.s3) = false) : countF a = 0 ∧ ∀ t ∈ seqs a.L.length a.N.length, okL (nf (toP a.s3)) a.s3.1 t = false := by
  have hF := toP_Fit (XP.good hf)
  have hnl : (toP a.s3).needs.length = a.N.length := by simp [toP, XP.s3]
  have hL : (toP a.s3).loads.length = a.L.length := by simp [toP, XP.s3]
  have h := hc
  rw [can_seqs hF, hL, hnl, List.any_eq_false] at h
  refine ⟨?_, fun t ht => (by have h9 : ¬ okL (nf (toP a.s3)) a.s3.1 t = true := h t ht; simpa using h9)⟩
  rw [count_is hf, List.length_eq_zero_iff, List.filter_eq_nil_iff]
  exact fun t ht => h t ht
/-! ### who must sit, who never can -/
theorem pair_must {P : Pnl} (hP : PFit P) {g : Asg} (hs : Seating P g) {p j : Nat} (hp : p < P.needs.length) (hj : j < P.loads.length) (h : g p j = false) : pairV P p j ≠ 2 := by
  have hj6 := hP.ok.j
  have hc : canV (pairP1 P p j) = true := by
    refine (can_is (P := pairP1 P p j) ⟨hP.ok.j, hP.ok.p⟩).2 ⟨g, ⟨⟨fun q i hq hi hg => ?_, hs.feas.load⟩, hs.eq⟩⟩
    have hb := hs.feas.fit q i hq hi hg
    show ((P.fit.set p (clrB (P.fit.getD p 0) j)).getD q 0).testBit i = true
    rw [getD_set]
    split
    · rename_i hpq
      obtain ⟨rfl, _⟩ := hpq
      rw [clrB_bit _ _ _ (hP.lt p) (by omega), hb, Bool.true_and]
      have : j ≠ i := fun e => by
        subst e
        rw [h] at hg
        cases hg
      rw [decide_eq_false this]
      rfl
    · exact hb
  unfold pairV
  rw [hc]
  simp only [Bool.not_true, Bool.false_eq_true, if_false]
  split <;> omega
theorem pair_never {P : Pnl} (hP : PFit P) {g : Asg} (hs : Seating P g) {p j : Nat} (hp : p < P.needs.length) (hj : j < P.loads.length) (h : g p j = true) : pairV P p j ≠ 0 := by
  have hj6 := hP.ok.j
  have hfit := hs.feas.fit p j hp hj h
  have hld := hs.feas.load j hj
  have hnd := hs.eq p hp
  have h1 := sumN_mem (f := fun q => b1 (g q j)) hp
  have h2 := sumN_mem (f := fun i => b1 (g p i)) hj
  simp only [h, b1, if_true] at h1 h2
  have hld' : 0 < P.loads.getD j 0 := Nat.lt_of_lt_of_le h1 hld
  have hnd' : 0 < P.needs.getD p 0 := by
    rw [← hnd]
    exact h2
  have hB : pairB P p j = true := by
    unfold pairB
    rw [hfit, decide_eq_true hld', decide_eq_true hnd']
    rfl
  have hc : canV (pairP2 P p j) = true := by
    have hll : (P.loads.set j (P.loads.getD j 0 - 1)).length = P.loads.length := List.length_set
    have hnl : (P.needs.set p (P.needs.getD p 0 - 1)).length = P.needs.length := List.length_set
    refine (can_is (P := pairP2 P p j) ⟨by show (P.loads.set _ _).length ≤ 6; rw [hll]; exact hP.ok.j, by show (P.needs.set _ _).length ≤ 6; rw [hnl]; exact hP.ok.p⟩).2 ⟨fun q i => g q i && !(decide (q = p) && decide (i = j)), ⟨⟨fun q i hq hi hg => ?_, fun i hi => ?_⟩, fun q hq => ?_⟩⟩
    · rw [Bool.and_eq_true] at hg
      have hq' : q < P.needs.length := by rw [← hnl]; exact hq
      have hi' : i < P.loads.length := by rw [← hll]; exact hi
      have hb := hs.feas.fit q i hq' hi' hg.1
      show ((P.fit.set p (clrB (P.fit.getD p 0) j)).getD q 0).testBit i = true
      rw [getD_set]
      split
      · rename_i hpq
        obtain ⟨rfl, _⟩ := hpq
        rw [clrB_bit _ _ _ (hP.lt p) (by omega), hb, Bool.true_and]
        have : j ≠ i := fun e => by
          subst e
          simp at hg
        rw [decide_eq_false this]
        rfl
      · exact hb
    · have hi' : i < P.loads.length := by rw [← hll]; exact hi
      show sumN (fun q => b1 (g q i && !(decide (q = p) && decide (i = j)))) (P.needs.set p _).length ≤ (P.loads.set j (P.loads.getD j 0 - 1)).getD i 0
      rw [hnl, getD_set]
      have hli := hs.feas.load i hi'
      by_cases e : j = i
      · subst e
        rw [if_pos ⟨rfl, hj⟩]
        have := sumN_upd (fun q => b1 (g q j && !(decide (q = p) && decide (j = j)))) (fun q => b1 (g q j)) p 1 P.needs.length (fun q _ hne => by simp [hne]) (fun _ => by simp [h, b1])
        rw [if_pos hp] at this
        have hli' : sumN (fun q => b1 (g q j)) P.needs.length ≤ P.loads.getD j 0 := hli
        omega
      · rw [if_neg fun c => e c.1]
        refine Nat.le_trans (sumN_le _ fun q _ => ?_) hli
        simp [show ¬ i = j from fun c => e c.symm]
    · have hq' : q < P.needs.length := by rw [← hnl]; exact hq
      show sumN (fun i => b1 (g q i && !(decide (q = p) && decide (i = j)))) (P.loads.set j _).length = (P.needs.set p (P.needs.getD p 0 - 1)).getD q 0
      rw [hll, getD_set]
      have hqe := hs.eq q hq'
      by_cases e : p = q
      · subst e
        rw [if_pos ⟨rfl, hp⟩]
        have := sumN_upd (fun i => b1 (g p i && !(decide (p = p) && decide (i = j)))) (fun i => b1 (g p i)) j 1 P.loads.length (fun i _ hne => by simp [hne]) (fun _ => by simp [h, b1])
        rw [if_pos hj] at this
        have hqe' : sumN (fun i => b1 (g p i)) P.loads.length = P.needs.getD p 0 := hqe
        omega
      · rw [if_neg fun c => e c.1, ← hqe]
        refine sumN_congr _ fun i _ => ?_
        simp [show ¬ q = p from fun c => e c.symm]
  unfold pairV
  rw [hB, hc]
  split <;> simp
theorem pair_bits {a : XP} (hf : a.Fine) {t : List Nat} (ht : t ∈ seqs a.L.length a.N.length) (hok : okL (nf (toP a.s3)) a.s3.1 t = true) {p j : Nat} (hp : p < a.N.length) (hj : j < a.L.length) : (pairV (toP a.s3) p j = 2 → (t.getD p 0).testBit j = true) ∧ (pairV (toP a.s3) p j = 0 → (t.getD p 0).testBit j = false) := by
  have hF := toP_Fit (XP.good hf)
  have hnl : (toP a.s3).needs.length = a.N.length := by simp [toP, XP.s3]
  have hL : (toP a.s3).loads.length = a.L.length := by simp [toP, XP.s3]
  have hs : Seating (toP a.s3) (asg t) := (seat_iff hF (by rw [hL, hnl]; exact ht)).1 hok
  constructor
  · intro h
    cases hb : (t.getD p 0).testBit j with
    | true => rfl
    | false => exact absurd h (pair_must hF hs (by omega) (by omega) hb)
  · intro h
    cases hb : (t.getD p 0).testBit j with
    | false => rfl
    | true => exact absurd h (pair_never hF hs (by omega) (by omega) hb)
end Go.Proofs.Ytbdmmikflkpmpaa
end

section
set_option linter.unusedVariables false
set_option linter.unusedSimpArgs false
namespace Go.Proofs.Ytbdmmikflkpmpaa
open Go.RowKit Go.TL Go.Shelf Go.Pn
attribute [local go_sem] Oper.semAt_some
attribute [local go_sem] run_store_func
noncomputable abbrev gcode24 : Code := Try.f24.body.getD .skip
theorem ldc_at {a : XP} (hf : a.Fine) {W : World} (ha : a.At W) {k : Nat} (hk : k < a.L.length) : ∃ ad, a.AL = some ad ∧ W.cell? (ad.add k) = some (iv (a.s3.1.getD k 0)) := by
  obtain ⟨ad, hA, hc⟩ := row_int ha.l hk
  refine ⟨ad, hA, ?_⟩
  rw [hc]
  have hb := hf.lb _ (List.getElem_mem hk)
  have e : a.s3.1.getD k 0 = (a.L[k]).toNat := by
    show (a.L.map Int.toNat).getD k 0 = _
    rw [List.getD_eq_getElem?_getD, List.getElem?_map, List.getElem?_eq_getElem hk]
    rfl
  rw [e]
  show some (Value.int .i64 _) = some (Value.int .i64 _)
  rw [Int.toNat_of_nonneg hb.1]
theorem ndc_at {a : XP} (hf : a.Fine) {W : World} (ha : a.At W) {k : Nat} (hk : k < a.N.length) : ∃ ad, a.AN = some ad ∧ W.cell? (ad.add k) = some (iv (a.s3.2.1.getD k 0)) := by
  obtain ⟨ad, hA, hc⟩ := row_int ha.n hk
  refine ⟨ad, hA, ?_⟩
  rw [hc]
  have hb := hf.nb _ (List.getElem_mem hk)
  have e : a.s3.2.1.getD k 0 = (a.N[k]).toNat := by
    show (a.N.map Int.toNat).getD k 0 = _
    rw [List.getD_eq_getElem?_getD, List.getElem?_map, List.getElem?_eq_getElem hk]
    rfl
  rw [e]
  show some (Value.int .i64 _) = some (Value.int .i64 _)
  rw [Int.toNat_of_nonneg hb.1]
theorem row_n {W : World} {A : Option Addr} {l : List Nat} (h : RowV W A (l.map iv)) {i : Nat} (hi : i < l.length) : ∃ ad, A = some ad ∧ W.cell? (ad.add i) = some (iv (l.getD i 0)) :=
  h i _ (by rw [List.getElem?_map, List.getElem?_eq_getElem hi, getD_lt hi]; rfl)
/-! ### one more for each who sits -/
def addS (D : List Nat) (s k : Nat) : List Nat := (List.range D.length).map fun i => D.getD i 0 + if decide (i < k) && s.testBit i then 1 else 0
theorem addS_len (D : List Nat) (s k : Nat) : (addS D s k).length = D.length := by simp [addS]
theorem addS_get {D : List Nat} {s k i : Nat} (hi : i < D.length) : (addS D s k)[i]? = some (D.getD i 0 + if decide (i < k) && s.testBit i then 1 else 0) := by
  unfold addS
  rw [List.getElem?_map, List.getElem?_range hi]
  rfl
theorem addS_zero (D : List Nat) (s : Nat) : addS D s 0 = D := by
  refine List.ext_getElem? fun i => ?_
  by_cases hi : i < D.length
  · rw [addS_get hi, List.getElem?_eq_getElem hi, ← getD_lt hi]
    simp
  · rw [List.getElem?_eq_none (by rw [addS_len]; omega), List.getElem?_eq_none (by omega)]
theorem addS_succ {D : List Nat} {s k : Nat} (hk : k < D.length) : addS D s (k + 1) = if s.testBit k then (addS D s k).set k (D.getD k 0 + 1) else addS D s k := by
  refine List.ext_getElem? fun i => ?_
  by_cases hi : i < D.length
  · rw [addS_get hi]
    cases hb : s.testBit k with
    | true =>
      rw [if_pos rfl, List.getElem?_set, addS_len]
      by_cases e : k = i
      · subst e
        simp [hb, hk]
      · rw [if_neg e, addS_get hi]
        have : decide (i < k + 1) = decide (i < k) := decide_eq_decide.2 (by omega)
        rw [this]
    | false =>
      rw [if_neg (show ¬ (false = true) by decide)]
      refine Eq.trans ?_ (addS_get hi).symm
      by_cases e : i = k
      · subst e
        simp [hb]
      · have : decide (i < k + 1) = decide (i < k) := decide_eq_decide.2 (by omega)
        rw [this]
  · rw [List.getElem?_eq_none (by rw [addS_len]; omega)]
    split
    · rw [List.getElem?_eq_none (by rw [List.length_set, addS_len]; omega)]
    · rw [List.getElem?_eq_none (by rw [addS_len]; omega)]
theorem map_setv (l : List Nat) (i v : Nat) : (l.map iv).set i (iv v) = (l.set i v).map iv := (List.map_set).symm
structure SeW (w : World) (a : XP) (g : Nat) (D : List Nat) (W : World) : Prop where
  hb : W.heap[w.heap.size]? = some (.cells #[a.sL, a.sN, a.sK] 25 (0, 0))
  hg : W.heap[g]? = some (.cells (D.map iv).toArray 3 (0, 0))
  below : Below w.heap.size w W
  lt : w.heap.size < g
theorem SeW.keep {w : World} {a : XP} {g : Nat} {D : List Nat} {W W' : World} (h : SeW w a g D W) (hb : Below W.heap.size W W') : SeW w a g D W' := ⟨(hb.block _ (heap_lt h.hb)).trans h.hb, (hb.block _ (heap_lt h.hg)).trans h.hg, h.below.trans (hb.mono h.below.size), h.lt⟩
theorem SeW.px {w : World} {a : XP} {g : Nat} {D : List Nat} {W : World} (h : SeW w a g D W) (ha : a.At w) : PBx W w.heap.size a := ⟨h.hb, ha.below h.below⟩
theorem SeW.set {w : World} {a : XP} {g : Nat} {D : List Nat} {W : World} (h : SeW w a g D W) (k v : Nat) : SeW w a g (D.set k v) (W.setCell ⟨g, k, none⟩ (iv v)) where
  hb := box_far _ _ _ _ _ _ h.hb (by have := h.lt; omega)
  hg := by
    rw [← map_setv]
    exact box_set W g k _ 3 _ h.hg
  below := h.below.setCell (Nat.le_of_lt h.lt) _
  lt := h.lt
def okJ (a : XP) (i : Nat) (D : List Nat) (s k : Nat) : Prop := ∀ j, j < k → s.testBit j = true → kinB a j i = false ∧ D.getD j 0 + 1 ≤ a.s3.1.getD j 0
def JdI (w : World) (a : XP) (g : Nat) (D : List Nat) (A : Option Addr) (nl c i s : Nat) (m : Nat) (t : Array Value) (W : World) : Prop :=
  ∃ k : Nat, k ≤ a.L.length ∧ m = a.L.length - k ∧ okJ a i D s k ∧ SeW w a g (addS D s k) W ∧ Slots (none :: none :: some (.pointer (some ⟨w.heap.size, 0, none⟩)) :: none :: some (.bool false) :: some (.slice (some ⟨g, 0, none⟩) a.L.length a.L.length) :: some (iv i) :: some (iv s) :: none :: none :: none :: o4 (o4 (some (.slice A nl c) :: some (iv nl) :: some (iv i) :: none :: o4 (o4 (o16 (some (iv a.L.length) :: some (iv k) :: none :: none :: none :: o4 (o4 (o4 (o16 []))))))))) t
def JdE (w : World) (a : XP) (g : Nat) (D : List Nat) (A : Option Addr) (nl c i s : Nat) (t : Array Value) (W : World) : Prop :=
  okJ a i D s a.L.length ∧ SeW w a g (addS D s a.L.length) W ∧ Slots (none :: none :: some (.pointer (some ⟨w.heap.size, 0, none⟩)) :: none :: some (.bool false) :: some (.slice (some ⟨g, 0, none⟩) a.L.length a.L.length) :: some (iv i) :: some (iv s) :: none :: none :: none :: o4 (o4 (some (.slice A nl c) :: some (iv nl) :: some (iv i) :: none :: none :: o4 (o4 (o16 (o16 (o16 []))))))) t
def SeX (w : World) (t : Array Value) (W : World) : Prop := Below w.heap.size w W ∧ Slots (o4 (some (.bool false) :: none :: none :: none :: o4 (o4 (o64 [])))) t
set_option maxRecDepth 100000 in
set_option maxHeartbeats 4000000 in
theorem se_judges {w : World} {a : XP} {g : Nat} {D : List Nat} {A : Option Addr} {nl c i s : Nat} (hf : a.Fine) (ha : a.At w) (hD : D.length = a.L.length) (hDb : ∀ j, D.getD j 0 ≤ 6) (hs : s < 64) (hi : i < 6) {W : World} (hV : SeW w a g D W) {t : Array Value} (hSl : Slots (none :: none :: some (.pointer (some ⟨w.heap.size, 0, none⟩)) :: none :: some (.bool false) :: some (.slice (some ⟨g, 0, none⟩) a.L.length a.L.length) :: some (iv i) :: some (iv s) :: none :: none :: none :: o4 (o4 (some (.slice A nl c) :: some (iv nl) :: some (iv i) :: none :: none :: o4 (o4 (o16 (o16 (o16 []))))))) t) :
    Exec Try.prog none (sub gcode24 [1, 1, 1, 0, 1, 0, 0, 1, 1, 0, 0, 1, 1]) t W (andThen (JdE w a g D A nl c i s) fun e t W => e = .ret ∧ ¬ okJ a i D s a.L.length ∧ SeX w t W) := by
  have hu25 := Try.underlying25
  have hu22 := Try.underlying22
  have hj6 := hf.j
  obtain ⟨x, hx⟩ := Slots.open_ hSl; simp only [fill, Nat.reduceAdd] at hx; subst hx; clear hSl
  show Exec _ _ (Code.seq _ (Code.block _ _)) _ _ _
  refine exec_seq (exec_region_o fun ds => ?_)
  gi_wp2
  refine eq_mk (Keep.refl _) ?_
  show Exec _ _ (Code.block _ _) _ _ _
  refine exec_block ?_
  refine exec_loop (JdI w a g D A nl c i s) a.L.length ⟨0, by omega, rfl, fun j h => absurd h (Nat.not_lt_zero _), by rw [addS_zero]; exact hV, by simp [Slots, Fits]⟩ ?_
  clear hV x
  clear W
  rintro m t W ⟨k, hk, hn, hok, hV, hSl⟩
  have HN := Lib.hid hn
  have HOK := Lib.hid hok
  clear hn hok
  obtain ⟨x, hx⟩ := Slots.open_ hSl; simp only [fill, Nat.reduceAdd] at hx; subst hx; clear hSl
  show Exec _ _ (Code.seq _ (Code.seq _ _)) _ _ _
  refine exec_seq (exec_region_o fun ds => ?_)
  gi_wp2
  refine eq_mk (Keep.refl _) ?_
  show Exec _ _ (Code.seq (Code.cond _ _ _) _) _ _ _
  refine exec_seq (exec_cond (b := decide (k < a.L.length)) (by first | rfl | (show Value.bool _ = _; congr 1; exact decide_eq_decide.2 (by omega))) (fun hp => exec_skip ?_) (fun hp => exec_exit ?_))
  · have hkl : k < a.L.length := by have := of_decide_eq_true hp; omega
    have hsucc := addS_succ (s := s) (show k < D.length by omega)
    have hget := addS_get (s := s) (k := k) (show k < D.length by omega)
    rw [decide_eq_false (Nat.lt_irrefl k), Bool.false_and, if_neg (show ¬ (false = true) by decide), Nat.add_zero] at hget
    have hdk := hDb k
    have hokS : ∀ q, s.testBit k = q → (q = true → kinB a k i = false ∧ D.getD k 0 + 1 ≤ a.s3.1.getD k 0) → okJ a i D s (k + 1) := fun q hq h j hj hb => by
      by_cases e : j = k
      · subst e
        exact h (by rw [← hq]; exact hb)
      · exact HOK.out j (by omega) hb
    have hbad : s.testBit k = true → ¬ (kinB a k i = false ∧ D.getD k 0 + 1 ≤ a.s3.1.getD k 0) → ¬ okJ a i D s a.L.length := fun hb h c => h (c k hkl hb)
    obtain ⟨q, hq⟩ : ∃ q, s.testBit k = q := ⟨_, rfl⟩
    have hbit := bit_i s k (by omega)
    rw [hq] at hbit hsucc hbad
    replace hokS := hokS q hq
    obtain ⟨dk, hdkE⟩ : ∃ dk, D.getD k 0 = dk := ⟨_, rfl⟩
    rw [hdkE] at hsucc hget hdk hokS hbad
    clear hq hdkE
    have hll := addS_len D s k
    generalize addS D s k = Dk at *
    have HSU := Lib.hid hsucc
    have HOS := Lib.hid hokS
    have HBD := Lib.hid hbad
    clear hsucc hokS hbad HOK
    show Exec _ _ (Code.seq (Code.block _ _) _) _ _ _
    refine exec_cut (fun t' Y => okJ a i D s (k + 1) ∧ SeW w a g (addS D s (k + 1)) Y ∧ Slots (none :: none :: some (.pointer (some ⟨w.heap.size, 0, none⟩)) :: none :: some (.bool false) :: some (.slice (some ⟨g, 0, none⟩) a.L.length a.L.length) :: some (iv i) :: some (iv s) :: none :: none :: none :: o4 (o4 (some (.slice A nl c) :: some (iv nl) :: some (iv i) :: none :: o4 (o4 (o16 (some (iv a.L.length) :: some (iv k) :: none :: none :: none :: o4 (o4 (o4 (o16 []))))))))) t') (exec_block (exec_seq (exec_region_o fun ds => ?_))) ?_
    · gi_wp2
      refine eq_mk (Keep.refl _) ?_
      show Exec _ _ (Code.seq (Code.seq _ _) _) _ _ _
      refine exec_seq (exec_seq (exec_region_o fun ds => ?_))
      cases q with
      | false =>
        simp only [b1, Bool.false_eq_true, if_false] at hbit
        gi_wp2
        refine eq_mk (Keep.refl _) ?_
        show Exec _ _ (Code.cond _ _ _) _ _ _
        refine exec_cond (b := true) rfl (fun _ => exec_exit ?_) (fun h => by cases h)
        exact ⟨HOS.out (fun h => by cases h), by rw [HSU.out]; exact hV, by simp [Slots, Fits]⟩
      | true =>
        simp only [b1, if_true] at hbit
        gi_wp2
        refine eq_mk (Keep.refl _) ?_
        show Exec _ _ (Code.cond _ _ _) _ _ _
        refine exec_cond (b := false) rfl (fun h => by cases h) (fun _ => exec_skip ?_)
        show Exec _ _ (Code.seq _ (Code.seq _ _)) _ _ _
        clear hbit
        have ck : W.cell? ⟨g, k, none⟩ = some (iv dk) := cells_get (cs := Dk.map iv) hV.hg (by rw [List.getElem?_map, hget]; rfl)
        have cf : W.frozen? ⟨g, k, none⟩ = false := frozen_cells hV.hg
        have hw : IntKind.i64.wrap ((dk : Int) + 1) = ((dk + 1 : Nat) : Int) := by rw [IntWalk.i64_in _ (by omega)]; norm_cast
        have hkI : (k : Int) < a.L.length := by omega
        refine exec_seq (exec_region_o fun ds => ?_)
        gi_wp2
        refine eq_mk ((Keep.refl _).setCell _ _) ?_
        show Exec _ _ (Code.seq _ _) _ _ _
        have hVX := hV.set k (dk + 1)
        have hcx : (W.setCell ⟨g, k, none⟩ (iv (dk + 1))).cell? ⟨g, k, none⟩ = some (iv (dk + 1)) := cells_get (cs := (Dk.set k (dk + 1)).map iv) hVX.hg (by rw [List.getElem?_map, List.getElem?_set, if_pos rfl, if_pos (by omega)]; rfl)
        rw [← show addS D s (k + 1) = Dk.set k (dk + 1) from HSU.out] at hVX
        clear hV ck cf hw hget HSU
        have hiv : iv (dk + 1) = Value.int .i64 ((dk : Int) + 1) := by show Value.int _ _ = _; norm_cast
        rw [hiv] at hVX hcx
        generalize W.setCell ⟨g, k, none⟩ (.int .i64 ((dk : Int) + 1)) = X at *
        rw [← hiv] at hcx
        clear W
        obtain ⟨ad, hA, hld⟩ := ldc_at hf (ha.below hVX.below) hkl
        obtain ⟨r, hr⟩ : ∃ r, kinB a k i = r := ⟨_, rfl⟩
        have hcall := fun (Y : World) (h : PBx Y w.heap.size a) => kin29 a k i Y h.at_
        simp only [hr] at hcall
        rw [hr] at HOS HBD
        obtain ⟨lk, hlk⟩ : ∃ lk, a.s3.1.getD k 0 = lk := ⟨_, rfl⟩
        rw [hlk] at hld HOS HBD
        clear hr hlk
        have cc : ∀ Y, Below X.heap.size X Y → Y.cell? ⟨g, k, none⟩ = some (iv (dk + 1)) ∧ Y.cell? ⟨w.heap.size, 0, none⟩ = some (.slice (some ad) a.L.length a.cL) ∧ Y.cell? (ad.add k) = some (iv lk) := fun Y hY => by
          have hh := (hVX.keep hY).hb
          simp only [XP.sL, hA] at hh
          exact ⟨(Grow.of_below (B := 0) hY).cell hcx, cells_get (cs := [_, _, _]) hh rfl, (Grow.of_below (B := 0) hY).cell hld⟩
        have dd : ∀ Y, Below X.heap.size X Y → Y.cell? ⟨w.heap.size, 0, none⟩ = some a.sL ∧ Y.cell? ⟨w.heap.size, 1, none⟩ = some a.sN ∧ Y.cell? ⟨w.heap.size, 2, none⟩ = some a.sK := fun Y hY => ⟨cells_get (cs := [_, _, _]) (hVX.keep hY).hb rfl, cells_get (cs := [_, _, _]) (hVX.keep hY).hb rfl, cells_get (cs := [_, _, _]) (hVX.keep hY).hb rfl⟩
        refine exec_seq (region_of_tail 16 (by kernel_rfl) (by kernel_rfl) (by kernel_rfl) (fun Y => Below X.heap.size X Y) (fun _ _ _ => False) (fun _ _ _ h => h.elim) fun ds => ?_)
        have hS : Below X.heap.size X X.drew := (Below.refl _ X).drew
        refine held_take 0 (.slice (some ⟨g, 0, none⟩) a.L.length a.L.length) rfl (by kernel_rfl) (by kernel_rfl) (by kernel_rfl) (by intro _ _ _ h; first | exact h | (simpa [behind, Act.put] using h)) rfl (by first | exact hS | assumption) (fun wq hq => ?_) ?_; (focus (first | rfl | (simp [go_sem]; done))); simp only [Act.put, Array.getInternal_eq_getElem, List.take_succ_cons, List.take_zero, List.take_nil, List.getElem_toArray, List.getElem_cons_succ, List.getElem_cons_zero, List.setIfInBounds_toArray, List.set_cons_succ, List.set_cons_zero]
        refine held_take 1 (iv k) rfl (by kernel_rfl) (by kernel_rfl) (by kernel_rfl) (by intro _ _ _ h; first | exact h | (simpa [behind, Act.put] using h)) rfl (by first | exact hS | assumption) (fun wq hq => ?_) ?_; (focus (first | rfl | (simp [go_sem]; done))); simp only [Act.put, Array.getInternal_eq_getElem, List.take_succ_cons, List.take_zero, List.take_nil, List.getElem_toArray, List.getElem_cons_succ, List.getElem_cons_zero, List.setIfInBounds_toArray, List.set_cons_succ, List.set_cons_zero]
        refine held_take 2 (.pointer (some ⟨g, k, none⟩)) rfl (by kernel_rfl) (by kernel_rfl) (by kernel_rfl) (by intro _ _ _ h; first | exact h | (simpa [behind, Act.put] using h)) rfl (by first | exact hS | assumption) (fun wq hq => ?_) ?_; (focus (simp [go_sem, hu22, hkI]; done)); simp only [Act.put, Array.getInternal_eq_getElem, List.take_succ_cons, List.take_zero, List.take_nil, List.getElem_toArray, List.getElem_cons_succ, List.getElem_cons_zero, List.setIfInBounds_toArray, List.set_cons_succ, List.set_cons_zero]
        refine held_take 3 (iv (dk + 1)) rfl (by kernel_rfl) (by kernel_rfl) (by kernel_rfl) (by intro _ _ _ h; first | exact h | (simpa [behind, Act.put] using h)) rfl (by first | exact hS | assumption) (fun wq hq => ?_) ?_; (focus (simp [go_sem, (cc wq hq).1]; done)); simp only [Act.put, Array.getInternal_eq_getElem, List.take_succ_cons, List.take_zero, List.take_nil, List.getElem_toArray, List.getElem_cons_succ, List.getElem_cons_zero, List.setIfInBounds_toArray, List.set_cons_succ, List.set_cons_zero]
        refine held_take 4 (.pointer (some ⟨w.heap.size, 0, none⟩)) rfl (by kernel_rfl) (by kernel_rfl) (by kernel_rfl) (by intro _ _ _ h; first | exact h | (simpa [behind, Act.put] using h)) rfl (by first | exact hS | assumption) (fun wq hq => ?_) ?_; (focus (simp [go_sem, hu25]; done)); simp only [Act.put, Array.getInternal_eq_getElem, List.take_succ_cons, List.take_zero, List.take_nil, List.getElem_toArray, List.getElem_cons_succ, List.getElem_cons_zero, List.setIfInBounds_toArray, List.set_cons_succ, List.set_cons_zero]
        refine held_take 5 (.slice (some ad) a.L.length a.cL) rfl (by kernel_rfl) (by kernel_rfl) (by kernel_rfl) (by intro _ _ _ h; first | exact h | (simpa [behind, Act.put] using h)) rfl (by first | exact hS | assumption) (fun wq hq => ?_) ?_; (focus (simp [go_sem, (cc wq hq).2.1]; done)); simp only [Act.put, Array.getInternal_eq_getElem, List.take_succ_cons, List.take_zero, List.take_nil, List.getElem_toArray, List.getElem_cons_succ, List.getElem_cons_zero, List.setIfInBounds_toArray, List.set_cons_succ, List.set_cons_zero]
        refine held_take 6 (iv k) rfl (by kernel_rfl) (by kernel_rfl) (by kernel_rfl) (by intro _ _ _ h; first | exact h | (simpa [behind, Act.put] using h)) rfl (by first | exact hS | assumption) (fun wq hq => ?_) ?_; (focus (first | rfl | (simp [go_sem]; done))); simp only [Act.put, Array.getInternal_eq_getElem, List.take_succ_cons, List.take_zero, List.take_nil, List.getElem_toArray, List.getElem_cons_succ, List.getElem_cons_zero, List.setIfInBounds_toArray, List.set_cons_succ, List.set_cons_zero]
        refine held_take 7 (.pointer (some (ad.add k))) rfl (by kernel_rfl) (by kernel_rfl) (by kernel_rfl) (by intro _ _ _ h; first | exact h | (simpa [behind, Act.put] using h)) rfl (by first | exact hS | assumption) (fun wq hq => ?_) ?_; (focus (simp [go_sem, hu22, hkI]; done)); simp only [Act.put, Array.getInternal_eq_getElem, List.take_succ_cons, List.take_zero, List.take_nil, List.getElem_toArray, List.getElem_cons_succ, List.getElem_cons_zero, List.setIfInBounds_toArray, List.set_cons_succ, List.set_cons_zero]
        refine held_take 8 (iv lk) rfl (by kernel_rfl) (by kernel_rfl) (by kernel_rfl) (by intro _ _ _ h; first | exact h | (simpa [behind, Act.put] using h)) rfl (by first | exact hS | assumption) (fun wq hq => ?_) ?_; (focus (simp [go_sem, (cc wq hq).2.2]; done)); simp only [Act.put, Array.getInternal_eq_getElem, List.take_succ_cons, List.take_zero, List.take_nil, List.getElem_toArray, List.getElem_cons_succ, List.getElem_cons_zero, List.setIfInBounds_toArray, List.set_cons_succ, List.set_cons_zero]
        by_cases hgt : lk < dk + 1
        · have hgI : ((lk : Int) < (dk : Int) + 1) := by omega
          refine held_take 9 (.bool true) rfl (by kernel_rfl) (by kernel_rfl) (by kernel_rfl) (by intro _ _ _ h; first | exact h | (simpa [behind, Act.put] using h)) rfl (by first | exact hS | assumption) (fun wq hq => ?_) ?_; (focus (simp [go_sem, hgI]; done)); simp only [Act.put, Array.getInternal_eq_getElem, List.take_succ_cons, List.take_zero, List.take_nil, List.getElem_toArray, List.getElem_cons_succ, List.getElem_cons_zero, List.setIfInBounds_toArray, List.set_cons_succ, List.set_cons_zero]
          refine held_take 10 (.bool true) rfl (by kernel_rfl) (by kernel_rfl) (by kernel_rfl) (by intro _ _ _ h; first | exact h | (simpa [behind, Act.put] using h)) rfl (by first | exact hS | assumption) (fun wq hq => ?_) ?_; (focus (first | rfl | (simp [go_sem]; done))); simp only [Act.put, Array.getInternal_eq_getElem, List.take_succ_cons, List.take_zero, List.take_nil, List.getElem_toArray, List.getElem_cons_succ, List.getElem_cons_zero, List.setIfInBounds_toArray, List.set_cons_succ, List.set_cons_zero]
          refine held_pass 11 rfl (by kernel_rfl) (by kernel_rfl) (by kernel_rfl) (by intro _ _ _ h; exact h) (by kernel_rfl) (by first | exact hS | assumption) ?_; simp only [Act.put, Array.getInternal_eq_getElem, List.take_succ_cons, List.take_zero, List.take_nil, List.getElem_toArray, List.getElem_cons_succ, List.getElem_cons_zero, List.setIfInBounds_toArray, List.set_cons_succ, List.set_cons_zero]
          refine held_pass 12 rfl (by kernel_rfl) (by kernel_rfl) (by kernel_rfl) (by intro _ _ _ h; exact h) (by kernel_rfl) (by first | exact hS | assumption) ?_; simp only [Act.put, Array.getInternal_eq_getElem, List.take_succ_cons, List.take_zero, List.take_nil, List.getElem_toArray, List.getElem_cons_succ, List.getElem_cons_zero, List.setIfInBounds_toArray, List.set_cons_succ, List.set_cons_zero]
          refine held_pass 13 rfl (by kernel_rfl) (by kernel_rfl) (by kernel_rfl) (by intro _ _ _ h; exact h) (by kernel_rfl) (by first | exact hS | assumption) ?_; simp only [Act.put, Array.getInternal_eq_getElem, List.take_succ_cons, List.take_zero, List.take_nil, List.getElem_toArray, List.getElem_cons_succ, List.getElem_cons_zero, List.setIfInBounds_toArray, List.set_cons_succ, List.set_cons_zero]
          refine held_pass 14 rfl (by kernel_rfl) (by kernel_rfl) (by kernel_rfl) (by intro _ _ _ h; exact h) (by kernel_rfl) (by first | exact hS | assumption) ?_; simp only [Act.put, Array.getInternal_eq_getElem, List.take_succ_cons, List.take_zero, List.take_nil, List.getElem_toArray, List.getElem_cons_succ, List.getElem_cons_zero, List.setIfInBounds_toArray, List.set_cons_succ, List.set_cons_zero]
          refine held_take 15 (.bool true) rfl (by kernel_rfl) (by kernel_rfl) (by kernel_rfl) (by intro _ _ _ h; first | exact h | (simpa [behind, Act.put] using h)) rfl (by first | exact hS | assumption) (fun wq hq => ?_) ?_; (focus (simp [go_sem]; done)); simp only [Act.put, Array.getInternal_eq_getElem, List.take_succ_cons, List.take_zero, List.take_nil, List.getElem_toArray, List.getElem_cons_succ, List.getElem_cons_zero, List.setIfInBounds_toArray, List.set_cons_succ, List.set_cons_zero]
          refine held_done (by kernel_rfl) ?_
          refine any_done (by kernel_rfl) ⟨rfl, Keep.of_below hS, ?_⟩
          show Exec _ _ (Code.cond _ _ _) _ _ _
          refine exec_cond (b := true) rfl (fun _ => ?_) (fun h => by cases h)
          refine exec_seq (exec_region_o fun ds => ?_)
          gi_wp2
          refine eq_mk (Keep.refl _) ?_
          show Exec _ _ _ _ _ _
          exact exec_ret ⟨rfl, HBD.out (by trivial) (fun c => by omega), (hVX.keep hS).below, by simp [Slots, Fits]⟩
        · have hgI : ¬ ((lk : Int) < (dk : Int) + 1) := by omega
          refine held_take 9 (.bool false) rfl (by kernel_rfl) (by kernel_rfl) (by kernel_rfl) (by intro _ _ _ h; first | exact h | (simpa [behind, Act.put] using h)) rfl (by first | exact hS | assumption) (fun wq hq => ?_) ?_; (focus (simp [go_sem, hgI]; done)); simp only [Act.put, Array.getInternal_eq_getElem, List.take_succ_cons, List.take_zero, List.take_nil, List.getElem_toArray, List.getElem_cons_succ, List.getElem_cons_zero, List.setIfInBounds_toArray, List.set_cons_succ, List.set_cons_zero]
          refine held_take 10 (.bool false) rfl (by kernel_rfl) (by kernel_rfl) (by kernel_rfl) (by intro _ _ _ h; first | exact h | (simpa [behind, Act.put] using h)) rfl (by first | exact hS | assumption) (fun wq hq => ?_) ?_; (focus (first | rfl | (simp [go_sem]; done))); simp only [Act.put, Array.getInternal_eq_getElem, List.take_succ_cons, List.take_zero, List.take_nil, List.getElem_toArray, List.getElem_cons_succ, List.getElem_cons_zero, List.setIfInBounds_toArray, List.set_cons_succ, List.set_cons_zero]
          refine held_take 11 (.agg #[a.sL, a.sN, a.sK]) rfl (by kernel_rfl) (by kernel_rfl) (by kernel_rfl) (by intro _ _ _ h; exact h) (by kernel_rfl) (by first | exact hS | assumption) (fun wq hq => ?_) ?_; (focus (simp [go_sem, hu25, (dd wq hq).1, (dd wq hq).2.1, (dd wq hq).2.2]; done)); simp only [Act.put, Array.getInternal_eq_getElem, List.take_succ_cons, List.take_zero, List.take_nil, List.getElem_toArray, List.getElem_cons_succ, List.getElem_cons_zero, List.setIfInBounds_toArray, List.set_cons_succ, List.set_cons_zero]
          refine held_take 12 (iv k) rfl (by kernel_rfl) (by kernel_rfl) (by kernel_rfl) (by intro _ _ _ h; exact h) (by kernel_rfl) (by first | exact hS | assumption) (fun wq hq => ?_) ?_; (focus (simp [go_sem]; done)); simp only [Act.put, Array.getInternal_eq_getElem, List.take_succ_cons, List.take_zero, List.take_nil, List.getElem_toArray, List.getElem_cons_succ, List.getElem_cons_zero, List.setIfInBounds_toArray, List.set_cons_succ, List.set_cons_zero]
          refine held_take 13 (iv i) rfl (by kernel_rfl) (by kernel_rfl) (by kernel_rfl) (by intro _ _ _ h; exact h) (by kernel_rfl) (by first | exact hS | assumption) (fun wq hq => ?_) ?_; (focus (simp [go_sem]; done)); simp only [Act.put, Array.getInternal_eq_getElem, List.take_succ_cons, List.take_zero, List.take_nil, List.getElem_toArray, List.getElem_cons_succ, List.getElem_cons_zero, List.setIfInBounds_toArray, List.set_cons_succ, List.set_cons_zero]
          refine held_call 14 (f := 29) (args := #[.agg #[a.sL, a.sN, a.sK], iv k, iv i]) rfl (by kernel_rfl) (by kernel_rfl) (by simp [go_sem]) ?_
          refine (hcall X.drew ((hVX.keep hS).px ha)).mono ?_
          rintro e X1 ⟨rfl, hx1⟩
          have k1 : Below X.heap.size X X1 := hS.trans hx1
          refine .inl ⟨_, rfl, k1, ?_⟩
          simp only [Act.put, Array.getInternal_eq_getElem, List.take_succ_cons, List.take_zero, List.take_nil, List.getElem_toArray, List.getElem_cons_succ, List.getElem_cons_zero, List.setIfInBounds_toArray, List.set_cons_succ, List.set_cons_zero]
          refine held_take 15 (.bool r) rfl (by kernel_rfl) (by kernel_rfl) (by kernel_rfl) (by intro _ _ _ h; exact h) (by kernel_rfl) (by first | exact hS | assumption) (fun wq hq => ?_) ?_; (focus (simp [go_sem]; done)); simp only [Act.put, Array.getInternal_eq_getElem, List.take_succ_cons, List.take_zero, List.take_nil, List.getElem_toArray, List.getElem_cons_succ, List.getElem_cons_zero, List.setIfInBounds_toArray, List.set_cons_succ, List.set_cons_zero]
          refine held_done (by kernel_rfl) ?_
          refine any_done (by kernel_rfl) ⟨rfl, Keep.of_below k1, ?_⟩
          show Exec _ _ (Code.cond _ _ _) _ _ _
          cases r with
          | true =>
            refine exec_cond (b := true) rfl (fun _ => ?_) (fun h => by cases h)
            refine exec_seq (exec_region_o fun ds => ?_)
            gi_wp2
            refine eq_mk (Keep.refl _) ?_
            show Exec _ _ _ _ _ _
            exact exec_ret ⟨rfl, HBD.out (by trivial) (fun c => by cases c.1), (hVX.keep k1).below, by simp [Slots, Fits]⟩
          | false =>
            refine exec_cond (b := false) rfl (fun h => by cases h) (fun _ => exec_skip ?_)
            exact ⟨HOS.out (fun _ => ⟨rfl, by omega⟩), hVX.keep k1, by simp [Slots, Fits]⟩
    · clear hV x hbit hget HSU HOS HBD
      clear W
      rintro t' Y ⟨hok, hV, hSl⟩
      have HOK := Lib.hid hok
      clear hok
      obtain ⟨x, hx⟩ := Slots.open_ hSl; simp only [fill, Nat.reduceAdd] at hx; subst hx; clear hSl
      have hw : IntKind.i64.wrap ((k : Int) + 1) = ((k + 1 : Nat) : Int) := by rw [IntWalk.i64_in _ (by omega)]; norm_cast
      refine exec_region_o fun ds => ?_
      gi_wp2
      exact eq_mk (Keep.refl _) ⟨m - 1, by rw [HN.out]; omega, k + 1, by omega, by rw [HN.out]; omega, HOK.out, hV, by simp only [Slots, Fits, and_self]; simp⟩
  · have hkl : k = a.L.length := by have := of_decide_eq_false hp; omega
    subst hkl
    exact ⟨HOK.out, hV, by simp [Slots, Fits]⟩
end Go.Proofs.Ytbdmmikflkpmpaa
end

section
set_option linter.unusedVariables false
set_option linter.unusedSimpArgs false
namespace Go.Proofs.Ytbdmmikflkpmpaa
open Go.RowKit Go.TL Go.Shelf Go.Pn
attribute [local go_sem] Oper.semAt_some
attribute [local go_sem] run_store_func
theorem fit_kin {a : XP} (hf : a.Fine) {i j : Nat} (hi : i < a.N.length) (hj : j < a.L.length) : ((toP a.s3).fit.getD i 0).testBit j = !kinB a j i := by
  have hg := XP.good hf
  have hN : a.s3.2.1.length = a.N.length := by simp [XP.s3]
  have hL : a.s3.1.length = a.L.length := by simp [XP.s3]
  show ((kinF (List.replicate a.s3.2.1.length (2 ^ a.s3.1.length - 1)) a.s3.2.2).getD i 0).testBit j = _
  rw [kinF_bit _ _ (fun k hk => by have := hg.k1 k hk; have := hg.j; omega) (fun q => rep_lt (two_lt hg.j) q) i j (by rw [List.length_replicate, hN]; exact hi)]
  have e1 : ((List.replicate a.s3.2.1.length (2 ^ a.s3.1.length - 1)).getD i 0).testBit j = true := by
    rw [List.getD_eq_getElem?_getD, List.getElem?_replicate, if_pos (by rw [hN]; exact hi)]
    show (2 ^ a.s3.1.length - 1).testBit j = true
    rw [Nat.testBit_two_pow_sub_one, hL, decide_eq_true hj]
  rw [e1, Bool.true_and]
  congr 1
  unfold kinB
  rw [Bool.eq_iff_iff, decide_eq_true_iff, List.any_eq_true]
  constructor
  · intro h
    obtain ⟨k, hk, e⟩ := List.mem_map.1 (show (j, i) ∈ a.K.map fun k => (k.1.toNat, k.2.toNat) from h)
    have := hf.kb k hk
    simp only [Prod.mk.injEq] at e
    refine ⟨k, hk, ?_⟩
    rw [decide_eq_true (by omega), decide_eq_true (by omega)]
    rfl
  · rintro ⟨k, hk, e⟩
    rw [Bool.and_eq_true, decide_eq_true_iff, decide_eq_true_iff] at e
    refine List.mem_map.2 ⟨k, hk, ?_⟩
    rw [e.1, e.2]
    rfl
theorem busyL_snoc (j s : Nat) : ∀ l : List Nat, busyL (l ++ [s]) j = busyL l j + b1 (s.testBit j)
  | [] => by show (if s.testBit j then 1 else 0) + 0 = 0 + b1 _; unfold b1; omega
  | x :: r => by
    show (if x.testBit j then 1 else 0) + busyL (r ++ [s]) j = (if x.testBit j then 1 else 0) + busyL r j + _
    rw [busyL_snoc j s r]
    omega
theorem busyL_take (j : Nat) {l : List Nat} {i : Nat} (hi : i < l.length) : busyL (l.take (i + 1)) j = busyL (l.take i) j + b1 ((l.getD i 0).testBit j) := by
  rw [List.take_succ_eq_append_getElem hi, busyL_snoc, getD_lt hi]
theorem busyL_le (j : Nat) (l : List Nat) : ∀ i, i ≤ l.length → busyL (l.take i) j ≤ i
  | 0, _ => Nat.le_refl _
  | i + 1, h => by
    have := busyL_le j l i (by omega)
    rw [busyL_take j (by omega)]
    unfold b1
    split <;> omega
theorem busyL_mono (j : Nat) (l : List Nat) (i : Nat) : ∀ k, i + k ≤ l.length → busyL (l.take i) j ≤ busyL (l.take (i + k)) j
  | 0, _ => Nat.le_refl _
  | k + 1, h => by
    have := busyL_mono j l i k (by omega)
    have e := busyL_take j (l := l) (i := i + k) (by omega)
    rw [show i + (k + 1) = i + k + 1 by omega, e]
    omega
def bzL (a : XP) (l : List Nat) (i : Nat) : List Nat := (List.range a.L.length).map fun j => busyL (l.take i) j
theorem bzL_len (a : XP) (l : List Nat) (i : Nat) : (bzL a l i).length = a.L.length := by simp [bzL]
theorem bzL_getD {a : XP} {l : List Nat} {i j : Nat} (hj : j < a.L.length) : (bzL a l i).getD j 0 = busyL (l.take i) j := by
  unfold bzL
  rw [List.getD_eq_getElem?_getD, List.getElem?_map, List.getElem?_range hj]
  rfl
theorem bzL_zero (a : XP) (l : List Nat) : ((bzL a l 0).map iv).toArray = zeroI a.L.length := by
  have h1 : bzL a l 0 = List.replicate a.L.length 0 := by
    refine List.ext_getElem? fun i => ?_
    unfold bzL
    rw [List.getElem?_map, List.getElem?_replicate]
    by_cases hi : i < a.L.length
    · rw [List.getElem?_range hi, if_pos hi]
      rfl
    · rw [List.getElem?_eq_none (by simp; omega), if_neg hi]
      rfl
  apply Array.ext'
  have h2 : (zeroI a.L.length).toList = List.replicate a.L.length (iv 0) := toList_madeCells_one _ _
  rw [h2, h1]
  simp
theorem bzL_succ {a : XP} {l : List Nat} {i : Nat} (hi : i < l.length) : addS (bzL a l i) (l.getD i 0) a.L.length = bzL a l (i + 1) := by
  refine List.ext_getElem? fun j => ?_
  by_cases hj : j < a.L.length
  · rw [addS_get (by rw [bzL_len]; exact hj), bzL_getD hj, decide_eq_true hj, Bool.true_and]
    unfold bzL
    rw [List.getElem?_map, List.getElem?_range hj, Option.map_some, busyL_take j hi]
    rfl
  · rw [List.getElem?_eq_none (by rw [addS_len, bzL_len]; omega), List.getElem?_eq_none (by rw [bzL_len]; omega)]
/-- The first ones are as they must be. -/
def okT (a : XP) (l : List Nat) (i : Nat) : Prop := (∀ p, p < i → okS ((toP a.s3).needs.getD p 0) ((toP a.s3).fit.getD p 0) (l.getD p 0) = true) ∧ ∀ j, j < a.L.length → busyL (l.take i) j ≤ a.s3.1.getD j 0
theorem okT_step {a : XP} (hf : a.Fine) {l : List Nat} {i : Nat} (hi : i < a.N.length) (hl : l.length = a.N.length) (hlt : l.getD i 0 < 2 ^ a.L.length) (h : okT a l i) (hp : pop (l.getD i 0) = a.s3.2.1.getD i 0) (hj : okJ a i (bzL a l i) (l.getD i 0) a.L.length) : okT a l (i + 1) := by
  have hF := toP_Fit (XP.good hf)
  have hj6 := hf.j
  refine ⟨fun p hp' => ?_, fun j hj' => ?_⟩
  · by_cases e : p = i
    · subst e
      refine (okS_iff hj6 hlt (hF.lt p)).2 ⟨?_, fun j hj' hb => ?_⟩
      · rw [← pop_n hlt (by omega), hp]
        rfl
      · rw [fit_kin hf hi hj', (hj j hj' hb).1]
        rfl
    · exact h.1 p (by omega)
  · rw [busyL_take j (by omega)]
    cases hb : (l.getD i 0).testBit j with
    | false => exact h.2 j hj'
    | true =>
      have := (hj j hj' hb).2
      rw [bzL_getD hj'] at this
      exact this
theorem okT_end {a : XP} (hf : a.Fine) {l : List Nat} (hl : l ∈ seqs a.L.length a.N.length) (h : okT a l a.N.length) : okL (nf (toP a.s3)) a.s3.1 l = true := by
  have hF := toP_Fit (XP.good hf)
  have hnl : (toP a.s3).needs.length = a.N.length := by simp [toP, XP.s3]
  obtain ⟨h1, h2⟩ := (mem_seqs _ _ _).1 hl
  refine (okL_iff _ _ _).2 ⟨by rw [nf_len hF, hnl]; exact h1, fun i x s hx hs => ?_, fun j hj => ?_⟩
  · have hi : i < a.N.length := by
      have := (List.getElem?_eq_some_iff.1 hs).1
      omega
    rw [nf_get hF (by omega)] at hx
    cases hx
    have := h.1 i hi
    rw [List.getD_eq_getElem?_getD, List.getD_eq_getElem?_getD, List.getD_eq_getElem?_getD, hs] at this
    rw [List.getD_eq_getElem?_getD, List.getD_eq_getElem?_getD]
    exact this
  · by_cases hj' : j < a.L.length
    · have := h.2 j hj'
      rw [← h1, List.take_length] at this
      exact this
    · have : busyL l j = 0 := by
        rw [busy_sum]
        refine (sumN_congr _ fun p hp => ?_).trans (sumN_zero _)
        cases hb : (l.getD p 0).testBit j with
        | false => rfl
        | true =>
          have := bit_lt (h2 _ (mem_getD hp)) hb
          omega
      omega
theorem okT_bad {a : XP} (hf : a.Fine) {l : List Nat} (hl : l ∈ seqs a.L.length a.N.length) {i : Nat} (hi : i < a.N.length) (hbad : pop (l.getD i 0) ≠ a.s3.2.1.getD i 0 ∨ ¬ okJ a i (bzL a l i) (l.getD i 0) a.L.length) : okL (nf (toP a.s3)) a.s3.1 l = false := by
  have hF := toP_Fit (XP.good hf)
  have hnl : (toP a.s3).needs.length = a.N.length := by simp [toP, XP.s3]
  have hj6 := hf.j
  obtain ⟨h1, h2⟩ := (mem_seqs _ _ _).1 hl
  cases hR : okL (nf (toP a.s3)) a.s3.1 l with
  | false => rfl
  | true =>
    exfalso
    obtain ⟨_, h4, h5⟩ := (okL_iff _ _ _).1 hR
    have hil : i < l.length := by omega
    have hlt := h2 _ (mem_getD hil)
    have hok := h4 i _ _ (nf_get hF (by omega)) (List.getElem?_eq_getElem hil)
    rw [← getD_lt hil] at hok
    have hok' := (okS_iff hj6 hlt (hF.lt i)).1 hok
    refine hbad.elim (fun h => h ?_) (fun h => h fun j hj hb => ⟨?_, ?_⟩)
    · rw [pop_n hlt (by omega), hok'.1]
      rfl
    · have := hok'.2 j hj hb
      rw [fit_kin hf hi hj] at this
      simpa using this
    · rw [bzL_getD hj]
      have e := busyL_take j hil
      rw [hb] at e
      have hm := busyL_mono j l (i + 1) (l.length - (i + 1)) (by omega)
      rw [show i + 1 + (l.length - (i + 1)) = l.length by omega, List.take_length] at hm
      have := h5 j (by omega)
      have e2 : b1 true = 1 := rfl
      omega
def SetI (w : World) (a : XP) (g : Nat) (l : List Nat) (A : Option Addr) (nl c : Nat) (m : Nat) (t : Array Value) (W : World) : Prop :=
  ∃ i : Nat, i ≤ a.N.length ∧ m = a.N.length - i ∧ okT a l i ∧ SeW w a g (bzL a l i) W ∧ Slots (none :: none :: some (.pointer (some ⟨w.heap.size, 0, none⟩)) :: none :: some (.bool false) :: some (.slice (some ⟨g, 0, none⟩) a.L.length a.L.length) :: none :: o4 (o4 (o4 (some (.slice A nl c) :: some (iv nl) :: some (iv i) :: none :: none :: o4 (o4 (o16 (o16 (o16 [])))))))) t
set_option maxRecDepth 100000 in
set_option maxHeartbeats 4000000 in
theorem seated24 (a : XP) (hf : a.Fine) (l : List Nat) (hl : l ∈ seqs a.L.length a.N.length) (A : Option Addr) (c : Nat) (w : World) (ha : a.At w) (hr : RowV w A (l.map iv)) : Calls Try.prog 24 #[a.val, .slice A l.length c] w fun e w' => e = .returned (.bool (okL (nf (toP a.s3)) a.s3.1 l)) ∧ Below w.heap.size w w' := by
  have hu25 := Try.underlying25
  have hu22 := Try.underlying22
  have hj6 := hf.j
  have hn6 := hf.p
  obtain ⟨hl1, hl2⟩ := (mem_seqs _ _ _).1 hl
  obtain ⟨R, hR⟩ : ∃ R, okL (nf (toP a.s3)) a.s3.1 l = R := ⟨_, rfl⟩
  rw [hR]
  have HR := Lib.hid hR
  clear hR
  refine calls_of_exec Try.func24 rfl ?_
  simp only [Try.ntmps24, List.size_toArray, List.length_cons, List.length_nil, Nat.reduceAdd, Nat.reduceSub, Array.replicate_succ, Array.replicate_zero, List.push_toArray, List.append_toArray, List.nil_append, List.cons_append]
  simp only [XP.val, hl1]
  refine exec_seq (exec_region_o fun ds => ?_)
  gi_wp2
  refine eq_mk ((Keep.refl _).alloc _) ?_
  show Exec _ _ (Code.seq (Code.seq _ _) _) _ (w.alloc (.cells #[a.sL, a.sN, a.sK] 25)) _
  have hB := (Below.refl w.heap.size w).alloc (Nat.le_refl _) (.cells #[a.sL, a.sN, a.sK] 25)
  have hX : PBx (w.alloc (.cells #[a.sL, a.sN, a.sK] 25)) w.heap.size a := ⟨World.alloc_heap_new _ _, ha.below hB⟩
  generalize w.alloc (.cells #[a.sL, a.sN, a.sK] 25) = X at *
  have hh := hX.heap
  simp only [XP.sN, XP.sL] at hh
  have c0 := cells_get (cs := [_, _, _]) (k := 0) hh rfl
  have c1 := cells_get (cs := [_, _, _]) (k := 1) hh rfl
  clear hh
  refine exec_seq (exec_seq (exec_region_o fun ds => ?_))
  gi_wp2
  refine eq_mk (Keep.refl _) ?_
  show Exec _ _ (Code.cond _ _ _) _ _ _
  refine exec_cond (b := false) (by first | rfl | (show Value.bool (_ != _) = _; simp)) (fun h => by cases h) (fun _ => exec_skip ?_)
  show Exec _ _ (Code.seq _ (Code.seq (Code.seq _ _) _)) _ _ _
  have hmk := run_make22 a.L.length (by omega) X
  refine exec_seq (exec_region_o fun ds => ?_)
  gi_wp2
  refine eq_mk ((Keep.refl _).alloc _) ?_
  show Exec _ _ (Code.seq (Code.seq _ _) _) _ _ _
  have hV : SeW w a X.heap.size (bzL a l 0) (X.alloc (.cells (zeroI a.L.length) 3)) := ⟨heap_next hX.heap _, by rw [bzL_zero]; exact World.alloc_heap_new _ _, hB.alloc hB.size _, heap_lt hX.heap⟩
  clear c0 c1 hmk hX hB
  generalize X.alloc (.cells (zeroI a.L.length) 3) = Y at *
  generalize X.heap.size = g at *
  clear X
  refine exec_seq (exec_seq (exec_region_o fun ds => ?_))
  gi_wp2
  refine eq_mk (Keep.refl _) ?_
  show Exec _ _ (Code.block _ _) _ _ _
  refine exec_block ?_
  refine exec_loop (SetI w a g l A a.N.length c) a.N.length ⟨0, by omega, rfl, ⟨fun p h => absurd h (Nat.not_lt_zero _), fun j _ => Nat.zero_le _⟩, hV, by simp [Slots, Fits]⟩ ?_
  clear hV
  clear Y
  rintro m t W ⟨i, hi, hn, hok, hV, hSl⟩
  have HN := Lib.hid hn
  have HOK := Lib.hid hok
  clear hn hok
  obtain ⟨x, hx⟩ := Slots.open_ hSl; simp only [fill, Nat.reduceAdd] at hx; subst hx; clear hSl
  show Exec _ _ (Code.seq _ (Code.seq _ _)) _ _ _
  refine exec_seq (exec_region_o fun ds => ?_)
  gi_wp2
  refine eq_mk (Keep.refl _) ?_
  show Exec _ _ (Code.seq (Code.cond _ _ _) _) _ _ _
  refine exec_seq (exec_cond (b := decide (i < a.N.length)) (by first | rfl | (show Value.bool _ = _; congr 1; exact decide_eq_decide.2 (by omega))) (fun hp => exec_skip ?_) (fun hp => exec_exit ?_))
  · have hil : i < a.N.length := by have := of_decide_eq_true hp; omega
    have hiI : (i : Int) < a.N.length := by omega
    obtain ⟨ad, hA, hcl⟩ := row_n (hr.below hV.below) (show i < l.length by omega)
    obtain ⟨ae, hE, hne⟩ := ndc_at hf (ha.below hV.below) hil
    have hstep := okT_step hf hil hl1 (hl2 _ (mem_getD (by omega))) HOK.out
    have hbad := okT_bad hf hl hil
    have hbs := bzL_succ (a := a) (l := l) (i := i) (by omega)
    have hslt := hl2 _ (mem_getD (show i < l.length by omega))
    have hDl := bzL_len a l i
    have hDb : ∀ j, (bzL a l i).getD j 0 ≤ 6 := fun j => by
      by_cases hj : j < a.L.length
      · rw [bzL_getD hj]
        have := busyL_le j l i (by omega)
        omega
      · rw [List.getD_eq_getElem?_getD, List.getElem?_eq_none (by rw [hDl]; omega)]
        exact Nat.zero_le _
    obtain ⟨s, hs⟩ : ∃ s, l.getD i 0 = s := ⟨_, rfl⟩
    rw [hs] at hcl hstep hbad hslt hbs
    rw [HR.out] at hbad
    obtain ⟨nd, hnd⟩ : ∃ nd, a.s3.2.1.getD i 0 = nd := ⟨_, rfl⟩
    rw [hnd] at hne hstep hbad
    clear hs hnd
    have hs64 : s < 64 := Nat.lt_of_lt_of_le hslt (Nat.pow_le_pow_right (n := 2) (by omega) hj6)
    generalize bzL a l i = D at *
    have HST := Lib.hid hstep
    have HBD := Lib.hid hbad
    have HBS := Lib.hid hbs
    clear hstep hbad hbs
    simp only [hA]
    have HAd := Lib.hid hA
    clear hA
    show Exec _ _ (Code.seq (Code.block _ _) _) _ _ _
    refine exec_cut (fun t' Y => okT a l (i + 1) ∧ SeW w a g (bzL a l (i + 1)) Y ∧ Slots (none :: none :: some (.pointer (some ⟨w.heap.size, 0, none⟩)) :: none :: some (.bool false) :: some (.slice (some ⟨g, 0, none⟩) a.L.length a.L.length) :: none :: o4 (o4 (o4 (some (.slice (some ad) a.N.length c) :: some (iv a.N.length) :: some (iv i) :: none :: none :: o4 (o4 (o16 (o16 (o16 [])))))))) t') (exec_block (exec_seq (exec_region_o fun ds => ?_))) ?_
    · gi_wp2
      refine eq_mk (Keep.refl _) ?_
      show Exec _ _ (Code.seq (Code.seq _ _) _) _ _ _
      obtain ⟨ps, hps⟩ : ∃ ps, pop s = ps := ⟨_, rfl⟩
      have hcall := fun (Y : World) => size30 s (by omega) Y
      simp only [hps] at hcall
      rw [hps] at HST HBD
      clear hps
      have hlt0 : ¬ ((s : Int) < 0) := by omega
      have hsd : (s : Int) / (2 : Int) ^ a.L.length = 0 := by
        rw [div_pow_cast, Nat.div_eq_of_lt hslt]
        rfl
      have cc : ∀ Y, Below W.heap.size W Y → Y.cell? ⟨w.heap.size, 0, none⟩ = some (.slice a.AL a.L.length a.cL) ∧ Y.cell? ⟨w.heap.size, 1, none⟩ = some (.slice (some ae) a.N.length a.cN) ∧ Y.cell? (ae.add i) = some (iv nd) := fun Y hY => by
        have hh := (hV.keep hY).hb
        simp only [XP.sL, XP.sN, hE] at hh
        exact ⟨cells_get (cs := [_, _, _]) hh rfl, cells_get (cs := [_, _, _]) hh rfl, (Grow.of_below (B := 0) hY).cell hne⟩
      refine exec_seq (exec_seq (region_of_tail 20 (by kernel_rfl) (by kernel_rfl) (by kernel_rfl) (fun Y => Below W.heap.size W Y) (fun _ _ _ => False) (fun _ _ _ h => h.elim) fun ds => ?_))
      have hS : Below W.heap.size W W.drew := (Below.refl _ W).drew
      refine held_take 0 (iv s) rfl (by kernel_rfl) (by kernel_rfl) (by kernel_rfl) (by intro _ _ _ h; first | exact h | (simpa [behind, Act.put] using h)) rfl (by first | exact hS | assumption) (fun wq hq => ?_) ?_; (focus (first | rfl | (simp [go_sem]; done))); simp only [Act.put, Array.getInternal_eq_getElem, List.take_succ_cons, List.take_zero, List.take_nil, List.getElem_toArray, List.getElem_cons_succ, List.getElem_cons_zero, List.setIfInBounds_toArray, List.set_cons_succ, List.set_cons_zero]
      refine held_take 1 (.bool false) rfl (by kernel_rfl) (by kernel_rfl) (by kernel_rfl) (by intro _ _ _ h; first | exact h | (simpa [behind, Act.put] using h)) rfl (by first | exact hS | assumption) (fun wq hq => ?_) ?_; (focus (simp [go_sem, hlt0]; done)); simp only [Act.put, Array.getInternal_eq_getElem, List.take_succ_cons, List.take_zero, List.take_nil, List.getElem_toArray, List.getElem_cons_succ, List.getElem_cons_zero, List.setIfInBounds_toArray, List.set_cons_succ, List.set_cons_zero]
      refine held_take 2 (.bool false) rfl (by kernel_rfl) (by kernel_rfl) (by kernel_rfl) (by intro _ _ _ h; first | exact h | (simpa [behind, Act.put] using h)) rfl (by first | exact hS | assumption) (fun wq hq => ?_) ?_; (focus (first | rfl | (simp [go_sem]; done))); simp only [Act.put, Array.getInternal_eq_getElem, List.take_succ_cons, List.take_zero, List.take_nil, List.getElem_toArray, List.getElem_cons_succ, List.getElem_cons_zero, List.setIfInBounds_toArray, List.set_cons_succ, List.set_cons_zero]
      refine held_take 3 (iv s) rfl (by kernel_rfl) (by kernel_rfl) (by kernel_rfl) (by intro _ _ _ h; exact h) (by kernel_rfl) (by first | exact hS | assumption) (fun wq hq => ?_) ?_; (focus (simp [go_sem]; done)); simp only [Act.put, Array.getInternal_eq_getElem, List.take_succ_cons, List.take_zero, List.take_nil, List.getElem_toArray, List.getElem_cons_succ, List.getElem_cons_zero, List.setIfInBounds_toArray, List.set_cons_succ, List.set_cons_zero]
      refine held_take 4 (.pointer (some ⟨w.heap.size, 0, none⟩)) rfl (by kernel_rfl) (by kernel_rfl) (by kernel_rfl) (by intro _ _ _ h; exact h) (by kernel_rfl) (by first | exact hS | assumption) (fun wq hq => ?_) ?_; (focus (simp [go_sem, hu25]; done)); simp only [Act.put, Array.getInternal_eq_getElem, List.take_succ_cons, List.take_zero, List.take_nil, List.getElem_toArray, List.getElem_cons_succ, List.getElem_cons_zero, List.setIfInBounds_toArray, List.set_cons_succ, List.set_cons_zero]
      refine held_take 5 (.slice a.AL a.L.length a.cL) rfl (by kernel_rfl) (by kernel_rfl) (by kernel_rfl) (by intro _ _ _ h; exact h) (by kernel_rfl) (by first | exact hS | assumption) (fun wq hq => ?_) ?_; (focus (simp [go_sem, (cc wq hq).1]; done)); simp only [Act.put, Array.getInternal_eq_getElem, List.take_succ_cons, List.take_zero, List.take_nil, List.getElem_toArray, List.getElem_cons_succ, List.getElem_cons_zero, List.setIfInBounds_toArray, List.set_cons_succ, List.set_cons_zero]
      refine held_take 6 (iv a.L.length) rfl (by kernel_rfl) (by kernel_rfl) (by kernel_rfl) (by intro _ _ _ h; exact h) (by kernel_rfl) (by first | exact hS | assumption) (fun wq hq => ?_) ?_; (focus (simp [go_sem]; done)); simp only [Act.put, Array.getInternal_eq_getElem, List.take_succ_cons, List.take_zero, List.take_nil, List.getElem_toArray, List.getElem_cons_succ, List.getElem_cons_zero, List.setIfInBounds_toArray, List.set_cons_succ, List.set_cons_zero]
      refine held_take 7 (iv 0) rfl (by kernel_rfl) (by kernel_rfl) (by kernel_rfl) (by intro _ _ _ h; exact h) (by kernel_rfl) (by first | exact hS | assumption) (fun wq hq => ?_) ?_; (focus (simp [go_sem, hsd]; done)); simp only [Act.put, Array.getInternal_eq_getElem, List.take_succ_cons, List.take_zero, List.take_nil, List.getElem_toArray, List.getElem_cons_succ, List.getElem_cons_zero, List.setIfInBounds_toArray, List.set_cons_succ, List.set_cons_zero]
      refine held_take 8 (.bool false) rfl (by kernel_rfl) (by kernel_rfl) (by kernel_rfl) (by intro _ _ _ h; exact h) (by kernel_rfl) (by first | exact hS | assumption) (fun wq hq => ?_) ?_; (focus (simp [go_sem]; done)); simp only [Act.put, Array.getInternal_eq_getElem, List.take_succ_cons, List.take_zero, List.take_nil, List.getElem_toArray, List.getElem_cons_succ, List.getElem_cons_zero, List.setIfInBounds_toArray, List.set_cons_succ, List.set_cons_zero]
      refine held_take 9 (.bool false) rfl (by kernel_rfl) (by kernel_rfl) (by kernel_rfl) (by intro _ _ _ h; exact h) (by kernel_rfl) (by first | exact hS | assumption) (fun wq hq => ?_) ?_; (focus (simp [go_sem]; done)); simp only [Act.put, Array.getInternal_eq_getElem, List.take_succ_cons, List.take_zero, List.take_nil, List.getElem_toArray, List.getElem_cons_succ, List.getElem_cons_zero, List.setIfInBounds_toArray, List.set_cons_succ, List.set_cons_zero]
      refine held_take 10 (.bool false) rfl (by kernel_rfl) (by kernel_rfl) (by kernel_rfl) (by intro _ _ _ h; first | exact h | (simpa [behind, Act.put] using h)) rfl (by first | exact hS | assumption) (fun wq hq => ?_) ?_; (focus (first | rfl | (simp [go_sem]; done))); simp only [Act.put, Array.getInternal_eq_getElem, List.take_succ_cons, List.take_zero, List.take_nil, List.getElem_toArray, List.getElem_cons_succ, List.getElem_cons_zero, List.setIfInBounds_toArray, List.set_cons_succ, List.set_cons_zero]
      refine held_take 11 (iv s) rfl (by kernel_rfl) (by kernel_rfl) (by kernel_rfl) (by intro _ _ _ h; exact h) (by kernel_rfl) (by first | exact hS | assumption) (fun wq hq => ?_) ?_; (focus (simp [go_sem]; done)); simp only [Act.put, Array.getInternal_eq_getElem, List.take_succ_cons, List.take_zero, List.take_nil, List.getElem_toArray, List.getElem_cons_succ, List.getElem_cons_zero, List.setIfInBounds_toArray, List.set_cons_succ, List.set_cons_zero]
      refine held_take 13 (.pointer (some ⟨w.heap.size, 1, none⟩)) rfl (by kernel_rfl) (by kernel_rfl) (by kernel_rfl) (by intro _ _ _ h; exact h) (by kernel_rfl) (by first | exact hS | assumption) (fun wq hq => ?_) ?_; (focus (simp [go_sem, hu25]; done)); simp only [Act.put, Array.getInternal_eq_getElem, List.take_succ_cons, List.take_zero, List.take_nil, List.getElem_toArray, List.getElem_cons_succ, List.getElem_cons_zero, List.setIfInBounds_toArray, List.set_cons_succ, List.set_cons_zero]
      refine held_take 14 (.slice (some ae) a.N.length a.cN) rfl (by kernel_rfl) (by kernel_rfl) (by kernel_rfl) (by intro _ _ _ h; exact h) (by kernel_rfl) (by first | exact hS | assumption) (fun wq hq => ?_) ?_; (focus (simp [go_sem, (cc wq hq).2.1]; done)); simp only [Act.put, Array.getInternal_eq_getElem, List.take_succ_cons, List.take_zero, List.take_nil, List.getElem_toArray, List.getElem_cons_succ, List.getElem_cons_zero, List.setIfInBounds_toArray, List.set_cons_succ, List.set_cons_zero]
      refine held_take 15 (iv i) rfl (by kernel_rfl) (by kernel_rfl) (by kernel_rfl) (by intro _ _ _ h; exact h) (by kernel_rfl) (by first | exact hS | assumption) (fun wq hq => ?_) ?_; (focus (simp [go_sem]; done)); simp only [Act.put, Array.getInternal_eq_getElem, List.take_succ_cons, List.take_zero, List.take_nil, List.getElem_toArray, List.getElem_cons_succ, List.getElem_cons_zero, List.setIfInBounds_toArray, List.set_cons_succ, List.set_cons_zero]
      refine held_take 16 (.pointer (some (ae.add i))) rfl (by kernel_rfl) (by kernel_rfl) (by kernel_rfl) (by intro _ _ _ h; exact h) (by kernel_rfl) (by first | exact hS | assumption) (fun wq hq => ?_) ?_; (focus (simp [go_sem, hu22, hiI]; done)); simp only [Act.put, Array.getInternal_eq_getElem, List.take_succ_cons, List.take_zero, List.take_nil, List.getElem_toArray, List.getElem_cons_succ, List.getElem_cons_zero, List.setIfInBounds_toArray, List.set_cons_succ, List.set_cons_zero]
      refine held_take 17 (iv nd) rfl (by kernel_rfl) (by kernel_rfl) (by kernel_rfl) (by intro _ _ _ h; exact h) (by kernel_rfl) (by first | exact hS | assumption) (fun wq hq => ?_) ?_; (focus (simp [go_sem, (cc wq hq).2.2]; done)); simp only [Act.put, Array.getInternal_eq_getElem, List.take_succ_cons, List.take_zero, List.take_nil, List.getElem_toArray, List.getElem_cons_succ, List.getElem_cons_zero, List.setIfInBounds_toArray, List.set_cons_succ, List.set_cons_zero]
      refine held_call 12 (f := 30) (args := #[iv s]) rfl (by kernel_rfl) (by kernel_rfl) (by simp [go_sem]) ?_
      refine (hcall W.drew).mono ?_
      rintro e X1 ⟨rfl, hx1⟩
      have k1 : Below W.heap.size W X1 := hS.trans hx1
      refine .inl ⟨_, rfl, k1, ?_⟩
      simp only [Act.put, Array.getInternal_eq_getElem, List.take_succ_cons, List.take_zero, List.take_nil, List.getElem_toArray, List.getElem_cons_succ, List.getElem_cons_zero, List.setIfInBounds_toArray, List.set_cons_succ, List.set_cons_zero]
      refine held_take 18 (.bool ((ps : Int) != (nd : Int))) rfl (by kernel_rfl) (by kernel_rfl) (by kernel_rfl) (by intro _ _ _ h; exact h) (by kernel_rfl) (by first | exact hS | assumption) (fun wq hq => ?_) ?_; (focus (simp [go_sem]; done)); simp only [Act.put, Array.getInternal_eq_getElem, List.take_succ_cons, List.take_zero, List.take_nil, List.getElem_toArray, List.getElem_cons_succ, List.getElem_cons_zero, List.setIfInBounds_toArray, List.set_cons_succ, List.set_cons_zero]
      refine held_take 19 (.bool ((ps : Int) != (nd : Int))) rfl (by kernel_rfl) (by kernel_rfl) (by kernel_rfl) (by intro _ _ _ h; exact h) (by kernel_rfl) (by first | exact hS | assumption) (fun wq hq => ?_) ?_; (focus (simp [go_sem]; done)); simp only [Act.put, Array.getInternal_eq_getElem, List.take_succ_cons, List.take_zero, List.take_nil, List.getElem_toArray, List.getElem_cons_succ, List.getElem_cons_zero, List.setIfInBounds_toArray, List.set_cons_succ, List.set_cons_zero]
      refine held_done (by kernel_rfl) ?_
      refine any_done (by kernel_rfl) ⟨rfl, Keep.of_below k1, ?_⟩
      show Exec _ _ (Code.cond _ _ _) _ _ _
      have hVX := hV.keep k1
      clear cc hV hcall hsd hlt0 hne hcl
      by_cases hpn : ps = nd
      · refine exec_cond (b := false) (by show Value.bool ((ps : Int) != (nd : Int)) = _; simp [hpn]) (fun h => by cases h) (fun _ => exec_skip ?_)
        show Exec _ _ (sub gcode24 [1, 1, 1, 0, 1, 0, 0, 1, 1, 0, 0, 1, 1]) _ _ _
        refine ((se_judges (A := some ad) (nl := a.N.length) (c := c) (i := i) (s := s) hf ha hDl hDb hs64 (by omega) hVX ?_).mono ?_)
        · simp [Slots, Fits]
        clear hVX k1 hS hx1 x
        clear W X1
        intro e t Z hh
        cases e with
        | normal =>
          obtain ⟨hj, hV, hSl⟩ := hh
          rw [HBS.out] at hV
          obtain ⟨x, hx⟩ := Slots.open_ hSl; simp only [fill, Nat.reduceAdd] at hx; subst hx; clear hSl
          exact ⟨HST.out hpn hj, hV, by simp [Slots, Fits]⟩
        | ret =>
          obtain ⟨_, hj, hB, hSl⟩ := hh
          obtain ⟨x, hx⟩ := Slots.open_ hSl; simp only [fill, Nat.reduceAdd] at hx; subst hx; clear hSl
          have hR := HBD.out (.inr hj)
          subst hR
          exact ⟨.inr rfl, fun W' hG => ⟨.bool false, by simp [results, Try.f24, go_sem], rfl, hB.trans (hG.below (Nat.le_refl _) hB.size)⟩⟩
        | _ => cases hh.1
      · refine exec_cond (b := true) (by show Value.bool ((ps : Int) != (nd : Int)) = _; simp; omega) (fun _ => ?_) (fun h => by cases h)
        have hR := HBD.out (.inl hpn)
        subst hR
        have hB := hVX.below
        refine exec_seq (exec_region_o fun ds => ?_)
        gi_wp2
        refine eq_mk (Keep.refl _) ?_
        show Exec _ _ _ _ _ _
        exact exec_ret ⟨.inr rfl, fun W' hG => ⟨.bool false, by simp [results, Try.f24, go_sem], rfl, hB.trans (hG.below (Nat.le_refl _) hB.size)⟩⟩
    · clear hV x hne hcl HST HBD HBS HOK
      clear W
      rintro t' Y ⟨hok, hV, hSl⟩
      have HOK := Lib.hid hok
      clear hok
      obtain ⟨x, hx⟩ := Slots.open_ hSl; simp only [fill, Nat.reduceAdd] at hx; subst hx; clear hSl
      have hw : IntKind.i64.wrap ((i : Int) + 1) = ((i + 1 : Nat) : Int) := by rw [IntWalk.i64_in _ (by omega)]; norm_cast
      refine exec_region_o fun ds => ?_
      gi_wp2
      exact eq_mk (Keep.refl _) ⟨m - 1, by rw [HN.out]; omega, i + 1, by omega, by rw [HN.out]; omega, HOK.out, hV, by simp only [Slots, Fits, and_self]; simp [HAd.out]⟩
  · have hil : i = a.N.length := by have := of_decide_eq_false hp; omega
    subst hil
    have hR := okT_end hf hl HOK.out
    rw [HR.out] at hR
    subst hR
    have hB := hV.below
    show Exec _ _ (Code.seq _ _) _ _ _
    refine exec_seq (exec_region_o fun ds => ?_)
    gi_wp2
    refine eq_mk (Keep.refl _) ?_
    show Exec _ _ _ _ _ _
    exact exec_ret ⟨.inr rfl, fun W' hG => ⟨.bool true, by simp [results, Try.f24, go_sem], rfl, hB.trans (hG.below (Nat.le_refl _) hB.size)⟩⟩
end Go.Proofs.Ytbdmmikflkpmpaa
end

section
set_option linter.unusedVariables false
set_option linter.unusedSimpArgs false
namespace Go.Proofs.Ytbdmmikflkpmpaa
open Go.RowKit Go.TL Go.Shelf Go.Pn
attribute [local go_sem] Oper.semAt_some
attribute [local go_sem] run_store_func
/-- A row of bytes. -/
def RowU (w : World) (B : Option Addr) (n : Nat) : Prop := ∀ i, i < n → ∃ ad, B = some ad ∧ ∃ z : Nat, z < 256 ∧ w.cell? (ad.add i) = some (.int .u8 z)
theorem RowU.below {w w' : World} {B : Option Addr} {n : Nat} (h : RowU w B n) (hb : Below w.heap.size w w') : RowU w' B n := fun i hi => by
  obtain ⟨ad, e, z, hz, hc⟩ := h i hi
  exact ⟨ad, e, z, hz, (Grow.of_below (B := 0) hb).cell hc⟩
def OtI (w : World) (a : XP) (g : Nat) (B : Option Addr) (n1 c1 : Nat) (m : Nat) (t : Array Value) (W : World) : Prop :=
  ∃ k D, k ≤ a.N.length ∧ m = a.N.length - k ∧ D.length = a.N.length ∧ (∀ x ∈ D, x < 2 ^ a.L.length) ∧ SeW w a g D W ∧ Slots (none :: some (.slice B n1 c1) :: some (.pointer (some ⟨w.heap.size, 0, none⟩)) :: none :: none :: some (.slice (some ⟨g, 0, none⟩) a.N.length a.N.length) :: none :: none :: o4 (some (iv a.N.length) :: some (iv k) :: none :: none :: none :: o4 (o16 []))) t
theorem get_set (W : World) (g n : Nat) (hg : W.heap[g]? = some (.cells (zeroI n) 3 (0, 0))) : W.heap[g]? = some (.cells ((List.replicate n 0).map iv).toArray 3 (0, 0)) := by
  have : zeroI n = ((List.replicate n 0).map iv).toArray := by
    apply Array.ext'
    have h2 : (zeroI n).toList = List.replicate n (iv 0) := toList_madeCells_one _ _
    rw [h2]
    simp
  rw [← this]
  exact hg
set_option maxRecDepth 100000 in
set_option maxHeartbeats 4000000 in
theorem other23 (a : XP) (hf : a.Fine) (B : Option Addr) (n1 c1 : Nat) (hn1 : n1 < 2 ^ 63) (w : World) (ha : a.At w) (hr : RowU w B n1) : Calls Try.prog 23 #[a.val, .slice B n1 c1] w fun e w' => ∃ g l, e = .returned (.slice (some ⟨g, 0, none⟩) a.N.length a.N.length) ∧ l ∈ seqs a.L.length a.N.length ∧ RowV w' (some ⟨g, 0, none⟩) (l.map iv) ∧ Below w.heap.size w w' := by
  have hu25 := Try.underlying25
  have hu22 := Try.underlying22
  have hu36 := Try.underlying36
  have hj6 := hf.j
  have hn6 := hf.p
  refine calls_of_exec Try.func23 rfl ?_
  simp only [Try.ntmps23, List.size_toArray, List.length_cons, List.length_nil, Nat.reduceAdd, Nat.reduceSub, Array.replicate_succ, Array.replicate_zero, List.push_toArray, List.append_toArray, List.nil_append, List.cons_append]
  simp only [XP.val]
  refine exec_seq (exec_region_o fun ds => ?_)
  gi_wp2
  refine eq_mk ((Keep.refl _).alloc _) ?_
  show Exec _ _ (Code.seq _ _) _ (w.alloc (.cells #[a.sL, a.sN, a.sK] 25)) _
  have hB := (Below.refl w.heap.size w).alloc (Nat.le_refl _) (.cells #[a.sL, a.sN, a.sK] 25)
  have hX : PBx (w.alloc (.cells #[a.sL, a.sN, a.sK] 25)) w.heap.size a := ⟨World.alloc_heap_new _ _, ha.below hB⟩
  generalize w.alloc (.cells #[a.sL, a.sN, a.sK] 25) = X at *
  have hh := hX.heap
  simp only [XP.sN, XP.sL] at hh
  have c0 := cells_get (cs := [_, _, _]) (k := 0) hh rfl
  have c1' := cells_get (cs := [_, _, _]) (k := 1) hh rfl
  clear hh
  have hmk := run_make22 a.N.length (by omega) X
  refine exec_seq (exec_region_o fun ds => ?_)
  gi_wp2
  refine eq_mk ((Keep.refl _).alloc _) ?_
  show Exec _ _ (Code.seq (Code.seq _ _) _) _ _ _
  have hV : SeW w a X.heap.size (List.replicate a.N.length 0) (X.alloc (.cells (zeroI a.N.length) 3)) := ⟨heap_next hX.heap _, get_set _ _ _ (World.alloc_heap_new _ _), hB.alloc hB.size _, heap_lt hX.heap⟩
  clear c0 c1' hmk hX hB
  generalize X.alloc (.cells (zeroI a.N.length) 3) = Y at *
  generalize X.heap.size = g at *
  clear X
  refine exec_seq (exec_seq (exec_region_o fun ds => ?_))
  gi_wp2
  refine eq_mk (Keep.refl _) ?_
  show Exec _ _ (Code.block _ _) _ _ _
  refine exec_block ?_
  refine exec_loop (OtI w a g B n1 c1) a.N.length ⟨0, _, by omega, rfl, List.length_replicate, fun x hx => by
    rw [(List.mem_replicate.1 hx).2]
    exact Nat.pow_pos (by omega), hV, by simp [Slots, Fits]⟩ ?_
  clear hV
  clear Y
  rintro m t W ⟨k, D, hk, hn, hDl, hDb, hV, hSl⟩
  have HN := Lib.hid hn
  have HDB := Lib.hid hDb
  clear hn hDb
  obtain ⟨x, hx⟩ := Slots.open_ hSl; simp only [fill, Nat.reduceAdd] at hx; subst hx; clear hSl
  show Exec _ _ (Code.seq _ (Code.seq _ _)) _ _ _
  refine exec_seq (exec_region_o fun ds => ?_)
  gi_wp2
  refine eq_mk (Keep.refl _) ?_
  show Exec _ _ (Code.seq (Code.cond _ _ _) _) _ _ _
  refine exec_seq (exec_cond (b := decide (k < a.N.length)) (by first | rfl | (show Value.bool _ = _; congr 1; exact decide_eq_decide.2 (by omega))) (fun hp => exec_skip ?_) (fun hp => exec_exit ?_))
  · have hkl : k < a.N.length := by have := of_decide_eq_true hp; omega
    have hkI : (k : Int) < a.N.length := by omega
    show Exec _ _ (Code.seq (Code.block _ _) _) _ _ _
    refine exec_cut (fun t' Y => (∃ D : List Nat, D.length = a.N.length ∧ (∀ x ∈ D, x < 2 ^ a.L.length) ∧ SeW w a g D Y) ∧ Slots (none :: some (.slice B n1 c1) :: some (.pointer (some ⟨w.heap.size, 0, none⟩)) :: none :: none :: some (.slice (some ⟨g, 0, none⟩) a.N.length a.N.length) :: none :: none :: o4 (some (iv a.N.length) :: some (iv k) :: none :: none :: none :: o4 (o16 []))) t') (exec_block (exec_seq (exec_region_o fun ds => ?_))) ?_
    · gi_wp2
      refine eq_mk (Keep.refl _) ?_
      show Exec _ _ (Code.seq _ _) _ _ _
      refine exec_seq (exec_region_o fun ds => ?_)
      gi_wp2
      refine eq_mk (Keep.refl _) ?_
      show Exec _ _ (Code.cond _ _ _) _ _ _
      refine exec_cond (b := decide (0 < n1)) (by first | rfl | (show Value.bool _ = _; congr 1; exact decide_eq_decide.2 (by omega))) (fun hp => ?_) (fun hp => exec_skip ?_)
      · have hp1 : 0 < n1 := of_decide_eq_true hp
        obtain ⟨ad, hB, z, hz, hcz⟩ := (hr.below hV.below) (k % n1) (Nat.mod_lt _ hp1)
        have hm1 : Int.tmod (k : Int) (n1 : Int) = ((k % n1 : Nat) : Int) := by rw [Int.tmod_eq_emod_of_nonneg (by omega)]; norm_cast
        have hml : k % n1 < n1 := Nat.mod_lt _ hp1
        obtain ⟨km, hkm⟩ : ∃ km, k % n1 = km := ⟨_, rfl⟩
        rw [hkm] at hm1 hml hcz
        clear hkm
        have hmI : (km : Int) < n1 := by omega
        have hm2 : Int.tmod (z : Int) ((2 ^ a.L.length : Nat) : Int) = ((z % 2 ^ a.L.length : Nat) : Int) := by rw [Int.tmod_eq_emod_of_nonneg (by omega)]; norm_cast
        have hsh := shl_i a.L.length (by omega)
        have hconv : IntKind.i64.wrap (z : Int) = (z : Int) := IntWalk.i64_in _ (by omega)
        have hzl : z % 2 ^ a.L.length < 2 ^ a.L.length := Nat.mod_lt _ (Nat.pow_pos (by omega))
        have hpw : 2 ^ a.L.length ≤ 64 := Nat.pow_le_pow_right (n := 2) (by omega) hj6
        have hp0 : 1 ≤ 2 ^ a.L.length := Nat.one_le_two_pow
        obtain ⟨T, hT⟩ : ∃ T, 2 ^ a.L.length = T := ⟨_, rfl⟩
        rw [hT] at hm2 hzl hsh hpw hp0
        obtain ⟨v, hv⟩ : ∃ v, z % T = v := ⟨_, rfl⟩
        rw [hv] at hm2 hzl
        have hw2 : IntKind.i64.wrap (v : Int) = (v : Int) := IntWalk.i64_in _ (by omega)
        have hw1 : IntKind.i64.wrap (km : Int) = (km : Int) := IntWalk.i64_in _ (by omega)
        have hn10 : ¬ n1 = 0 := by omega
        have hT0 : ¬ T = 0 := by omega
        clear hv
        simp only [hB]
        have HBB := Lib.hid hB
        clear hB
        have cc : ∀ Y, Below W.heap.size W Y → Y.cell? ⟨w.heap.size, 0, none⟩ = some (.slice a.AL a.L.length a.cL) ∧ Y.cell? (ad.add km) = some (.int .u8 z) := fun Y hY => by
          have hh := (hV.keep hY).hb
          simp only [XP.sL] at hh
          exact ⟨cells_get (cs := [_, _, _]) hh rfl, (Grow.of_below (B := 0) hY).cell hcz⟩
        refine region_of_tail 15 (by kernel_rfl) (by kernel_rfl) (by kernel_rfl) (fun Y => Below W.heap.size W Y) (fun _ _ _ => False) (fun _ _ _ h => h.elim) fun ds => ?_
        have hS : Below W.heap.size W W.drew := (Below.refl _ W).drew
        refine held_take 0 (.slice (some ⟨g, 0, none⟩) a.N.length a.N.length) rfl (by kernel_rfl) (by kernel_rfl) (by kernel_rfl) (by intro _ _ _ h; first | exact h | (simpa [behind, Act.put] using h)) rfl (by first | exact hS | assumption) (fun wq hq => ?_) ?_; (focus (first | rfl | (simp [go_sem]; done))); simp only [Act.put, Array.getInternal_eq_getElem, List.take_succ_cons, List.take_zero, List.take_nil, List.getElem_toArray, List.getElem_cons_succ, List.getElem_cons_zero, List.setIfInBounds_toArray, List.set_cons_succ, List.set_cons_zero]
        refine held_take 1 (iv k) rfl (by kernel_rfl) (by kernel_rfl) (by kernel_rfl) (by intro _ _ _ h; first | exact h | (simpa [behind, Act.put] using h)) rfl (by first | exact hS | assumption) (fun wq hq => ?_) ?_; (focus (first | rfl | (simp [go_sem]; done))); simp only [Act.put, Array.getInternal_eq_getElem, List.take_succ_cons, List.take_zero, List.take_nil, List.getElem_toArray, List.getElem_cons_succ, List.getElem_cons_zero, List.setIfInBounds_toArray, List.set_cons_succ, List.set_cons_zero]
        refine held_take 2 (.slice (some ad) n1 c1) rfl (by kernel_rfl) (by kernel_rfl) (by kernel_rfl) (by intro _ _ _ h; first | exact h | (simpa [behind, Act.put] using h)) rfl (by first | exact hS | assumption) (fun wq hq => ?_) ?_; (focus (first | rfl | (simp [go_sem]; done))); simp only [Act.put, Array.getInternal_eq_getElem, List.take_succ_cons, List.take_zero, List.take_nil, List.getElem_toArray, List.getElem_cons_succ, List.getElem_cons_zero, List.setIfInBounds_toArray, List.set_cons_succ, List.set_cons_zero]
        refine held_take 3 (iv k) rfl (by kernel_rfl) (by kernel_rfl) (by kernel_rfl) (by intro _ _ _ h; first | exact h | (simpa [behind, Act.put] using h)) rfl (by first | exact hS | assumption) (fun wq hq => ?_) ?_; (focus (first | rfl | (simp [go_sem]; done))); simp only [Act.put, Array.getInternal_eq_getElem, List.take_succ_cons, List.take_zero, List.take_nil, List.getElem_toArray, List.getElem_cons_succ, List.getElem_cons_zero, List.setIfInBounds_toArray, List.set_cons_succ, List.set_cons_zero]
        refine held_take 4 (.slice (some ad) n1 c1) rfl (by kernel_rfl) (by kernel_rfl) (by kernel_rfl) (by intro _ _ _ h; first | exact h | (simpa [behind, Act.put] using h)) rfl (by first | exact hS | assumption) (fun wq hq => ?_) ?_; (focus (first | rfl | (simp [go_sem]; done))); simp only [Act.put, Array.getInternal_eq_getElem, List.take_succ_cons, List.take_zero, List.take_nil, List.getElem_toArray, List.getElem_cons_succ, List.getElem_cons_zero, List.setIfInBounds_toArray, List.set_cons_succ, List.set_cons_zero]
        refine held_take 5 (iv n1) rfl (by kernel_rfl) (by kernel_rfl) (by kernel_rfl) (by intro _ _ _ h; first | exact h | (simpa [behind, Act.put] using h)) rfl (by first | exact hS | assumption) (fun wq hq => ?_) ?_; (focus (simp [go_sem]; done)); simp only [Act.put, Array.getInternal_eq_getElem, List.take_succ_cons, List.take_zero, List.take_nil, List.getElem_toArray, List.getElem_cons_succ, List.getElem_cons_zero, List.setIfInBounds_toArray, List.set_cons_succ, List.set_cons_zero]
        refine held_take 6 (iv km) rfl (by kernel_rfl) (by kernel_rfl) (by kernel_rfl) (by intro _ _ _ h; first | exact h | (simpa [behind, Act.put] using h)) rfl (by first | exact hS | assumption) (fun wq hq => ?_) ?_; (focus (simp [go_sem, hm1, hw1, hn10]; done)); simp only [Act.put, Array.getInternal_eq_getElem, List.take_succ_cons, List.take_zero, List.take_nil, List.getElem_toArray, List.getElem_cons_succ, List.getElem_cons_zero, List.setIfInBounds_toArray, List.set_cons_succ, List.set_cons_zero]
        refine held_take 7 (.pointer (some (ad.add km))) rfl (by kernel_rfl) (by kernel_rfl) (by kernel_rfl) (by intro _ _ _ h; first | exact h | (simpa [behind, Act.put] using h)) rfl (by first | exact hS | assumption) (fun wq hq => ?_) ?_; (focus (simp [go_sem, hu36, hmI]; done)); simp only [Act.put, Array.getInternal_eq_getElem, List.take_succ_cons, List.take_zero, List.take_nil, List.getElem_toArray, List.getElem_cons_succ, List.getElem_cons_zero, List.setIfInBounds_toArray, List.set_cons_succ, List.set_cons_zero]
        refine held_take 8 (.int .u8 z) rfl (by kernel_rfl) (by kernel_rfl) (by kernel_rfl) (by intro _ _ _ h; first | exact h | (simpa [behind, Act.put] using h)) rfl (by first | exact hS | assumption) (fun wq hq => ?_) ?_; (focus (simp [go_sem, (cc wq hq).2]; done)); simp only [Act.put, Array.getInternal_eq_getElem, List.take_succ_cons, List.take_zero, List.take_nil, List.getElem_toArray, List.getElem_cons_succ, List.getElem_cons_zero, List.setIfInBounds_toArray, List.set_cons_succ, List.set_cons_zero]
        refine held_take 9 (iv z) rfl (by kernel_rfl) (by kernel_rfl) (by kernel_rfl) (by intro _ _ _ h; first | exact h | (simpa [behind, Act.put] using h)) rfl (by first | exact hS | assumption) (fun wq hq => ?_) ?_; (focus (simp [go_sem, hconv]; done)); simp only [Act.put, Array.getInternal_eq_getElem, List.take_succ_cons, List.take_zero, List.take_nil, List.getElem_toArray, List.getElem_cons_succ, List.getElem_cons_zero, List.setIfInBounds_toArray, List.set_cons_succ, List.set_cons_zero]
        refine held_take 10 (.pointer (some ⟨w.heap.size, 0, none⟩)) rfl (by kernel_rfl) (by kernel_rfl) (by kernel_rfl) (by intro _ _ _ h; first | exact h | (simpa [behind, Act.put] using h)) rfl (by first | exact hS | assumption) (fun wq hq => ?_) ?_; (focus (simp [go_sem, hu25]; done)); simp only [Act.put, Array.getInternal_eq_getElem, List.take_succ_cons, List.take_zero, List.take_nil, List.getElem_toArray, List.getElem_cons_succ, List.getElem_cons_zero, List.setIfInBounds_toArray, List.set_cons_succ, List.set_cons_zero]
        refine held_take 11 (.slice a.AL a.L.length a.cL) rfl (by kernel_rfl) (by kernel_rfl) (by kernel_rfl) (by intro _ _ _ h; first | exact h | (simpa [behind, Act.put] using h)) rfl (by first | exact hS | assumption) (fun wq hq => ?_) ?_; (focus (simp [go_sem, (cc wq hq).1]; done)); simp only [Act.put, Array.getInternal_eq_getElem, List.take_succ_cons, List.take_zero, List.take_nil, List.getElem_toArray, List.getElem_cons_succ, List.getElem_cons_zero, List.setIfInBounds_toArray, List.set_cons_succ, List.set_cons_zero]
        refine held_take 12 (iv a.L.length) rfl (by kernel_rfl) (by kernel_rfl) (by kernel_rfl) (by intro _ _ _ h; first | exact h | (simpa [behind, Act.put] using h)) rfl (by first | exact hS | assumption) (fun wq hq => ?_) ?_; (focus (simp [go_sem]; done)); simp only [Act.put, Array.getInternal_eq_getElem, List.take_succ_cons, List.take_zero, List.take_nil, List.getElem_toArray, List.getElem_cons_succ, List.getElem_cons_zero, List.setIfInBounds_toArray, List.set_cons_succ, List.set_cons_zero]
        refine held_take 13 (iv T) rfl (by kernel_rfl) (by kernel_rfl) (by kernel_rfl) (by intro _ _ _ h; first | exact h | (simpa [behind, Act.put] using h)) rfl (by first | exact hS | assumption) (fun wq hq => ?_) ?_; (focus (simp [go_sem, hsh]; done)); simp only [Act.put, Array.getInternal_eq_getElem, List.take_succ_cons, List.take_zero, List.take_nil, List.getElem_toArray, List.getElem_cons_succ, List.getElem_cons_zero, List.setIfInBounds_toArray, List.set_cons_succ, List.set_cons_zero]
        refine held_take 14 (iv v) rfl (by kernel_rfl) (by kernel_rfl) (by kernel_rfl) (by intro _ _ _ h; first | exact h | (simpa [behind, Act.put] using h)) rfl (by first | exact hS | assumption) (fun wq hq => ?_) ?_; (focus (simp [go_sem, hm2, hw2, hT0]; done)); simp only [Act.put, Array.getInternal_eq_getElem, List.take_succ_cons, List.take_zero, List.take_nil, List.getElem_toArray, List.getElem_cons_succ, List.getElem_cons_zero, List.setIfInBounds_toArray, List.set_cons_succ, List.set_cons_zero]
        refine held_done (by kernel_rfl) ?_
        refine behind_normal 2 (by kernel_rfl) ?_
        have hVd := hV.keep hS
        have cf : W.drew.frozen? ⟨g, k, none⟩ = false := frozen_cells hVd.hg
        have ck : W.drew.cell? ⟨g, k, none⟩ = some (iv (D.getD k 0)) := cells_get (cs := D.map iv) hVd.hg (by rw [List.getElem?_map, List.getElem?_eq_getElem (by omega), getD_lt (by omega)]; rfl)
        refine any_val 15 (.pointer (some ⟨g, k, none⟩)) rfl (by kernel_rfl) rfl (by first | (simp [go_sem, hu22, hkI]; done) | rfl) ?_; simp only [Act.put, Array.getInternal_eq_getElem, List.take_succ_cons, List.take_zero, List.take_nil, List.getElem_toArray, List.getElem_cons_succ, List.getElem_cons_zero, List.setIfInBounds_toArray, List.set_cons_succ, List.set_cons_zero]
        refine any_skip 16 (W.drew.setCell ⟨g, k, none⟩ (iv v)) rfl (by kernel_rfl) rfl (by simp [go_sem, ck, cf]) ?_; simp only [Act.put, Array.getInternal_eq_getElem, List.take_succ_cons, List.take_zero, List.take_nil, List.getElem_toArray, List.getElem_cons_succ, List.getElem_cons_zero, List.setIfInBounds_toArray, List.set_cons_succ, List.set_cons_zero]
        try simp only [Act.put, Array.getInternal_eq_getElem, List.take_succ_cons, List.take_zero, List.take_nil, List.drop_succ_cons, List.drop_zero, List.append_toArray, List.cons_append, List.nil_append, List.getElem_toArray, List.getElem_cons_succ, List.getElem_cons_zero, List.setIfInBounds_toArray, List.set_cons_succ, List.set_cons_zero]
        refine any_done (by kernel_rfl) ⟨rfl, (Keep.of_below hS).setCell _ _, ?_⟩
        refine ⟨⟨D.set k v, by rw [List.length_set]; exact hDl, fun x hx => ?_, hVd.set k v⟩, by simp [Slots, Fits, HBB.out]⟩
        rw [hT]
        rcases List.mem_or_eq_of_mem_set hx with h | h
        · rw [← hT]; exact HDB.out x h
        · rw [h]; exact hzl
      · exact ⟨⟨D, hDl, HDB.out, hV⟩, by simp [Slots, Fits]⟩
    · clear hV x hDl HDB
      clear W D
      rintro t' Y ⟨⟨D, hDl, hDb, hV⟩, hSl⟩
      have HDB := Lib.hid hDb
      clear hDb
      obtain ⟨x, hx⟩ := Slots.open_ hSl; simp only [fill, Nat.reduceAdd] at hx; subst hx; clear hSl
      have hw : IntKind.i64.wrap ((k : Int) + 1) = ((k + 1 : Nat) : Int) := by rw [IntWalk.i64_in _ (by omega)]; norm_cast
      refine exec_region_o fun ds => ?_
      gi_wp2
      exact eq_mk (Keep.refl _) ⟨m - 1, by rw [HN.out]; omega, k + 1, D, by omega, by rw [HN.out]; omega, hDl, HDB.out, hV, by simp only [Slots, Fits, and_self]; simp⟩
  · show Exec _ _ (Code.seq _ _) _ _ _
    have hrow : RowV W (some ⟨g, 0, none⟩) (D.map iv) := row_of_cells hV.hg
    have hmem : D ∈ seqs a.L.length a.N.length := (mem_seqs _ _ _).2 ⟨hDl, HDB.out⟩
    have hB := hV.below
    refine exec_seq (exec_region_o fun ds => ?_)
    gi_wp2
    refine eq_mk (Keep.refl _) ?_
    show Exec _ _ _ _ _ _
    exact exec_ret ⟨.inr rfl, fun W' hG => ⟨.slice (some ⟨g, 0, none⟩) a.N.length a.N.length, by simp [results, Try.f23, go_sem], g, D, rfl, hmem, hrow.grow hG, hB.trans (hG.below (Nat.le_refl _) hB.size)⟩⟩
end Go.Proofs.Ytbdmmikflkpmpaa
end

section
set_option linter.unusedVariables false
set_option linter.unusedSimpArgs false
namespace Go.Proofs.Ytbdmmikflkpmpaa
open Go.RowKit Go.TL Go.Shelf Go.Pn
attribute [local go_sem] Oper.semAt_some
attribute [local go_sem] run_store_func
noncomputable abbrev ecode4 : Code := Try.f4.body.getD .skip
/-- What is told of the panels, the first seating and another one. -/
structure SeV (V : World) (a : XP) (bb : Nat) (AD : Option Addr) (go : Nat) (l o : List Nat) (so : Bool) : Prop where
  px : PBx V bb a
  rl : RowV V AD (l.map iv)
  ro : RowV V (some ⟨go, 0, none⟩) (o.map iv)
  fl : SeFacts a l
  mo : o ∈ seqs a.L.length a.N.length
  oo : okL (nf (toP a.s3)) a.s3.1 o = so
theorem SeV.keep {V W : World} {a : XP} {bb go : Nat} {AD : Option Addr} {l o : List Nat} {so : Bool} (h : SeV V a bb AD go l o so) (hb : Below V.heap.size V W) : SeV W a bb AD go l o so := ⟨h.px.keep hb, h.rl.below hb, h.ro.below hb, h.fl, h.mo, h.oo⟩
def PqI (a : XP) (bb go c5 : Nat) (AD : Option Addr) (cn : Int) (so : Bool) (V : World) (p : Nat) (n : Nat) (t : Array Value) (W : World) : Prop :=
  ∃ j : Nat, j ≤ a.L.length ∧ n = a.L.length - j ∧ Below V.heap.size V W ∧ Slots (none :: none :: some (.pointer (some ⟨bb, 0, none⟩)) :: none :: some (.bool false) :: some (.slice AD a.N.length c5) :: none :: some (vi cn) :: none :: some (.slice (some ⟨go, 0, none⟩) a.N.length a.N.length) :: some (.bool so) :: some (iv p) :: o4 (o16 (o64 (some (iv a.N.length) :: some (iv p) :: o4 (some (iv a.L.length) :: some (iv j) :: none :: none :: none :: o4 (o4 (o16 (o16 (o64 []))))))))) t
def PqE (a : XP) (bb go c5 : Nat) (AD : Option Addr) (cn : Int) (so : Bool) (V : World) (p : Nat) (t : Array Value) (W : World) : Prop :=
  Below V.heap.size V W ∧ Slots (none :: none :: some (.pointer (some ⟨bb, 0, none⟩)) :: none :: some (.bool false) :: some (.slice AD a.N.length c5) :: none :: some (vi cn) :: none :: some (.slice (some ⟨go, 0, none⟩) a.N.length a.N.length) :: some (.bool so) :: none :: o4 (o16 (o64 (some (iv a.N.length) :: some (iv p) :: none :: o16 (o16 (o16 (o64 []))))))) t
set_option maxRecDepth 100000 in
set_option maxHeartbeats 4000000 in
theorem se_judge {a : XP} {bb go c5 : Nat} {AD : Option Addr} {cn : Int} {so : Bool} {l o : List Nat} {V : World} (hf : a.Fine) (hc : canV (toP a.s3) = true) (hV0 : SeV V a bb AD go l o so) {p : Nat} (hpN : p < a.N.length) {W : World} (hV : Below V.heap.size V W) {t : Array Value} (hSl : Slots (none :: none :: some (.pointer (some ⟨bb, 0, none⟩)) :: none :: some (.bool false) :: some (.slice AD a.N.length c5) :: none :: some (vi cn) :: none :: some (.slice (some ⟨go, 0, none⟩) a.N.length a.N.length) :: some (.bool so) :: some (iv p) :: o4 (o16 (o64 (some (iv a.N.length) :: some (iv p) :: none :: o16 (o16 (o16 (o64 []))))))) t) :
    Exec Try.prog none (sub ecode4 [1, 1, 1, 1, 1, 1, 1, 1, 1, 0, 1, 0, 0, 1, 1, 0, 0, 1]) t W (andThen (PqE a bb go c5 AD cn so V p) fun _ _ _ => False) := by
  have hu25 := Try.underlying25
  have hu22 := Try.underlying22
  have hj6 := hf.j
  have hn6 := hf.p
  obtain ⟨hl1, hl2⟩ := (mem_seqs _ _ _).1 hV0.fl.mem
  obtain ⟨ho1, ho2⟩ := (mem_seqs _ _ _).1 hV0.mo
  obtain ⟨x, hx⟩ := Slots.open_ hSl; simp only [fill, Nat.reduceAdd] at hx; subst hx; clear hSl
  have hh := (hV0.px.keep hV).heap
  simp only [XP.sL] at hh
  have c0 := cells_get (cs := [_, _, _]) (k := 0) hh rfl
  clear hh
  show Exec _ _ (Code.seq _ (Code.block _ _)) _ _ _
  refine exec_seq (exec_region_o fun ds => ?_)
  gi_wp2
  refine eq_mk (Keep.refl _) ?_
  show Exec _ _ (Code.block _ _) _ _ _
  refine exec_block ?_
  refine exec_loop (PqI a bb go c5 AD cn so V p) a.L.length ⟨0, by omega, rfl, hV, by simp [Slots, Fits]⟩ ?_
  clear hV c0 x
  clear W
  rintro n t W ⟨j, hj, hn, hV, hSl⟩
  have HN := Lib.hid hn
  clear hn
  obtain ⟨x, hx⟩ := Slots.open_ hSl; simp only [fill, Nat.reduceAdd] at hx; subst hx; clear hSl
  show Exec _ _ (Code.seq _ (Code.seq _ _)) _ _ _
  refine exec_seq (exec_region_o fun ds => ?_)
  gi_wp2
  refine eq_mk (Keep.refl _) ?_
  show Exec _ _ (Code.seq (Code.cond _ _ _) _) _ _ _
  refine exec_seq (exec_cond (b := decide (j < a.L.length)) (by first | rfl | (show Value.bool _ = _; congr 1; exact decide_eq_decide.2 (by omega))) (fun hp => exec_skip ?_) (fun hp => exec_exit ?_))
  · have hjl : j < a.L.length := by have := of_decide_eq_true hp; omega
    show Exec _ _ (Code.seq (Code.block _ _) _) _ _ _
    refine exec_cut (fun t' Y => Below V.heap.size V Y ∧ Slots (none :: none :: some (.pointer (some ⟨bb, 0, none⟩)) :: none :: some (.bool false) :: some (.slice AD a.N.length c5) :: none :: some (vi cn) :: none :: some (.slice (some ⟨go, 0, none⟩) a.N.length a.N.length) :: some (.bool so) :: some (iv p) :: o4 (o16 (o64 (some (iv a.N.length) :: some (iv p) :: o4 (some (iv a.L.length) :: some (iv j) :: none :: none :: none :: o4 (o4 (o16 (o16 (o64 []))))))))) t') (exec_block ?_) ?_
    · show Exec _ _ (Code.seq _ (Code.seq _ (Code.seq _ _))) _ _ _
      refine exec_seq (exec_region_o fun ds => ?_)
      gi_wp2
      refine eq_mk (Keep.refl _) ?_
      show Exec _ _ (Code.seq _ (Code.seq _ _)) _ _ _
      have hpa : pairA a (j : Int) (p : Int) = (((pairV (toP a.s3) p j : Nat) : Int), 0) := by
        have h1 : inB (j : Int) 0 ((a.L.length : Int) - 1) = true := by
          unfold inB
          rw [Bool.and_eq_true, decide_eq_true_eq, decide_eq_true_eq]
          omega
        have h2 : inB (p : Int) 0 ((a.N.length : Int) - 1) = true := by
          unfold inB
          rw [Bool.and_eq_true, decide_eq_true_eq, decide_eq_true_eq]
          omega
        unfold pairA
        rw [isP_of_fine hf, h1, h2, hc]
        simp
      have hW0 := hV0.keep hV
      have hcall := Pair_any a (j : Int) (p : Int) W hW0.px.at_
      rw [hpa] at hcall
      have hb1 := pair_bits hf hV0.fl.mem hV0.fl.ok hpN hjl
      have hb2 : so = true → (pairV (toP a.s3) p j = 2 → (o.getD p 0).testBit j = true) ∧ (pairV (toP a.s3) p j = 0 → (o.getD p 0).testBit j = false) := fun h => pair_bits hf hV0.mo (by rw [hV0.oo, h]) hpN hjl
      clear hpa
      obtain ⟨s, hs⟩ : ∃ s, l.getD p 0 = s := ⟨_, rfl⟩
      obtain ⟨u, hu⟩ : ∃ u, o.getD p 0 = u := ⟨_, rfl⟩
      have hslt := hl2 _ (mem_getD (show p < l.length by omega))
      have hult := ho2 _ (mem_getD (show p < o.length by omega))
      rw [hs] at hb1 hslt
      rw [hu] at hb2 hult
      have hpw : 2 ^ a.L.length ≤ 64 := Nat.pow_le_pow_right (n := 2) (by omega) hj6
      have bs := bit_i s j (by omega)
      have bu := bit_i u j (by omega)
      generalize pairV (toP a.s3) p j = pv at *
      obtain ⟨qs, hqs⟩ : ∃ q, s.testBit j = q := ⟨_, rfl⟩
      obtain ⟨qu, hqu⟩ : ∃ q, u.testBit j = q := ⟨_, rfl⟩
      rw [hqs] at bs hb1
      rw [hqu] at bu hb2
      have H1 := Lib.hid hb1
      have H2 := Lib.hid hb2
      clear hb1 hb2 hqs hqu
      have c0 := cells_get (cs := [_, _, _]) (k := 0) hW0.px.heap rfl
      have c1 := cells_get (cs := [_, _, _]) (k := 1) hW0.px.heap rfl
      have c2 := cells_get (cs := [_, _, _]) (k := 2) hW0.px.heap rfl
      refine exec_seq (exec_region_o fun ds => ?_)
      gi_wp2_with fail
      refine ⟨trivial, rfl, (callsIn_wide.2 hcall).mono ?_⟩
      rintro e Y ⟨rfl, hy⟩
      have hBY := hV.trans (hy.mono hV.size)
      have hK := Keep.of_below hy
      clear hy c0 c1 c2 hV hcall hW0
      gi_wp2
      refine eq_mk hK ?_
      show Exec _ _ (Code.seq _ _) _ _ _
      clear hK
      clear W
      have hY0 := hV0.keep hBY
      obtain ⟨ad, hA, hcl⟩ := row_n hY0.rl (show p < l.length by omega)
      obtain ⟨ae, hE, hco⟩ := row_n hY0.ro (show p < o.length by omega)
      cases hE
      rw [hs] at hcl
      rw [hu] at hco
      clear hs hu hY0
      have hpI : (p : Int) < a.N.length := by omega
      have hco' : Y.cell? ⟨go, p, none⟩ = some (iv u) := by
        have e : (⟨go, 0, none⟩ : Addr).add p = ⟨go, p, none⟩ := by
          simp [Addr.add]
          exact fun h => h.symm
        rw [← e]
        exact hco
      clear hco
      simp only [hA]
      have HAD := Lib.hid hA
      clear hA
      refine exec_cut (fun t' Z => Z = Y ∧ Slots (none :: none :: some (.pointer (some ⟨bb, 0, none⟩)) :: none :: some (.bool false) :: some (.slice (some ad) a.N.length c5) :: none :: some (vi cn) :: none :: some (.slice (some ⟨go, 0, none⟩) a.N.length a.N.length) :: some (.bool so) :: some (iv p) :: o4 (o16 (o64 (some (iv a.N.length) :: some (iv p) :: o4 (some (iv a.L.length) :: some (iv j) :: none :: o4 (o64 (some (.bool false) :: none :: o4 (o16 (o16 []))))))))) t') (exec_region_o fun ds => ?_) ?_
      · by_cases h2 : pv = 2
        · have e1 := H1.out.1 h2
          subst e1
          subst h2
          simp only [b1, if_true] at bs
          cases so with
          | false =>
            clear bu H1 H2
            gi_wp2
            all_goals exact eq_mk (Keep.refl _) ⟨rfl, by simp [Slots, Fits]⟩
          | true =>
            have e2 := (H2.out rfl).1 rfl
            subst e2
            simp only [b1, if_true] at bu
            clear H1 H2
            gi_wp2
            all_goals exact eq_mk (Keep.refl _) ⟨rfl, by simp [Slots, Fits]⟩
        · by_cases h0 : pv = 0
          · have e1 := H1.out.2 h0
            subst e1
            subst h0
            simp only [b1, Bool.false_eq_true, if_false] at bs
            cases so with
            | false =>
              clear bu H1 H2
              gi_wp2
              all_goals exact eq_mk (Keep.refl _) ⟨rfl, by simp [Slots, Fits]⟩
            | true =>
              have e2 := (H2.out rfl).2 rfl
              subst e2
              simp only [b1, Bool.false_eq_true, if_false] at bu
              clear H1 H2
              gi_wp2
              all_goals exact eq_mk (Keep.refl _) ⟨rfl, by simp [Slots, Fits]⟩
          · have h2I : ¬ ((pv : Int) = 2) := by omega
            have h0I : ¬ ((pv : Int) = 0) := by omega
            clear bu bs H1 H2 hcl hco'
            cases so with
            | false =>
              gi_wp2
              all_goals exact eq_mk (Keep.refl _) ⟨rfl, by simp [Slots, Fits]⟩
            | true =>
              gi_wp2
              all_goals exact eq_mk (Keep.refl _) ⟨rfl, by simp [Slots, Fits]⟩
      · rintro t' Z ⟨rfl, hSl⟩
        clear x hcl hco' bs bu
        obtain ⟨x, hx⟩ := Slots.open_ hSl; simp only [fill, Nat.reduceAdd] at hx; subst hx; clear hSl
        show Exec _ _ (Code.cond _ _ _) _ _ _
        refine exec_cond (b := false) rfl (fun h => by cases h) (fun _ => exec_skip ?_)
        exact ⟨hBY, by simp [Slots, Fits, HAD.out]⟩
    · clear hV x
      clear W
      rintro t' Y ⟨hV, hSl⟩
      obtain ⟨x, hx⟩ := Slots.open_ hSl; simp only [fill, Nat.reduceAdd] at hx; subst hx; clear hSl
      have hw : IntKind.i64.wrap ((j : Int) + 1) = ((j + 1 : Nat) : Int) := by rw [IntWalk.i64_in _ (by omega)]; norm_cast
      refine exec_region_o fun ds => ?_
      gi_wp2
      exact eq_mk (Keep.refl _) ⟨n - 1, by rw [HN.out]; omega, j + 1, by omega, by rw [HN.out]; omega, hV, by simp only [Slots, Fits, and_self]; simp⟩
  · exact ⟨hV, by simp [Slots, Fits]⟩
def PoI (a : XP) (bb go c5 : Nat) (AD : Option Addr) (cn : Int) (so : Bool) (V : World) (n : Nat) (t : Array Value) (W : World) : Prop :=
  ∃ p : Nat, p ≤ a.N.length ∧ n = a.N.length - p ∧ Below V.heap.size V W ∧ Slots (none :: none :: some (.pointer (some ⟨bb, 0, none⟩)) :: none :: some (.bool false) :: some (.slice AD a.N.length c5) :: none :: some (vi cn) :: none :: some (.slice (some ⟨go, 0, none⟩) a.N.length a.N.length) :: some (.bool so) :: none :: o4 (o16 (o64 (some (iv a.N.length) :: some (iv p) :: none :: o16 (o16 (o16 (o64 []))))))) t
def PoE (a : XP) (bb go c5 : Nat) (AD : Option Addr) (cn : Int) (so : Bool) (V : World) (t : Array Value) (W : World) : Prop :=
  Below V.heap.size V W ∧ Slots (none :: none :: some (.pointer (some ⟨bb, 0, none⟩)) :: none :: some (.bool false) :: some (.slice AD a.N.length c5) :: none :: some (vi cn) :: none :: some (.slice (some ⟨go, 0, none⟩) a.N.length a.N.length) :: some (.bool so) :: o4 (o4 (o64 (o64 (o64 []))))) t
set_option maxRecDepth 100000 in
set_option maxHeartbeats 4000000 in
theorem se_pairs {a : XP} {bb go c5 : Nat} {AD : Option Addr} {cn : Int} {so : Bool} {l o : List Nat} {V : World} (hf : a.Fine) (hc : canV (toP a.s3) = true) (hV0 : SeV V a bb AD go l o so) {W : World} (hV : Below V.heap.size V W) {t : Array Value} (hSl : Slots (none :: none :: some (.pointer (some ⟨bb, 0, none⟩)) :: none :: some (.bool false) :: some (.slice AD a.N.length c5) :: none :: some (vi cn) :: none :: some (.slice (some ⟨go, 0, none⟩) a.N.length a.N.length) :: some (.bool so) :: o4 (o4 (o64 (o64 (o64 []))))) t) :
    Exec Try.prog none (sub ecode4 [1, 1, 1, 1, 1, 1, 1, 1, 1, 0]) t W (andThen (PoE a bb go c5 AD cn so V) fun _ _ _ => False) := by
  have hu25 := Try.underlying25
  have hn6 := hf.p
  obtain ⟨x, hx⟩ := Slots.open_ hSl; simp only [fill, Nat.reduceAdd] at hx; subst hx; clear hSl
  have hh := (hV0.px.keep hV).heap
  simp only [XP.sN] at hh
  have c0 := cells_get (cs := [_, _, _]) (k := 1) hh rfl
  clear hh
  show Exec _ _ (Code.seq _ (Code.block _ _)) _ _ _
  refine exec_seq (exec_region_o fun ds => ?_)
  gi_wp2
  refine eq_mk (Keep.refl _) ?_
  show Exec _ _ (Code.block _ _) _ _ _
  refine exec_block ?_
  refine exec_loop (PoI a bb go c5 AD cn so V) a.N.length ⟨0, by omega, rfl, hV, by simp [Slots, Fits]⟩ ?_
  clear hV c0 x
  clear W
  rintro n t W ⟨p, hp, hn, hV, hSl⟩
  have HN := Lib.hid hn
  clear hn
  obtain ⟨x, hx⟩ := Slots.open_ hSl; simp only [fill, Nat.reduceAdd] at hx; subst hx; clear hSl
  show Exec _ _ (Code.seq _ (Code.seq _ _)) _ _ _
  refine exec_seq (exec_region_o fun ds => ?_)
  gi_wp2
  refine eq_mk (Keep.refl _) ?_
  show Exec _ _ (Code.seq (Code.cond _ _ _) _) _ _ _
  refine exec_seq (exec_cond (b := decide (p < a.N.length)) (by first | rfl | (show Value.bool _ = _; congr 1; exact decide_eq_decide.2 (by omega))) (fun hp => exec_skip ?_) (fun hp => exec_exit ?_))
  · have hpl : p < a.N.length := by have := of_decide_eq_true hp; omega
    show Exec _ _ (Code.seq (Code.block _ _) _) _ _ _
    refine exec_cut (PqE a bb go c5 AD cn so V p) (exec_block ?_) ?_
    · show Exec _ _ (Code.seq _ _) _ _ _
      refine exec_seq (exec_region_o fun ds => ?_)
      gi_wp2
      refine eq_mk (Keep.refl _) ?_
      show Exec _ _ (sub ecode4 [1, 1, 1, 1, 1, 1, 1, 1, 1, 0, 1, 0, 0, 1, 1, 0, 0, 1]) _ _ _
      refine ((se_judge (cn := cn) (c5 := c5) hf hc hV0 hpl hV ?_).mono ?_)
      · simp [Slots, Fits]
      intro e t Z hh
      obtain ⟨rfl, hh⟩ := only_normal hh
      exact hh
    · clear hV x
      clear W
      rintro t' Y ⟨hV, hSl⟩
      obtain ⟨x, hx⟩ := Slots.open_ hSl; simp only [fill, Nat.reduceAdd] at hx; subst hx; clear hSl
      have hw : IntKind.i64.wrap ((p : Int) + 1) = ((p + 1 : Nat) : Int) := by rw [IntWalk.i64_in _ (by omega)]; norm_cast
      refine exec_region_o fun ds => ?_
      gi_wp2
      exact eq_mk (Keep.refl _) ⟨n - 1, by rw [HN.out]; omega, p + 1, by omega, by rw [HN.out]; omega, hV, by simp only [Slots, Fits, and_self]; simp⟩
  · exact ⟨hV, by simp [Slots, Fits]⟩
end Go.Proofs.Ytbdmmikflkpmpaa
end

section
set_option linter.unusedVariables false
set_option linter.unusedSimpArgs false
namespace Go.Proofs.Ytbdmmikflkpmpaa
open Go.RowKit Go.TL Go.Shelf Go.Pn
attribute [local go_sem] Oper.semAt_some
attribute [local go_sem] run_store_func
def DfI (a : XP) (go c5 : Nat) (AD : Option Addr) (cn : Int) (l o : List Nat) (V : World) (n : Nat) (t : Array Value) (W : World) : Prop :=
  ∃ i : Nat, i ≤ a.N.length ∧ n = a.N.length - i ∧ (∀ k, k < i → l.getD k 0 = o.getD k 0) ∧ Below V.heap.size V W ∧ Slots (o4 (some (.bool false) :: some (.slice AD a.N.length c5) :: none :: some (vi cn) :: none :: some (.slice (some ⟨go, 0, none⟩) a.N.length a.N.length) :: none :: none :: o4 (o4 (o16 (o16 (o64 (o64 (some (iv a.N.length) :: some (iv i) :: none :: o4 (o4 (o4 (o16 []))))))))))) t
set_option maxRecDepth 100000 in
set_option maxHeartbeats 4000000 in
theorem se_diff {a : XP} {bb go c5 : Nat} {AD : Option Addr} {cn : Int} {l o : List Nat} {V : World} (hf : a.Fine) (hV0 : SeV V a bb AD go l o true) (hcn : l ≠ o → 1 < cn) {w : World} (hBV : Below w.heap.size w V) {W : World} (hV : Below V.heap.size V W) {t : Array Value} (hSl : Slots (o4 (some (.bool false) :: some (.slice AD a.N.length c5) :: none :: some (vi cn) :: none :: some (.slice (some ⟨go, 0, none⟩) a.N.length a.N.length) :: none :: o4 (o4 (o64 (o64 (o64 [])))))) t) :
    Exec Try.prog none (sub ecode4 [1, 1, 1, 1, 1, 1, 1, 1, 1, 1, 1]) t W fun e t W => (e = .normal ∨ e = .ret) ∧ ∀ W', Grow w.heap.size W W' → ∃ v, (results Try.f4 t).run Try.prog W' = .ok v W' ∧ v = .bool true ∧ Below w.heap.size w W' := by
  have hu22 := Try.underlying22
  have hn6 := hf.p
  obtain ⟨hl1, hl2⟩ := (mem_seqs _ _ _).1 hV0.fl.mem
  obtain ⟨ho1, ho2⟩ := (mem_seqs _ _ _).1 hV0.mo
  have HCN := Lib.hid hcn
  clear hcn
  obtain ⟨x, hx⟩ := Slots.open_ hSl; simp only [fill, Nat.reduceAdd] at hx; subst hx; clear hSl
  show Exec _ _ (Code.seq (Code.seq _ (Code.block _ _)) _) _ _ _
  refine exec_seq (exec_seq (exec_region_o fun ds => ?_))
  gi_wp2
  refine eq_mk (Keep.refl _) ?_
  show Exec _ _ (Code.block _ _) _ _ _
  refine exec_block ?_
  refine exec_loop (DfI a go c5 AD cn l o V) a.N.length ⟨0, by omega, rfl, fun k h => absurd h (Nat.not_lt_zero _), hV, by simp [Slots, Fits]⟩ ?_
  clear hV x
  clear W
  rintro n t W ⟨i, hi, hn, heq, hV, hSl⟩
  have HN := Lib.hid hn
  have HEQ := Lib.hid heq
  clear hn heq
  obtain ⟨x, hx⟩ := Slots.open_ hSl; simp only [fill, Nat.reduceAdd] at hx; subst hx; clear hSl
  show Exec _ _ (Code.seq _ (Code.seq _ _)) _ _ _
  refine exec_seq (exec_region_o fun ds => ?_)
  gi_wp2
  refine eq_mk (Keep.refl _) ?_
  show Exec _ _ (Code.seq (Code.cond _ _ _) _) _ _ _
  refine exec_seq (exec_cond (b := decide (i < a.N.length)) (by first | rfl | (show Value.bool _ = _; congr 1; exact decide_eq_decide.2 (by omega))) (fun hp => exec_skip ?_) (fun hp => exec_exit ?_))
  · have hil : i < a.N.length := by have := of_decide_eq_true hp; omega
    have hlex := hV0.fl.lex o hV0.mo hV0.oo i hil HEQ.out
    have hiI : (i : Int) < a.N.length := by omega
    obtain ⟨ad, hA, hcl⟩ := row_n (hV0.keep hV).rl (show i < l.length by omega)
    obtain ⟨ae, hE, hco⟩ := row_n (hV0.keep hV).ro (show i < o.length by omega)
    cases hE
    have hco' : W.cell? ⟨go, i, none⟩ = some (iv (o.getD i 0)) := by
      have e : (⟨go, 0, none⟩ : Addr).add i = ⟨go, i, none⟩ := by
        simp [Addr.add]
        exact fun h => h.symm
      rw [← e]
      exact hco
    clear hco
    have hnext : l.getD i 0 = o.getD i 0 → ∀ k, k < i + 1 → l.getD k 0 = o.getD k 0 := fun h k hk => by
      by_cases e : k = i
      · rw [e]; exact h
      · exact HEQ.out k (by omega)
    have hne : l.getD i 0 ≠ o.getD i 0 → 1 < cn := fun h => HCN.out fun e => h (by rw [e])
    obtain ⟨s, hs⟩ : ∃ s, l.getD i 0 = s := ⟨_, rfl⟩
    obtain ⟨u, hu⟩ : ∃ u, o.getD i 0 = u := ⟨_, rfl⟩
    rw [hs] at hcl hlex hnext hne
    rw [hu] at hco' hlex hnext hne
    clear hs hu
    have HNX := Lib.hid hnext
    have HNE := Lib.hid hne
    clear hnext hne HEQ
    simp only [hA]
    have HAD := Lib.hid hA
    clear hA
    have cc : ∀ Y, Below W.heap.size W Y → Y.cell? (ad.add i) = some (iv s) ∧ Y.cell? ⟨go, i, none⟩ = some (iv u) := fun Y hY => ⟨(Grow.of_below (B := 0) hY).cell hcl, (Grow.of_below (B := 0) hY).cell hco'⟩
    show Exec _ _ (Code.seq (Code.block _ _) _) _ _ _
    refine exec_cut (fun t' Y => s = u ∧ Below V.heap.size V Y ∧ Slots (o4 (some (.bool false) :: some (.slice (some ad) a.N.length c5) :: none :: some (vi cn) :: none :: some (.slice (some ⟨go, 0, none⟩) a.N.length a.N.length) :: none :: none :: o4 (o4 (o16 (o16 (o64 (o64 (some (iv a.N.length) :: some (iv i) :: none :: o4 (o4 (o4 (o16 []))))))))))) t') (exec_block (exec_seq (exec_region_o fun ds => ?_))) ?_
    · gi_wp2
      refine eq_mk (Keep.refl _) ?_
      show Exec _ _ (Code.seq _ _) _ _ _
      refine exec_seq (region_of_tail 9 (by kernel_rfl) (by kernel_rfl) (by kernel_rfl) (fun Y => Below W.heap.size W Y) (fun _ _ _ => False) (fun _ _ _ h => h.elim) fun ds => ?_)
      have hS : Below W.heap.size W W.drew := (Below.refl _ W).drew
      refine held_take 0 (.slice (some ad) a.N.length c5) rfl (by kernel_rfl) (by kernel_rfl) (by kernel_rfl) (by intro _ _ _ h; first | exact h | (simpa [behind, Act.put] using h)) rfl (by first | exact hS | assumption) (fun wq hq => ?_) ?_; (focus (first | rfl | (simp [go_sem]; done))); simp only [Act.put, Array.getInternal_eq_getElem, List.take_succ_cons, List.take_zero, List.take_nil, List.getElem_toArray, List.getElem_cons_succ, List.getElem_cons_zero, List.setIfInBounds_toArray, List.set_cons_succ, List.set_cons_zero]
      refine held_take 1 (iv i) rfl (by kernel_rfl) (by kernel_rfl) (by kernel_rfl) (by intro _ _ _ h; first | exact h | (simpa [behind, Act.put] using h)) rfl (by first | exact hS | assumption) (fun wq hq => ?_) ?_; (focus (first | rfl | (simp [go_sem]; done))); simp only [Act.put, Array.getInternal_eq_getElem, List.take_succ_cons, List.take_zero, List.take_nil, List.getElem_toArray, List.getElem_cons_succ, List.getElem_cons_zero, List.setIfInBounds_toArray, List.set_cons_succ, List.set_cons_zero]
      refine held_take 2 (.pointer (some (ad.add i))) rfl (by kernel_rfl) (by kernel_rfl) (by kernel_rfl) (by intro _ _ _ h; first | exact h | (simpa [behind, Act.put] using h)) rfl (by first | exact hS | assumption) (fun wq hq => ?_) ?_; (focus (simp [go_sem, hu22, hiI]; done)); simp only [Act.put, Array.getInternal_eq_getElem, List.take_succ_cons, List.take_zero, List.take_nil, List.getElem_toArray, List.getElem_cons_succ, List.getElem_cons_zero, List.setIfInBounds_toArray, List.set_cons_succ, List.set_cons_zero]
      refine held_take 3 (iv s) rfl (by kernel_rfl) (by kernel_rfl) (by kernel_rfl) (by intro _ _ _ h; first | exact h | (simpa [behind, Act.put] using h)) rfl (by first | exact hS | assumption) (fun wq hq => ?_) ?_; (focus (simp [go_sem, (cc wq hq).1]; done)); simp only [Act.put, Array.getInternal_eq_getElem, List.take_succ_cons, List.take_zero, List.take_nil, List.getElem_toArray, List.getElem_cons_succ, List.getElem_cons_zero, List.setIfInBounds_toArray, List.set_cons_succ, List.set_cons_zero]
      refine held_take 4 (.slice (some ⟨go, 0, none⟩) a.N.length a.N.length) rfl (by kernel_rfl) (by kernel_rfl) (by kernel_rfl) (by intro _ _ _ h; first | exact h | (simpa [behind, Act.put] using h)) rfl (by first | exact hS | assumption) (fun wq hq => ?_) ?_; (focus (first | rfl | (simp [go_sem]; done))); simp only [Act.put, Array.getInternal_eq_getElem, List.take_succ_cons, List.take_zero, List.take_nil, List.getElem_toArray, List.getElem_cons_succ, List.getElem_cons_zero, List.setIfInBounds_toArray, List.set_cons_succ, List.set_cons_zero]
      refine held_take 5 (iv i) rfl (by kernel_rfl) (by kernel_rfl) (by kernel_rfl) (by intro _ _ _ h; first | exact h | (simpa [behind, Act.put] using h)) rfl (by first | exact hS | assumption) (fun wq hq => ?_) ?_; (focus (first | rfl | (simp [go_sem]; done))); simp only [Act.put, Array.getInternal_eq_getElem, List.take_succ_cons, List.take_zero, List.take_nil, List.getElem_toArray, List.getElem_cons_succ, List.getElem_cons_zero, List.setIfInBounds_toArray, List.set_cons_succ, List.set_cons_zero]
      refine held_take 6 (.pointer (some ⟨go, i, none⟩)) rfl (by kernel_rfl) (by kernel_rfl) (by kernel_rfl) (by intro _ _ _ h; first | exact h | (simpa [behind, Act.put] using h)) rfl (by first | exact hS | assumption) (fun wq hq => ?_) ?_; (focus (simp [go_sem, hu22, hiI]; done)); simp only [Act.put, Array.getInternal_eq_getElem, List.take_succ_cons, List.take_zero, List.take_nil, List.getElem_toArray, List.getElem_cons_succ, List.getElem_cons_zero, List.setIfInBounds_toArray, List.set_cons_succ, List.set_cons_zero]
      refine held_take 7 (iv u) rfl (by kernel_rfl) (by kernel_rfl) (by kernel_rfl) (by intro _ _ _ h; first | exact h | (simpa [behind, Act.put] using h)) rfl (by first | exact hS | assumption) (fun wq hq => ?_) ?_; (focus (simp [go_sem, (cc wq hq).2]; done)); simp only [Act.put, Array.getInternal_eq_getElem, List.take_succ_cons, List.take_zero, List.take_nil, List.getElem_toArray, List.getElem_cons_succ, List.getElem_cons_zero, List.setIfInBounds_toArray, List.set_cons_succ, List.set_cons_zero]
      refine held_take 8 (.bool ((s : Int) != (u : Int))) rfl (by kernel_rfl) (by kernel_rfl) (by kernel_rfl) (by intro _ _ _ h; first | exact h | (simpa [behind, Act.put] using h)) rfl (by first | exact hS | assumption) (fun wq hq => ?_) ?_; (focus (simp [go_sem]; done)); simp only [Act.put, Array.getInternal_eq_getElem, List.take_succ_cons, List.take_zero, List.take_nil, List.getElem_toArray, List.getElem_cons_succ, List.getElem_cons_zero, List.setIfInBounds_toArray, List.set_cons_succ, List.set_cons_zero]
      refine held_done (by kernel_rfl) ?_
      refine any_done (by kernel_rfl) ⟨rfl, Keep.of_below hS, ?_⟩
      show Exec _ _ (Code.cond _ _ _) _ _ _
      have hVd := hV.trans (hS.mono hV.size)
      by_cases hsu : s = u
      · refine exec_cond (b := false) (by show Value.bool ((s : Int) != (u : Int)) = _; simp [hsu]) (fun h => by cases h) (fun _ => exec_skip ?_)
        exact ⟨hsu, hVd, by simp [Slots, Fits]⟩
      · refine exec_cond (b := true) (by show Value.bool ((s : Int) != (u : Int)) = _; simp; omega) (fun _ => ?_) (fun h => by cases h)
        have hlt : ((s : Int) < (u : Int)) := by omega
        have hcn1 := HNE.out hsu
        have cd : ∀ Y, Below W.drew.heap.size W.drew Y → Y.cell? (ad.add i) = some (iv s) ∧ Y.cell? ⟨go, i, none⟩ = some (iv u) := fun Y hY => cc Y (hS.trans (hY.mono hS.size))
        clear cc hlex hcl hco' HNX HNE HCN hV
        generalize W.drew = X at *
        clear hS
        clear W
        refine exec_seq (region_of_tail 16 (by kernel_rfl) (by kernel_rfl) (by kernel_rfl) (fun Y => Below X.heap.size X Y) (fun _ _ _ => False) (fun _ _ _ h => h.elim) fun ds => ?_)
        have hS : Below X.heap.size X X.drew := (Below.refl _ X).drew
        refine held_take 0 (.slice (some ad) a.N.length c5) rfl (by kernel_rfl) (by kernel_rfl) (by kernel_rfl) (by intro _ _ _ h; first | exact h | (simpa [behind, Act.put] using h)) rfl (by first | exact hS | assumption) (fun wq hq => ?_) ?_; (focus (first | rfl | (simp [go_sem]; done))); simp only [Act.put, Array.getInternal_eq_getElem, List.take_succ_cons, List.take_zero, List.take_nil, List.getElem_toArray, List.getElem_cons_succ, List.getElem_cons_zero, List.setIfInBounds_toArray, List.set_cons_succ, List.set_cons_zero]
        refine held_take 1 (iv i) rfl (by kernel_rfl) (by kernel_rfl) (by kernel_rfl) (by intro _ _ _ h; first | exact h | (simpa [behind, Act.put] using h)) rfl (by first | exact hS | assumption) (fun wq hq => ?_) ?_; (focus (first | rfl | (simp [go_sem]; done))); simp only [Act.put, Array.getInternal_eq_getElem, List.take_succ_cons, List.take_zero, List.take_nil, List.getElem_toArray, List.getElem_cons_succ, List.getElem_cons_zero, List.setIfInBounds_toArray, List.set_cons_succ, List.set_cons_zero]
        refine held_take 2 (.pointer (some (ad.add i))) rfl (by kernel_rfl) (by kernel_rfl) (by kernel_rfl) (by intro _ _ _ h; first | exact h | (simpa [behind, Act.put] using h)) rfl (by first | exact hS | assumption) (fun wq hq => ?_) ?_; (focus (simp [go_sem, hu22, hiI]; done)); simp only [Act.put, Array.getInternal_eq_getElem, List.take_succ_cons, List.take_zero, List.take_nil, List.getElem_toArray, List.getElem_cons_succ, List.getElem_cons_zero, List.setIfInBounds_toArray, List.set_cons_succ, List.set_cons_zero]
        refine held_take 3 (iv s) rfl (by kernel_rfl) (by kernel_rfl) (by kernel_rfl) (by intro _ _ _ h; first | exact h | (simpa [behind, Act.put] using h)) rfl (by first | exact hS | assumption) (fun wq hq => ?_) ?_; (focus (simp [go_sem, (cd wq hq).1]; done)); simp only [Act.put, Array.getInternal_eq_getElem, List.take_succ_cons, List.take_zero, List.take_nil, List.getElem_toArray, List.getElem_cons_succ, List.getElem_cons_zero, List.setIfInBounds_toArray, List.set_cons_succ, List.set_cons_zero]
        refine held_take 4 (.slice (some ⟨go, 0, none⟩) a.N.length a.N.length) rfl (by kernel_rfl) (by kernel_rfl) (by kernel_rfl) (by intro _ _ _ h; first | exact h | (simpa [behind, Act.put] using h)) rfl (by first | exact hS | assumption) (fun wq hq => ?_) ?_; (focus (first | rfl | (simp [go_sem]; done))); simp only [Act.put, Array.getInternal_eq_getElem, List.take_succ_cons, List.take_zero, List.take_nil, List.getElem_toArray, List.getElem_cons_succ, List.getElem_cons_zero, List.setIfInBounds_toArray, List.set_cons_succ, List.set_cons_zero]
        refine held_take 5 (iv i) rfl (by kernel_rfl) (by kernel_rfl) (by kernel_rfl) (by intro _ _ _ h; first | exact h | (simpa [behind, Act.put] using h)) rfl (by first | exact hS | assumption) (fun wq hq => ?_) ?_; (focus (first | rfl | (simp [go_sem]; done))); simp only [Act.put, Array.getInternal_eq_getElem, List.take_succ_cons, List.take_zero, List.take_nil, List.getElem_toArray, List.getElem_cons_succ, List.getElem_cons_zero, List.setIfInBounds_toArray, List.set_cons_succ, List.set_cons_zero]
        refine held_take 6 (.pointer (some ⟨go, i, none⟩)) rfl (by kernel_rfl) (by kernel_rfl) (by kernel_rfl) (by intro _ _ _ h; first | exact h | (simpa [behind, Act.put] using h)) rfl (by first | exact hS | assumption) (fun wq hq => ?_) ?_; (focus (simp [go_sem, hu22, hiI]; done)); simp only [Act.put, Array.getInternal_eq_getElem, List.take_succ_cons, List.take_zero, List.take_nil, List.getElem_toArray, List.getElem_cons_succ, List.getElem_cons_zero, List.setIfInBounds_toArray, List.set_cons_succ, List.set_cons_zero]
        refine held_take 7 (iv u) rfl (by kernel_rfl) (by kernel_rfl) (by kernel_rfl) (by intro _ _ _ h; first | exact h | (simpa [behind, Act.put] using h)) rfl (by first | exact hS | assumption) (fun wq hq => ?_) ?_; (focus (simp [go_sem, (cd wq hq).2]; done)); simp only [Act.put, Array.getInternal_eq_getElem, List.take_succ_cons, List.take_zero, List.take_nil, List.getElem_toArray, List.getElem_cons_succ, List.getElem_cons_zero, List.setIfInBounds_toArray, List.set_cons_succ, List.set_cons_zero]
        refine held_take 8 (.bool true) rfl (by kernel_rfl) (by kernel_rfl) (by kernel_rfl) (by intro _ _ _ h; first | exact h | (simpa [behind, Act.put] using h)) rfl (by first | exact hS | assumption) (fun wq hq => ?_) ?_; (focus (simp [go_sem, hlt]; done)); simp only [Act.put, Array.getInternal_eq_getElem, List.take_succ_cons, List.take_zero, List.take_nil, List.getElem_toArray, List.getElem_cons_succ, List.getElem_cons_zero, List.setIfInBounds_toArray, List.set_cons_succ, List.set_cons_zero]
        refine held_take 9 (.bool true) rfl (by kernel_rfl) (by kernel_rfl) (by kernel_rfl) (by intro _ _ _ h; first | exact h | (simpa [behind, Act.put] using h)) rfl (by first | exact hS | assumption) (fun wq hq => ?_) ?_; (focus (first | rfl | (simp [go_sem]; done))); simp only [Act.put, Array.getInternal_eq_getElem, List.take_succ_cons, List.take_zero, List.take_nil, List.getElem_toArray, List.getElem_cons_succ, List.getElem_cons_zero, List.setIfInBounds_toArray, List.set_cons_succ, List.set_cons_zero]
        refine held_take 10 (vi cn) rfl (by kernel_rfl) (by kernel_rfl) (by kernel_rfl) (by intro _ _ _ h; exact h) (by kernel_rfl) (by first | exact hS | assumption) (fun wq hq => ?_) ?_; (focus (simp [go_sem]; done)); simp only [Act.put, Array.getInternal_eq_getElem, List.take_succ_cons, List.take_zero, List.take_nil, List.getElem_toArray, List.getElem_cons_succ, List.getElem_cons_zero, List.setIfInBounds_toArray, List.set_cons_succ, List.set_cons_zero]
        refine held_take 11 (.bool true) rfl (by kernel_rfl) (by kernel_rfl) (by kernel_rfl) (by intro _ _ _ h; exact h) (by kernel_rfl) (by first | exact hS | assumption) (fun wq hq => ?_) ?_; (focus (simp [go_sem, hcn1]; done)); simp only [Act.put, Array.getInternal_eq_getElem, List.take_succ_cons, List.take_zero, List.take_nil, List.getElem_toArray, List.getElem_cons_succ, List.getElem_cons_zero, List.setIfInBounds_toArray, List.set_cons_succ, List.set_cons_zero]
        refine held_take 12 (.bool true) rfl (by kernel_rfl) (by kernel_rfl) (by kernel_rfl) (by intro _ _ _ h; exact h) (by kernel_rfl) (by first | exact hS | assumption) (fun wq hq => ?_) ?_; (focus (simp [go_sem]; done)); simp only [Act.put, Array.getInternal_eq_getElem, List.take_succ_cons, List.take_zero, List.take_nil, List.getElem_toArray, List.getElem_cons_succ, List.getElem_cons_zero, List.setIfInBounds_toArray, List.set_cons_succ, List.set_cons_zero]
        refine held_take 13 (.bool true) rfl (by kernel_rfl) (by kernel_rfl) (by kernel_rfl) (by intro _ _ _ h; first | exact h | (simpa [behind, Act.put] using h)) rfl (by first | exact hS | assumption) (fun wq hq => ?_) ?_; (focus (first | rfl | (simp [go_sem]; done))); simp only [Act.put, Array.getInternal_eq_getElem, List.take_succ_cons, List.take_zero, List.take_nil, List.getElem_toArray, List.getElem_cons_succ, List.getElem_cons_zero, List.setIfInBounds_toArray, List.set_cons_succ, List.set_cons_zero]
        refine held_call 14 (f := 14) (args := #[]) rfl (by kernel_rfl) (by kernel_rfl) (by simp [go_sem]) ?_
        refine (alive14 X.drew).mono ?_
        rintro e X1 ⟨rfl, hx1⟩
        have k1 : Below X.heap.size X X1 := hS.trans hx1
        refine .inl ⟨_, rfl, k1, ?_⟩
        simp only [Act.put, Array.getInternal_eq_getElem, List.take_succ_cons, List.take_zero, List.take_nil, List.getElem_toArray, List.getElem_cons_succ, List.getElem_cons_zero, List.setIfInBounds_toArray, List.set_cons_succ, List.set_cons_zero]
        refine held_take 15 (.bool true) rfl (by kernel_rfl) (by kernel_rfl) (by kernel_rfl) (by intro _ _ _ h; exact h) (by kernel_rfl) (by first | exact hS | assumption) (fun wq hq => ?_) ?_; (focus (simp [go_sem]; done)); simp only [Act.put, Array.getInternal_eq_getElem, List.take_succ_cons, List.take_zero, List.take_nil, List.getElem_toArray, List.getElem_cons_succ, List.getElem_cons_zero, List.setIfInBounds_toArray, List.set_cons_succ, List.set_cons_zero]
        refine held_done (by kernel_rfl) ?_
        refine behind_normal 1 (by kernel_rfl) ?_
        refine any_val 16 (.bool true) rfl (by kernel_rfl) rfl (by first | (simp [go_sem]; done) | rfl) ?_; simp only [Act.put, Array.getInternal_eq_getElem, List.take_succ_cons, List.take_zero, List.take_nil, List.getElem_toArray, List.getElem_cons_succ, List.getElem_cons_zero, List.setIfInBounds_toArray, List.set_cons_succ, List.set_cons_zero]
        try simp only [Act.put, Array.getInternal_eq_getElem, List.take_succ_cons, List.take_zero, List.take_nil, List.drop_succ_cons, List.drop_zero, List.append_toArray, List.cons_append, List.nil_append, List.getElem_toArray, List.getElem_cons_succ, List.getElem_cons_zero, List.setIfInBounds_toArray, List.set_cons_succ, List.set_cons_zero]
        refine any_done (by kernel_rfl) ⟨rfl, Keep.of_below k1, ?_⟩
        show Exec _ _ _ _ _ _
        have hBY := (hBV.trans (hVd.mono hBV.size)).trans (k1.mono (Nat.le_trans hBV.size hVd.size))
        exact exec_ret ⟨.inr rfl, fun W' hG => ⟨.bool true, by simp [results, Try.f4, go_sem], rfl, hBY.trans (hG.below (Nat.le_refl _) hBY.size)⟩⟩
    · clear hV x hcl hco' cc hlex HNE
      clear W
      rintro t' Y ⟨hsu, hV, hSl⟩
      have hnx := HNX.out hsu
      have HNY := Lib.hid hnx
      clear hsu hnx HNX
      obtain ⟨x, hx⟩ := Slots.open_ hSl; simp only [fill, Nat.reduceAdd] at hx; subst hx; clear hSl
      have hw : IntKind.i64.wrap ((i : Int) + 1) = ((i + 1 : Nat) : Int) := by rw [IntWalk.i64_in _ (by omega)]; norm_cast
      refine exec_region_o fun ds => ?_
      gi_wp2
      exact eq_mk (Keep.refl _) ⟨n - 1, by rw [HN.out]; omega, i + 1, by omega, by rw [HN.out]; omega, HNY.out, hV, by simp only [Slots, Fits, and_self]; simp [HAD.out]⟩
  · show Exec _ _ (Code.seq _ _) _ _ _
    refine exec_seq (exec_region_o fun ds => ?_)
    gi_wp2_with fail
    refine ⟨trivial, rfl, (callsIn_wide.2 (alive14 W)).mono ?_⟩
    rintro e Y ⟨rfl, hy⟩
    have hBY := (hBV.trans (hV.mono hBV.size)).trans (hy.mono (Nat.le_trans hBV.size hV.size))
    gi_wp2
    refine eq_mk (Keep.of_below hy) ?_
    show Exec _ _ _ _ _ _
    exact exec_ret ⟨.inr rfl, fun W' hG => ⟨.bool true, by simp [results, Try.f4, go_sem], rfl, hBY.trans (hG.below (Nat.le_refl _) hBY.size)⟩⟩
end Go.Proofs.Ytbdmmikflkpmpaa
end

section
set_option linter.unusedVariables false
set_option linter.unusedSimpArgs false
namespace Go.Proofs.Ytbdmmikflkpmpaa
open Go.RowKit Go.TL Go.Shelf Go.Pn
attribute [local go_sem] Oper.semAt_some
attribute [local go_sem] run_store_func
set_option maxRecDepth 100000 in
set_option maxHeartbeats 4000000 in
theorem seating_law (a : XP) (B : Option Addr) (n1 c1' : Nat) (w : World) (h : a.Row w) (hn1 : n1 < 2 ^ 63) (hrB : RowU w B n1) : Calls Try.prog 4 #[a.val, .slice B n1 c1'] w fun e w' => e = .returned (.bool true) ∧ Below w.heap.size w w' := by
  have hu25 := Try.underlying25
  have hu22 := Try.underlying22
  have hu23 := Try.underlying23
  have hmf : ∀ fn first cap w, (Instr.makeFunc fn first cap).run Try.prog w = .ok (.func fn first cap) w := fun _ _ _ _ => rfl
  refine calls_of_exec Try.func4 rfl ?_
  simp only [Try.ntmps4, List.size_toArray, List.length_cons, List.length_nil, Nat.reduceAdd, Nat.reduceSub, Array.replicate_succ, Array.replicate_zero, List.push_toArray, List.append_toArray, List.nil_append, List.cons_append]
  simp only [XP.val]
  refine exec_seq (exec_region_o fun ds => ?_)
  gi_wp2
  refine eq_mk ((Keep.refl w).alloc _) ?_
  show Exec _ _ (Code.seq _ _) _ (w.alloc (.cells #[a.sL, a.sN, a.sK] 25)) _
  have hB := (Below.refl w.heap.size w).alloc (Nat.le_refl _) (.cells #[a.sL, a.sN, a.sK] 25)
  have hh : (w.alloc (.cells #[a.sL, a.sN, a.sK] 25)).heap[w.heap.size]? = some (.cells #[a.sL, a.sN, a.sK] 25 (0, 0)) := World.alloc_heap_new _ _
  have hR := h.below hB
  generalize w.alloc (.cells #[a.sL, a.sN, a.sK] 25) = W0 at *
  have c0 := cells_get (cs := [_, _, _]) (k := 0) hh rfl
  have c1 := cells_get (cs := [_, _, _]) (k := 1) hh rfl
  have c2 := cells_get (cs := [_, _, _]) (k := 2) hh rfl
  obtain ⟨hv, hhv⟩ : ∃ b, heavyB a 6 6 10 = b := ⟨_, rfl⟩
  have hvy : Calls Try.prog 13 #[.agg #[a.sL, a.sN, a.sK], .int .i64 6, .int .i64 6, .int .i64 10] W0 fun e w' => e = .returned (.bool (heavyB a 6 6 10)) ∧ Below W0.heap.size W0 w' := heavy13 a 6 6 10 W0 hR
  rw [hhv] at hvy
  refine exec_seq (exec_seq (exec_region_o fun ds => ?_))
  gi_wp2_with fail
  refine ⟨trivial, rfl, (callsIn_wide.2 hvy).mono ?_⟩
  rintro e X0 ⟨rfl, hx⟩
  have hhX := (hx.block _ (heap_lt hh)).trans hh
  have hRX := hR.below hx
  have hBX := hB.trans (hx.mono hB.size)
  have hK := Keep.of_below hx
  clear hx hvy c0 c1 c2 hh hR hB h
  gi_wp2
  refine eq_mk hK ?_
  show Exec _ _ (Code.cond _ _ _) _ _ _
  clear hK
  clear W0
  cases hv with
  | true =>
    refine exec_cond (b := true) rfl (fun _ => ?_) (fun h => by cases h)
    refine exec_seq (exec_region_o fun ds => ?_)
    gi_wp2_with fail
    refine ⟨trivial, rfl, (callsIn_wide.2 (alive14 X0)).mono ?_⟩
    rintro e Y ⟨rfl, hy⟩
    have hBY := hBX.trans (hy.mono hBX.size)
    gi_wp2
    refine eq_mk (Keep.of_below hy) ?_
    show Exec _ _ _ _ _ _
    exact exec_ret ⟨.inr rfl, fun W' hG => ⟨.bool true, by simp [results, Try.f4, go_sem], rfl, hBY.trans (hG.below (Nat.le_refl _) hBY.size)⟩⟩
  | false =>
  refine exec_cond (b := false) rfl (fun h => by cases h) (fun _ => exec_skip ?_)
  have hsm : a.small = true := by
    cases hs : a.small with
    | true => rfl
    | false => rw [heavyB, hs] at hhv; cases hhv
  have h3 : (a.L.length ≤ 40 ∧ a.N.length ≤ 40) ∧ a.K.length ≤ 40 := by simpa [XP.small] using hsm
  have hX0 : PBx X0 w.heap.size a := ⟨hhX, hRX.at_ h3.1.1 h3.1.2 h3.2⟩
  have HVY := Lib.hid hhv
  clear hhv hsm h3 hhX hRX
  show Exec _ _ (Code.seq _ _) _ _ _
  cases hq : a.isP with
  | false =>
    have e1 : sitA a = ([], 1) := by simp [sitA, hq]
    have e2 : countA a = (0, 1) := by simp [countA, hq]
    have hc3 := Sit_any a X0 hX0.at_
    rw [e1] at hc3
    have c0 := cells_get (cs := [_, _, _]) (k := 0) hX0.heap rfl
    have c1 := cells_get (cs := [_, _, _]) (k := 1) hX0.heap rfl
    have c2 := cells_get (cs := [_, _, _]) (k := 2) hX0.heap rfl
    refine exec_seq (exec_region_o fun ds => ?_)
    gi_wp2_with fail
    refine ⟨trivial, rfl, (callsIn_wide.2 (hc3)).mono ?_⟩
    rintro e X1 ⟨A5, c5, rfl, hrl, hy⟩
    have hX1 := hX0.keep hy
    have hK := Keep.of_below hy
    replace hBX := hBX.trans (hy.mono hBX.size)
    clear hy c0 c1 c2 hX0 hc3
    gi_wp2
    refine eq_mk hK ?_
    show Exec _ _ (Code.seq _ _) _ _ _
    clear hK
    clear X0
    have hc3 := Count_any a X1 hX1.at_
    rw [e2] at hc3
    have c0 := cells_get (cs := [_, _, _]) (k := 0) hX1.heap rfl
    have c1 := cells_get (cs := [_, _, _]) (k := 1) hX1.heap rfl
    have c2 := cells_get (cs := [_, _, _]) (k := 2) hX1.heap rfl
    refine exec_seq (exec_region_o fun ds => ?_)
    gi_wp2_with fail
    refine ⟨trivial, rfl, (callsIn_wide.2 (hc3)).mono ?_⟩
    rintro e X2 ⟨rfl, hy⟩
    have hX2 := hX1.keep hy
    have hK := Keep.of_below hy
    replace hrl := hrl.below hy
    replace hBX := hBX.trans (hy.mono hBX.size)
    clear hy c0 c1 c2 hX1 hc3
    gi_wp2
    refine eq_mk hK ?_
    show Exec _ _ (Code.seq _ _) _ _ _
    clear hK
    clear X1
    have hp := panels22 a X2 hX2.at_
    rw [hq] at hp
    clear e1 e2 hq
    refine exec_seq (exec_seq (exec_region_o fun ds => ?_))
    gi_wp2
    first | refine ⟨trivial, ?_⟩ | skip
    rename_i hK
    refine hK _ _ ?_
    gi_wp2
    refine eq_mk (Keep.refl _) ?_
    show Exec _ _ (Code.cond _ _ _) _ _ _
    refine exec_cond (b := true) rfl (fun _ => ?_) (fun h => by cases h)
    have c0 := cells_get (cs := [_, _, _]) (k := 0) hX2.heap rfl
    have c1 := cells_get (cs := [_, _, _]) (k := 1) hX2.heap rfl
    have c2 := cells_get (cs := [_, _, _]) (k := 2) hX2.heap rfl
    refine exec_seq (exec_region_o fun ds => ?_)
    gi_wp2_with fail
    refine ⟨trivial, rfl, (callsIn_wide.2 hp).mono ?_⟩
    rintro e X4 ⟨rfl, hy4⟩
    gi_wp2_with fail
    refine ⟨trivial, rfl, (callsIn_wide.2 (alive14 X4)).mono ?_⟩
    rintro e X5 ⟨rfl, hy5⟩
    have hy := hy4.trans (hy5.mono hy4.size)
    have hBY := hBX.trans (hy.mono hBX.size)
    gi_wp2
    refine eq_mk (Keep.of_below hy) ?_
    show Exec _ _ _ _ _ _
    exact exec_ret ⟨.inr rfl, fun W' hG => ⟨.bool true, by simp [results, Try.f4, go_sem], rfl, hBY.trans (hG.below (Nat.le_refl _) hBY.size)⟩⟩
  | true =>
  have hf := a.fine hq
  have e2 : countA a = (((countF a : Nat) : Int), 0) := by simp [countA, hq]
  cases hc : canV (toP a.s3) with
  | false =>
    have e1 : sitA a = ([], 4) := by simp [sitA, hq, hc]
    have e3 := (no_seating hf hc).1
    rw [e3] at e2
    have hc3 := Sit_any a X0 hX0.at_
    rw [e1] at hc3
    have c0 := cells_get (cs := [_, _, _]) (k := 0) hX0.heap rfl
    have c1 := cells_get (cs := [_, _, _]) (k := 1) hX0.heap rfl
    have c2 := cells_get (cs := [_, _, _]) (k := 2) hX0.heap rfl
    refine exec_seq (exec_region_o fun ds => ?_)
    gi_wp2_with fail
    refine ⟨trivial, rfl, (callsIn_wide.2 (hc3)).mono ?_⟩
    rintro e X1 ⟨A5, c5, rfl, hrl, hy⟩
    have hX1 := hX0.keep hy
    have hK := Keep.of_below hy
    replace hBX := hBX.trans (hy.mono hBX.size)
    clear hy c0 c1 c2 hX0 hc3
    gi_wp2
    refine eq_mk hK ?_
    show Exec _ _ (Code.seq _ _) _ _ _
    clear hK
    clear X0
    have hc3 := Count_any a X1 hX1.at_
    rw [e2] at hc3
    have c0 := cells_get (cs := [_, _, _]) (k := 0) hX1.heap rfl
    have c1 := cells_get (cs := [_, _, _]) (k := 1) hX1.heap rfl
    have c2 := cells_get (cs := [_, _, _]) (k := 2) hX1.heap rfl
    refine exec_seq (exec_region_o fun ds => ?_)
    gi_wp2_with fail
    refine ⟨trivial, rfl, (callsIn_wide.2 (hc3)).mono ?_⟩
    rintro e X2 ⟨rfl, hy⟩
    have hX2 := hX1.keep hy
    have hK := Keep.of_below hy
    replace hrl := hrl.below hy
    replace hBX := hBX.trans (hy.mono hBX.size)
    clear hy c0 c1 c2 hX1 hc3
    gi_wp2
    refine eq_mk hK ?_
    show Exec _ _ (Code.seq _ _) _ _ _
    clear hK
    clear X1
    have hp := panels22 a X2 hX2.at_
    rw [hq] at hp
    clear e1 e2 hq
    have c0 := cells_get (cs := [_, _, _]) (k := 0) hX2.heap rfl
    have c1 := cells_get (cs := [_, _, _]) (k := 1) hX2.heap rfl
    have c2 := cells_get (cs := [_, _, _]) (k := 2) hX2.heap rfl
    refine exec_seq (exec_seq (exec_region_o fun ds => ?_))
    gi_wp2_with fail
    refine ⟨trivial, rfl, (callsIn_wide.2 (hp)).mono ?_⟩
    rintro e X3 ⟨rfl, hy⟩
    have hX3 := hX2.keep hy
    have hK := Keep.of_below hy
    replace hrl := hrl.below hy
    replace hBX := hBX.trans (hy.mono hBX.size)
    clear hy c0 c1 c2 hX2 hp
    gi_wp2
    refine eq_mk hK ?_
    show Exec _ _ (Code.cond _ _ _) _ _ _
    clear hK
    clear X2
    refine exec_cond (b := false) rfl (fun h => by cases h) (fun _ => exec_skip ?_)
    show Exec _ _ (Code.seq _ _) _ _ _
    have hot := other23 a hf B n1 c1' hn1 X3 hX3.at_ (hrB.below hBX)
    have c0 := cells_get (cs := [_, _, _]) (k := 0) hX3.heap rfl
    have c1 := cells_get (cs := [_, _, _]) (k := 1) hX3.heap rfl
    have c2 := cells_get (cs := [_, _, _]) (k := 2) hX3.heap rfl
    refine exec_seq (exec_region_o fun ds => ?_)
    gi_wp2_with fail
    refine ⟨trivial, rfl, (callsIn_wide.2 (hot)).mono ?_⟩
    rintro e X4 ⟨go, o, rfl, hmo, hro, hy⟩
    have hX4 := hX3.keep hy
    have hK := Keep.of_below hy
    replace hrl := hrl.below hy
    replace hBX := hBX.trans (hy.mono hBX.size)
    clear hy c0 c1 c2 hX3 hot
    gi_wp2
    refine eq_mk hK ?_
    show Exec _ _ (Code.seq _ _) _ _ _
    clear hK
    clear X3
    have hol := ((mem_seqs _ _ _).1 hmo).1
    have hse := seated24 a hf o hmo (some ⟨go, 0, none⟩) a.N.length X4 hX4.at_ hro
    rw [hol] at hse
    obtain ⟨so, hso⟩ : ∃ so, okL (nf (toP a.s3)) a.s3.1 o = so := ⟨_, rfl⟩
    rw [hso] at hse
    have c0 := cells_get (cs := [_, _, _]) (k := 0) hX4.heap rfl
    have c1 := cells_get (cs := [_, _, _]) (k := 1) hX4.heap rfl
    have c2 := cells_get (cs := [_, _, _]) (k := 2) hX4.heap rfl
    refine exec_seq (exec_region_o fun ds => ?_)
    gi_wp2_with fail
    refine ⟨trivial, rfl, (callsIn_wide.2 (hse)).mono ?_⟩
    rintro e X5 ⟨rfl, hy⟩
    have hX5 := hX4.keep hy
    have hK := Keep.of_below hy
    replace hrl := hrl.below hy
    replace hro := hro.below hy
    replace hBX := hBX.trans (hy.mono hBX.size)
    clear hy c0 c1 c2 hX4 hse
    gi_wp2
    refine eq_mk hK ?_
    show Exec _ _ (Code.seq (Code.seq _ _) _) _ _ _
    clear hK
    clear X4
    have hno := no_seating hf hc
    have hso' := hno.2 o hmo
    rw [hso] at hso'
    subst hso'
    refine exec_seq (exec_seq (exec_region_o fun ds => ?_))
    gi_wp2
    refine eq_mk (Keep.refl _) ?_
    show Exec _ _ (Code.cond _ _ _) _ _ _
    refine exec_cond (b := true) rfl (fun _ => ?_) (fun h => by cases h)
    refine exec_seq (exec_region_o fun ds => ?_)
    gi_wp2_with fail
    refine ⟨trivial, rfl, (callsIn_wide.2 (alive14 X5)).mono ?_⟩
    rintro e Y ⟨rfl, hy⟩
    have hBY := hBX.trans (hy.mono hBX.size)
    gi_wp2
    refine eq_mk (Keep.of_below hy) ?_
    show Exec _ _ _ _ _ _
    exact exec_ret ⟨.inr rfl, fun W' hG => ⟨.bool true, by simp [results, Try.f4, go_sem], rfl, hBY.trans (hG.below (Nat.le_refl _) hBY.size)⟩⟩
  | true =>
    have e1 : sitA a = ((sitFold a a.N.length).1, 0) := by simp [sitA, hq, hc]
    have hF := sit_facts hf hc
    have hll := ((mem_seqs _ _ _).1 hF.mem).1
    have hone := hF.one
    have htwo' := hF.two
    generalize (sitFold a a.N.length).1 = l at *
    generalize countF a = cn at *
    have hc3 := Sit_any a X0 hX0.at_
    rw [e1] at hc3
    simp only [hll] at hc3
    have c0 := cells_get (cs := [_, _, _]) (k := 0) hX0.heap rfl
    have c1 := cells_get (cs := [_, _, _]) (k := 1) hX0.heap rfl
    have c2 := cells_get (cs := [_, _, _]) (k := 2) hX0.heap rfl
    refine exec_seq (exec_region_o fun ds => ?_)
    gi_wp2_with fail
    refine ⟨trivial, rfl, (callsIn_wide.2 (hc3)).mono ?_⟩
    rintro e X1 ⟨A5, c5, rfl, hrl, hy⟩
    have hX1 := hX0.keep hy
    have hK := Keep.of_below hy
    replace hBX := hBX.trans (hy.mono hBX.size)
    clear hy c0 c1 c2 hX0 hc3
    gi_wp2
    refine eq_mk hK ?_
    show Exec _ _ (Code.seq _ _) _ _ _
    clear hK
    clear X0
    have hc3 := Count_any a X1 hX1.at_
    rw [e2] at hc3
    have c0 := cells_get (cs := [_, _, _]) (k := 0) hX1.heap rfl
    have c1 := cells_get (cs := [_, _, _]) (k := 1) hX1.heap rfl
    have c2 := cells_get (cs := [_, _, _]) (k := 2) hX1.heap rfl
    refine exec_seq (exec_region_o fun ds => ?_)
    gi_wp2_with fail
    refine ⟨trivial, rfl, (callsIn_wide.2 (hc3)).mono ?_⟩
    rintro e X2 ⟨rfl, hy⟩
    have hX2 := hX1.keep hy
    have hK := Keep.of_below hy
    replace hrl := hrl.below hy
    replace hBX := hBX.trans (hy.mono hBX.size)
    clear hy c0 c1 c2 hX1 hc3
    gi_wp2
    refine eq_mk hK ?_
    show Exec _ _ (Code.seq _ _) _ _ _
    clear hK
    clear X1
    have hp := panels22 a X2 hX2.at_
    rw [hq] at hp
    clear e1 e2 hq
    have c0 := cells_get (cs := [_, _, _]) (k := 0) hX2.heap rfl
    have c1 := cells_get (cs := [_, _, _]) (k := 1) hX2.heap rfl
    have c2 := cells_get (cs := [_, _, _]) (k := 2) hX2.heap rfl
    refine exec_seq (exec_seq (exec_region_o fun ds => ?_))
    gi_wp2_with fail
    refine ⟨trivial, rfl, (callsIn_wide.2 (hp)).mono ?_⟩
    rintro e X3 ⟨rfl, hy⟩
    have hX3 := hX2.keep hy
    have hK := Keep.of_below hy
    replace hrl := hrl.below hy
    replace hBX := hBX.trans (hy.mono hBX.size)
    clear hy c0 c1 c2 hX2 hp
    gi_wp2
    refine eq_mk hK ?_
    show Exec _ _ (Code.cond _ _ _) _ _ _
    clear hK
    clear X2
    refine exec_cond (b := false) rfl (fun h => by cases h) (fun _ => exec_skip ?_)
    show Exec _ _ (Code.seq _ _) _ _ _
    have hot := other23 a hf B n1 c1' hn1 X3 hX3.at_ (hrB.below hBX)
    have c0 := cells_get (cs := [_, _, _]) (k := 0) hX3.heap rfl
    have c1 := cells_get (cs := [_, _, _]) (k := 1) hX3.heap rfl
    have c2 := cells_get (cs := [_, _, _]) (k := 2) hX3.heap rfl
    refine exec_seq (exec_region_o fun ds => ?_)
    gi_wp2_with fail
    refine ⟨trivial, rfl, (callsIn_wide.2 (hot)).mono ?_⟩
    rintro e X4 ⟨go, o, rfl, hmo, hro, hy⟩
    have hX4 := hX3.keep hy
    have hK := Keep.of_below hy
    replace hrl := hrl.below hy
    replace hBX := hBX.trans (hy.mono hBX.size)
    clear hy c0 c1 c2 hX3 hot
    gi_wp2
    refine eq_mk hK ?_
    show Exec _ _ (Code.seq _ _) _ _ _
    clear hK
    clear X3
    have hol := ((mem_seqs _ _ _).1 hmo).1
    have hse := seated24 a hf o hmo (some ⟨go, 0, none⟩) a.N.length X4 hX4.at_ hro
    rw [hol] at hse
    obtain ⟨so, hso⟩ : ∃ so, okL (nf (toP a.s3)) a.s3.1 o = so := ⟨_, rfl⟩
    rw [hso] at hse
    have c0 := cells_get (cs := [_, _, _]) (k := 0) hX4.heap rfl
    have c1 := cells_get (cs := [_, _, _]) (k := 1) hX4.heap rfl
    have c2 := cells_get (cs := [_, _, _]) (k := 2) hX4.heap rfl
    refine exec_seq (exec_region_o fun ds => ?_)
    gi_wp2_with fail
    refine ⟨trivial, rfl, (callsIn_wide.2 (hse)).mono ?_⟩
    rintro e X5 ⟨rfl, hy⟩
    have hX5 := hX4.keep hy
    have hK := Keep.of_below hy
    replace hrl := hrl.below hy
    replace hro := hro.below hy
    replace hBX := hBX.trans (hy.mono hBX.size)
    clear hy c0 c1 c2 hX4 hse
    gi_wp2
    refine eq_mk hK ?_
    show Exec _ _ (Code.seq (Code.seq _ _) _) _ _ _
    clear hK
    clear X4
    refine exec_seq (exec_seq (exec_region_o fun ds => ?_))
    gi_wp2
    refine eq_mk (Keep.refl _) ?_
    show Exec _ _ (Code.cond _ _ _) _ _ _
    refine exec_cond (b := false) rfl (fun h => by cases h) (fun _ => exec_skip ?_)
    show Exec _ _ (Code.seq (Code.seq _ _) _) _ _ _
    have hs2 := seated24 a hf l hF.mem A5 c5 X5 hX5.at_ hrl
    rw [hF.ok, hll] at hs2
    have hcn1 : ¬ ((cn : Int) < 1) := by omega
    have c0 := cells_get (cs := [_, _, _]) (k := 0) hX5.heap rfl
    have c1 := cells_get (cs := [_, _, _]) (k := 1) hX5.heap rfl
    have c2 := cells_get (cs := [_, _, _]) (k := 2) hX5.heap rfl
    refine exec_seq (exec_seq (exec_region_o fun ds => ?_))
    gi_wp2_with fail
    refine ⟨trivial, rfl, (callsIn_wide.2 (hs2)).mono ?_⟩
    rintro e X6 ⟨rfl, hy⟩
    have hX6 := hX5.keep hy
    have hK := Keep.of_below hy
    replace hrl := hrl.below hy
    replace hro := hro.below hy
    replace hBX := hBX.trans (hy.mono hBX.size)
    clear hy c0 c1 c2 hX5 hs2
    gi_wp2
    refine eq_mk hK ?_
    show Exec _ _ (Code.cond _ _ _) _ _ _
    clear hK
    clear X5
    refine exec_cond (b := false) (by first | rfl | (show Value.bool _ = _; congr 1; exact decide_eq_false (by omega))) (fun h => by cases h) (fun _ => exec_skip ?_)
    have hV0 : SeV X6 a w.heap.size A5 go l o so := ⟨hX6, hrl, hro, hF, hmo, hso⟩
    show Exec _ _ (Code.seq (sub ecode4 [1, 1, 1, 1, 1, 1, 1, 1, 1, 0]) (Code.seq (Code.seq _ _) _)) _ _ _
    refine exec_seq ((se_pairs (c5 := c5) (cn := (cn : Int)) hf hc hV0 (Below.refl _ _) ?_).mono ?_)
    · simp [Slots, Fits]
    intro e t Z hh
    obtain ⟨rfl, hBZ, hSl⟩ := only_normal hh
    clear hh
    obtain ⟨x, hx⟩ := Slots.open_ hSl; simp only [fill, Nat.reduceAdd] at hx; subst hx; clear hSl
    cases so with
    | false =>
      have hBW := hBX.trans (hBZ.mono hBX.size)
      refine exec_seq (exec_seq (exec_region_o fun ds => ?_))
      gi_wp2
      refine eq_mk (Keep.refl _) ?_
      show Exec _ _ (Code.cond _ _ _) _ _ _
      refine exec_cond (b := true) rfl (fun _ => ?_) (fun h => by cases h)
      refine exec_seq (exec_region_o fun ds => ?_)
      gi_wp2_with fail
      refine ⟨trivial, rfl, (callsIn_wide.2 (alive14 Z)).mono ?_⟩
      rintro e Y ⟨rfl, hy⟩
      have hBY := hBW.trans (hy.mono hBW.size)
      gi_wp2
      refine eq_mk (Keep.of_below hy) ?_
      show Exec _ _ _ _ _ _
      exact exec_ret ⟨.inr rfl, fun W' hG => ⟨.bool true, by simp [results, Try.f4, go_sem], rfl, hBY.trans (hG.below (Nat.le_refl _) hBY.size)⟩⟩
    | true =>
      refine exec_seq (exec_seq (exec_region_o fun ds => ?_))
      gi_wp2
      refine eq_mk (Keep.refl _) ?_
      show Exec _ _ (Code.cond _ _ _) _ _ _
      refine exec_cond (b := false) rfl (fun h => by cases h) (fun _ => exec_skip ?_)
      show Exec _ _ (sub ecode4 [1, 1, 1, 1, 1, 1, 1, 1, 1, 1, 1]) _ _ _
      have htwo : l ≠ o → 1 < (cn : Int) := fun h => by
        have := htwo' o hmo hso h
        omega
      exact se_diff (c5 := c5) (cn := (cn : Int)) hf hV0 htwo hBX hBZ (by simp [Slots, Fits])
end Go.Proofs.Ytbdmmikflkpmpaa
end

section
namespace Go.Proofs.Ytbdmmikflkpmpaa
open Go.RowKit
theorem bounds_u8 {n : Int} (h : (Lit.int .u8 n).wf = true) : 0 ≤ n ∧ n < 256 := by
  have h2 : IntKind.u8.min ≤ n ∧ n ≤ IntKind.u8.max := by simpa [Lit.wf] using h
  have h3 : IntKind.u8.min = 0 := rfl
  have h4 : IntKind.u8.max + 1 = 256 := rfl
  omega
theorem seating_row (a : XP) (B : Option Addr) (n1 c1 : Nat) (zs : List Int) (w : World) (h : a.Row w)
    (hr : (B = none ∧ n1 = 0 ∧ c1 = 0 ∧ zs = []) ∨ ∃ x, B = some x ∧ n1 ≤ c1 ∧ c1 ≤ maxLen ∧ zs.length = c1 ∧ (∀ i, i < zs.length → w.cell? (x.add i) = some (.int .u8 (zs.getD i 0))) ∧ ∀ n ∈ zs, (Lit.int .u8 n).wf = true) :
    Calls Try.prog 4 #[a.val, .slice B n1 c1] w fun e w' => e = .returned (.bool true) ∧ Below w.heap.size w w' := by
  rcases hr with ⟨rfl, rfl, rfl, _⟩ | ⟨x, rfl, h1, h2, h3, h4, h5⟩
  · exact seating_law a none 0 0 w h (by decide) fun i hi => absurd hi (Nat.not_lt_zero _)
  · refine seating_law a (some x) n1 c1 w h (Nat.lt_of_le_of_lt (Nat.le_trans h1 h2) (by decide)) fun i hi => ⟨x, rfl, ?_⟩
    have hi' : i < zs.length := by omega
    have hm : zs.getD i 0 ∈ zs := by
      rw [List.getD_eq_getElem?_getD, List.getElem?_eq_getElem hi']
      exact List.getElem_mem hi'
    have hb := bounds_u8 (h5 _ hm)
    refine ⟨(zs.getD i 0).toNat, by omega, ?_⟩
    rw [h4 i hi', Int.toNat_of_nonneg hb.1]
end Go.Proofs.Ytbdmmikflkpmpaa
namespace Go.Proofs.Ytbdmmikflkpmpaa.panelSeating
open Go.ChangeShapes Go.WideShapes Go.ChangeAt Go.RowKit
open Go.ChangeMaps (open_string shut_string)
set_option linter.unusedVariables false
theorem own : ownKnob Try.prog.godebug = none := by kernel_rfl
theorem laidOut : laidOutB Try.prog = true := by kernel_rfl
def IsRow (k : IntKind) (w : World) (a : Option Addr) (len cap : Nat) (zs : List Int) : Prop :=
  (a = none ∧ len = 0 ∧ cap = 0 ∧ zs = []) ∨
  ∃ x, a = some x ∧ len ≤ cap ∧ cap ≤ maxLen ∧ zs.length = cap ∧ (∀ i, i < zs.length → w.cell? (x.add i) = some (.int k (zs.getD i 0))) ∧ ∀ n ∈ zs, (Lit.int k n).wf = true
set_option maxRecDepth 100000 in
theorem lifted (os : Os) (started : os.Started) (H : Type) (enc : TypeId × Value → H) :
    ReturnsInHanded {} Try.checked os 4 .any (Rows.panelSeatingSpec.pre6 enc Try.prog Try.f4 Rows.panelSeatingRow.domain false) (Rows.panelSeatingSpec.post enc Try.prog Try.f4 false true false false) := by
  refine returnsInHanded_of_change_sized (C := Try.checked) own started (by kernel_rfl) Try.func4
    (ChangeSpec.witness6 (enc := enc) (C := Try.checked) false ⟨#[], #[.agg #[.slice none 0 0, .slice none 0 0, .slice none 0 0], .slice none 0 0], []⟩ 8 (by kernel_rfl) (by kernel_rfl) (by kernel_rfl) (by kernel_rfl)) ?_
  intro W base args ds gs before hval0 hW hcnd hsz0 _
  have hsz : (DataW.weightsEach Try.prog (Try.f4.params.toList ++ Rows.panelSeatingSpec.plain.varTypes Try.prog) (ds ++ gs)).all (· ≤ reachBytes) = true := hsz0
  have hval : ∀ (j : Nat) t v, Try.f4.params[j]? = some t → args[j]? = some v → Value.okWide Try.prog W .any base t v := hval0
  have hW' := hW
  obtain ⟨p, q, hA0, hV, rfl, hfz, hnd⟩ := hW
  have hA : DataW.TrodAll enc Try.prog W 0 (fun _ => true) true Try.f4.params.toList args.toList ds p := hA0
  rw [Try.params4] at hA hval hsz
  obtain ⟨v0, vs0, d0, ds0, p0, q0, hargs, rfl, rfl, h0, r0⟩ := trodAll_cons hA
  obtain ⟨v1, vs1, d1, ds1, p1, q1, rfl, rfl, rfl, h1, r1⟩ := trodAll_cons r0
  obtain ⟨rfl, rfl, rfl⟩ := trodAll_nil r1
  obtain rfl : args = #[v0, v1] := by cases args; simp_all
  obtain ⟨rfl, rfl⟩ := trodVars_none hV
  have k0 := h0
  have lt0 : ∀ x ∈ p0, x.block < W.heap.size := by obtain ⟨m, hm⟩ := k0; exact DataW.trod_lt m _ _ _ hm
  obtain ⟨F0, rfl, hF0⟩ := xp_open (hval 0 25 v0 rfl rfl) h0
  obtain ⟨a1, len1, cap1, rfl⟩ := okWide_slice Try.underlying36 (hval 1 36 v1 rfl rfl)
  have k1 := h1
  have lt1 : ∀ x ∈ p1, x.block < W.heap.size := by obtain ⟨m, hm⟩ := k1; exact DataW.trod_lt m _ _ _ hm
  obtain ⟨z1, w1⟩ : ∃ zs, IsRow .u8 W a1 len1 cap1 zs := by
    obtain ⟨fuel, hf⟩ := h1
    rcases open_ints Try.underlying36 Try.underlying5 (by kernel_rfl) hf with ⟨hcs, _⟩ | ⟨x, l, c, zs, hcs, _, hl, hm, hz, _, hcell, hwz⟩
    · simp [Value.cells] at hcs
      obtain ⟨rfl, rfl, rfl⟩ := hcs
      exact ⟨[], .inl ⟨rfl, rfl, rfl, rfl⟩⟩
    · simp [Value.cells] at hcs
      obtain ⟨rfl, rfl, rfl⟩ := hcs
      exact ⟨zs, .inr ⟨_, rfl, hl, hm, by simpa using hz, hcell, hwz⟩⟩
  clear hA0 hval0 hsz0 hsz
  refine (seating_row F0 a1 len1 cap1 z1 W hF0 w1).mono fun e W' ⟨he, bel⟩ => ?_
  subst he
  exact ⟨_, rfl, _, _, _, [], _, [], hW', trodAll_mk1 (shut_bool Try.underlying4 _), (trodAll_cons_mk (Below.trod laidOut (by kernel_rfl) (of_decide_eq_true (by kernel_rfl)) k0 bel lt0) (trodAll_cons_mk (Below.trod laidOut (by kernel_rfl) (of_decide_eq_true (by kernel_rfl)) k1 bel lt1) trodAll_mk0)), rfl, bel.frame _, fun h => by cases h⟩
theorem over : Rows.panelSeatingRow.holds Try.pinned (OpenSpec.ofChange Rows.panelSeatingSpec) :=
  OpenClaim.holds_of_wide 4 Try.f4 rfl rfl rfl rfl rfl rfl rfl ⟨rfl, rfl, rfl, rfl, rfl⟩ rfl rfl rfl rfl rfl (by kernel_rfl) Try.func4 (by kernel_rfl)
    (of_decide_eq_true (by kernel_rfl)) (by unfold Func.isWrapper; first | (rw [if_pos (by decide +kernel)]; kernel_rfl) | (rw [if_neg (by decide +kernel)]; exact ⟨rfl, rfl⟩))
    (fun os started H enc _ => lifted os started H enc)
theorem proved : Rows.PanelSeatingSaid := over
#print axioms proved
end Go.Proofs.Ytbdmmikflkpmpaa.panelSeating
namespace Go.Proofs.Ytbdmmikflkpmpaa
/-- The row, under a short name, for the claim. -/
theorem panelSeating_holds : Rows.PanelSeatingSaid := panelSeating.proved
end Go.Proofs.Ytbdmmikflkpmpaa
end
