/- Parts of the proof: Sets of stations, as bits. What the program's answers say of truths: bends at a station, of the furrow, and where it bends most. Written by a program over the program's translation: functions' own Lean functions, and that the code comes to their answers. Small facts of sets, sizes and spans. FurrowTurned: furrows that bend alike. FurrowTurned: the sets of stations of a furrow that is turned. Regions that draw their order, once more: what stands behind may wait for some of the first ones through others. FurrowTurned: three furrows that are laid side by side. FurrowTurned: the function that turn -/
import Derived.Test.YtafmgmaelnpehaaP4
import Derived.Test.YtafmgmaelnpehaaP2
import Derived.Lib.Hide
import Derived.Test.YtafmgmaelnpehaaP3
import Derived.Maps.AppendAt
section
set_option linter.unusedVariables false
set_option linter.unusedSimpArgs false
namespace Go.Proofs.Ytafmgmaelnpehaa
open Go.RowKit Go.Fu PFurrowAsks Go.Proofs.YtafmgmaelnpehaaW.PrintWords
/-! ### Bits -/
theorem or_all : (List.range 8).all (fun k => (List.range (2 ^ k)).all fun s => bits .or .i64 (s : Int) (wrap64 (2 ^ k)) == ((s + 2 ^ k : Nat) : Int)) = true := by kernel_rfl
theorem or_is (k s : Nat) (hk : k < 8) (hs : s < 2 ^ k) : bits .or .i64 (s : Int) (wrap64 (2 ^ k)) = ((s + 2 ^ k : Nat) : Int) := by
  have h := List.all_eq_true.1 or_all k (List.mem_range.2 hk)
  have h2 := List.all_eq_true.1 h s (List.mem_range.2 hs)
  exact eq_of_beq h2
/-- A set of stations, as a number. -/
def setN (p : Nat → Bool) : Nat → Nat
  | 0 => 0
  | k + 1 => setN p k + if p k then 2 ^ k else 0
theorem setN_lt (p : Nat → Bool) : ∀ k, setN p k < 2 ^ k
  | 0 => by simp [setN]
  | k + 1 => by
    have := setN_lt p k
    unfold setN
    rw [Nat.pow_succ]
    split <;> omega
theorem shM_set (p : Nat → Bool) : ∀ k, k ≤ 8 → shM p k = ((setN p k : Nat) : Int)
  | 0, _ => rfl
  | k + 1, h => by
    unfold shM setN
    rw [shM_set p k (by omega)]
    split
    · rw [or_is k _ (by omega) (setN_lt p k)]
    · simp
theorem setN_bit (p : Nat → Bool) : ∀ (n i : Nat), setN p n / 2 ^ i % 2 = if i < n ∧ p i = true then 1 else 0
  | 0, i => by simp [setN]
  | n + 1, i => by
    have ih := setN_bit p n i
    have hlt := setN_lt p n
    unfold setN
    rcases Nat.lt_trichotomy i n with h | h | h
    · have e : (setN p n + if p n = true then 2 ^ n else 0) / 2 ^ i % 2 = setN p n / 2 ^ i % 2 := by
        split
        · have : 2 ^ n = 2 ^ i * (2 * 2 ^ (n - i - 1)) := by
            rw [← Nat.pow_succ', ← Nat.pow_add]
            congr 1
            omega
          rw [this, Nat.add_mul_div_left _ _ (Nat.two_pow_pos i), Nat.add_mul_mod_self_left]
        · simp
      rw [e, ih]
      congr 1
      apply propext
      constructor
      · rintro ⟨_, h2⟩; exact ⟨by omega, h2⟩
      · rintro ⟨_, h2⟩; exact ⟨h, h2⟩
    · subst h
      split
      · rename_i hp
        rw [Nat.add_div_right _ (Nat.two_pow_pos i), Nat.div_eq_of_lt hlt]
        simp [hp]
      · rename_i hp
        rw [Nat.add_zero, Nat.div_eq_of_lt hlt]
        simp [hp]
    · have : setN p n + (if p n = true then 2 ^ n else 0) < 2 ^ i := by
        have h1 : 2 ^ (n + 1) ≤ 2 ^ i := Nat.pow_le_pow_right (by omega) (by omega)
        rw [Nat.pow_succ] at h1
        split <;> omega
      rw [Nat.div_eq_of_lt this]
      simp
      intro h1
      omega
end Go.Proofs.Ytafmgmaelnpehaa
end

section
set_option linter.unusedVariables false
set_option linter.unusedSimpArgs false
namespace Go.Proofs.Ytafmgmaelnpehaa
open Go.RowKit Go.Fu
theorem bendI_nn (a b c : Int) : 0 ≤ bendI a b c := by unfold bendI; split <;> omega
theorem bnd_nn (x : Nat → Int) (n : Nat) : 0 ≤ bnd x n := bendI_nn _ _ _
def allBends (A B C : List Int) : List Int := A.flatMap fun a => B.flatMap fun b => C.map fun c => bendI a b c
theorem stA_eq (A B C : List Int) (st : Bool × Int × Int) : stA A B C st = (allBends A B C).foldl step1 st := by
  unfold stA allBends stB stC
  rw [List.foldl_flatMap]
  congr 1
  funext s a
  rw [List.foldl_flatMap]
  congr 1
  funext s b
  rw [List.foldl_map]
theorem step_fold : ∀ (L : List Int) (lo hi : Int), lo ≤ hi → ∃ lo' hi', L.foldl step1 (true, lo, hi) = (true, lo', hi') ∧ lo' ≤ lo ∧ hi ≤ hi' ∧ (lo' = lo ∨ lo' ∈ L) ∧ (hi' = hi ∨ hi' ∈ L) ∧ ∀ v ∈ L, lo' ≤ v ∧ v ≤ hi'
  | [], lo, hi, h => ⟨lo, hi, rfl, Int.le_refl _, Int.le_refl _, .inl rfl, .inl rfl, fun v hv => by cases hv⟩
  | v :: L, lo, hi, h => by
    obtain ⟨lo', hi', h1, h2, h3, h4, h5, h6⟩ := step_fold L (if v < lo then v else lo) (if hi < v then v else hi) (by split <;> split <;> omega)
    refine ⟨lo', hi', ?_, ?_, ?_, ?_, ?_, ?_⟩
    · rw [List.foldl_cons]; exact h1
    · split at h2 <;> omega
    · split at h3 <;> omega
    · rcases h4 with h4 | h4
      · split at h4
        · exact .inr (by rw [h4]; exact List.mem_cons_self)
        · exact .inl h4
      · exact .inr (List.mem_cons_of_mem _ h4)
    · rcases h5 with h5 | h5
      · split at h5
        · exact .inr (by rw [h5]; exact List.mem_cons_self)
        · exact .inl h5
      · exact .inr (List.mem_cons_of_mem _ h5)
    · intro u hu
      rcases List.mem_cons.1 hu with rfl | hu
      · constructor
        · split at h2 <;> omega
        · split at h3 <;> omega
      · exact h6 u hu
theorem fold_spec (L : List Int) (hL : L ≠ []) : ((L.foldl step1 (false, 0, 0)).2.1 ∈ L ∧ (L.foldl step1 (false, 0, 0)).2.2 ∈ L) ∧ ∀ v ∈ L, (L.foldl step1 (false, 0, 0)).2.1 ≤ v ∧ v ≤ (L.foldl step1 (false, 0, 0)).2.2 := by
  cases L with
  | nil => exact absurd rfl hL
  | cons v L =>
    have e : (v :: L).foldl step1 (false, 0, 0) = L.foldl step1 (true, v, v) := rfl
    obtain ⟨lo', hi', h1, h2, h3, h4, h5, h6⟩ := step_fold L v v (Int.le_refl _)
    rw [e, h1]
    refine ⟨⟨?_, ?_⟩, fun u hu => ?_⟩
    · rcases h4 with h4 | h4
      · show lo' ∈ _; rw [h4]; exact List.mem_cons_self
      · exact List.mem_cons_of_mem _ h4
    · rcases h5 with h5 | h5
      · show hi' ∈ _; rw [h5]; exact List.mem_cons_self
      · exact List.mem_cons_of_mem _ h5
    · rcases List.mem_cons.1 hu with rfl | hu
      · exact ⟨h2, h3⟩
      · exact h6 u hu
theorem mem_bends (A B C : List Int) (v : Int) : v ∈ allBends A B C ↔ ∃ a ∈ A, ∃ b ∈ B, ∃ c ∈ C, bendI a b c = v := by simp [allBends]
/-- Three offsets beside one another are those of some truth. -/
theorem truth_three {l : List (Int × Int)} (hok : ∀ x ∈ l, okSpan x) {n : Nat} (h1 : 1 ≤ n) (h2 : n + 1 < l.length) {a b c : Int} (ha : InS l (n - 1) a) (hb : InS l n b) (hc : InS l (n + 1) c) : ∃ x, Truth l x ∧ bnd x n = bendI a b c := by
  refine ⟨fun i => if i = n - 1 then a else if i = n then b else if i = n + 1 then c else (l.getD i (0, 0)).1, fun i hi => ?_, ?_⟩
  · simp only
    by_cases e1 : i = n - 1
    · rw [if_pos e1, e1]; exact ha
    · rw [if_neg e1]
      by_cases e2 : i = n
      · rw [if_pos e2, e2]; exact hb
      · rw [if_neg e2]
        by_cases e3 : i = n + 1
        · rw [if_pos e3, e3]; exact hc
        · rw [if_neg e3]; exact lo_in hok i hi
  · unfold bnd
    simp only
    simp only [if_true, show n ≠ n - 1 by omega, show n + 1 ≠ n - 1 by omega, show n + 1 ≠ n by omega, if_false]
structure AtSpec (l : List (Int × Int)) (n : Nat) (s : Int × Int) : Prop where
  all : ∀ x, Truth l x → s.1 ≤ bnd x n ∧ bnd x n ≤ s.2
  lo : ∃ x, Truth l x ∧ bnd x n = s.1
  hi : ∃ x, Truth l x ∧ bnd x n = s.2
theorem at_spec (l : List (Int × Int)) (n : Nat) (h1 : 1 ≤ n) (h2 : n + 1 < l.length) (hok : ∀ x ∈ l, okSpan x) : AtSpec l n (atF l n) := by
  have hm : ∀ v, v ∈ allBends (spanL (l.getD (n - 1) (0, 0))) (spanL (l.getD n (0, 0))) (spanL (l.getD (n + 1) (0, 0))) ↔ ∃ a, InS l (n - 1) a ∧ ∃ b, InS l n b ∧ ∃ c, InS l (n + 1) c ∧ bendI a b c = v := by
    intro v
    rw [mem_bends]
    simp only [mem_in]
  have he : atF l n = ((allBends (spanL (l.getD (n - 1) (0, 0))) (spanL (l.getD n (0, 0))) (spanL (l.getD (n + 1) (0, 0)))).foldl step1 (false, 0, 0)).2 := by
    unfold atF
    rw [stA_eq]
  have hne : allBends (spanL (l.getD (n - 1) (0, 0))) (spanL (l.getD n (0, 0))) (spanL (l.getD (n + 1) (0, 0))) ≠ [] := by
    intro e
    have := (hm (bendI (l.getD (n - 1) (0, 0)).1 (l.getD n (0, 0)).1 (l.getD (n + 1) (0, 0)).1)).2 ⟨_, lo_in hok _ (by omega), _, lo_in hok _ (by omega), _, lo_in hok _ (by omega), rfl⟩
    rw [e] at this
    cases this
  obtain ⟨⟨s1, s2⟩, s3⟩ := fold_spec _ hne
  rw [← he] at s1 s2 s3
  refine ⟨fun x hx => s3 _ ((hm _).2 ⟨_, hx _ (by omega), _, hx _ (by omega), _, hx _ h2, rfl⟩), ?_, ?_⟩
  · obtain ⟨a, ha, b, hb, c, hc, e⟩ := (hm _).1 s1
    obtain ⟨x, hx, hbx⟩ := truth_three hok h1 h2 ha hb hc
    exact ⟨x, hx, hbx.trans e⟩
  · obtain ⟨a, ha, b, hb, c, hc, e⟩ := (hm _).1 s2
    obtain ⟨x, hx, hbx⟩ := truth_three hok h1 h2 ha hb hc
    exact ⟨x, hx, hbx.trans e⟩
/-- The greatest bend at the stations 1 to k. -/
def mostF (x : Nat → Int) : Nat → Int
  | 0 => 0
  | k + 1 => if mostF x k < bnd x (k + 1) then bnd x (k + 1) else mostF x k
theorem mostF_nn (x : Nat → Int) : ∀ k, 0 ≤ mostF x k
  | 0 => Int.le_refl _
  | k + 1 => by have := mostF_nn x k; have := bnd_nn x (k + 1); unfold mostF; split <;> omega
theorem mostF_le (x : Nat → Int) (m : Int) (hm : 0 ≤ m) : ∀ k, mostF x k ≤ m ↔ ∀ n, 1 ≤ n → n ≤ k → bnd x n ≤ m
  | 0 => ⟨fun _ n h1 h2 => by omega, fun _ => hm⟩
  | k + 1 => by
    have ih := mostF_le x m hm k
    unfold mostF
    constructor
    · intro h n h1 h2
      by_cases e : n = k + 1
      · subst e; split at h <;> omega
      · exact ih.1 (by split at h <;> omega) n h1 (by omega)
    · intro h
      have h3 := h (k + 1) (by omega) (Nat.le_refl _)
      have h4 := ih.2 fun n h1 h2 => h n h1 (by omega)
      split <;> omega
theorem mostF_at (x : Nat → Int) : ∀ k, mostF x k = 0 ∨ ∃ n, 1 ≤ n ∧ n ≤ k ∧ bnd x n = mostF x k
  | 0 => .inl rfl
  | k + 1 => by
    unfold mostF
    split
    · exact .inr ⟨k + 1, by omega, Nat.le_refl _, rfl⟩
    · rcases mostF_at x k with h | ⟨n, h1, h2, h3⟩
      · exact .inl h
      · exact .inr ⟨n, h1, by omega, h3⟩
/-- The bend of the furrow that lies so. -/
def mostL (l : List (Int × Int)) (x : Nat → Int) : Int := mostF x (l.length - 2)
theorem mostL_le {l : List (Int × Int)} {x : Nat → Int} {m : Int} (hm : 0 ≤ m) : mostL l x ≤ m ↔ ∀ n, 1 ≤ n → n + 1 < l.length → bnd x n ≤ m := by
  unfold mostL
  rw [mostF_le x m hm]
  exact ⟨fun h n h1 h2 => h n h1 (by omega), fun h n h1 h2 => h n h1 (by omega)⟩
theorem bnd_le_most {l : List (Int × Int)} {x : Nat → Int} {n : Nat} (h1 : 1 ≤ n) (h2 : n + 1 < l.length) : bnd x n ≤ mostL l x := (mostL_le (mostF_nn x _)).1 (Int.le_refl _) n h1 h2
theorem canB_most {l : List (Int × Int)} (hok : ∀ x ∈ l, okSpan x) {m : Int} (hm : 0 ≤ m) : canB l (upP m) = true ↔ ∃ x, Truth l x ∧ mostL l x ≤ m := by
  rw [canB_iff l _ hok]
  constructor
  · rintro ⟨x, hx, h⟩
    exact ⟨x, hx, (mostL_le hm).2 fun n h1 h2 => of_decide_eq_true (h n h1 h2)⟩
  · rintro ⟨x, hx, h⟩
    exact ⟨x, hx, fun n h1 h2 => decide_eq_true ((mostL_le hm).1 h n h1 h2)⟩
theorem least_spec (l : List (Int × Int)) (hok : ∀ x ∈ l, okSpan x) : (∃ x, Truth l x ∧ mostL l x = leastN l) ∧ ∀ x, Truth l x → (leastN l : Int) ≤ mostL l x := by
  have hl := leastN_is l hok
  have hall : ∀ x, Truth l x → (leastN l : Int) ≤ mostL l x := by
    intro x hx
    refine Int.not_lt.1 fun hlt => ?_
    have h0 := mostF_nn x (l.length - 2)
    obtain ⟨k, hk⟩ : ∃ k : Nat, mostL l x = k := ⟨(mostL l x).toNat, by unfold mostL; omega⟩
    have h1 := hl.2 k (by omega)
    have h2 := (canB_most hok (m := (k : Int)) (by omega)).2 ⟨x, hx, by omega⟩
    rw [h1] at h2
    cases h2
  obtain ⟨x, hx, hm⟩ := (canB_most hok (m := ((leastN l : Nat) : Int)) (by omega)).1 hl.1
  exact ⟨⟨x, hx, by have := hall x hx; omega⟩, hall⟩
theorem lo_truth {l : List (Int × Int)} (hok : ∀ x ∈ l, okSpan x) : Truth l fun i => (l.getD i (0, 0)).1 := fun i hi => lo_in hok i hi
theorem hiF_all (l : List (Int × Int)) (hok : ∀ x ∈ l, okSpan x) : ∀ k, k + 2 ≤ l.length ∨ k = 0 → 0 ≤ hiF l k ∧ (∀ n, 1 ≤ n → n ≤ k → (atF l n).2 ≤ hiF l k) ∧ (hiF l k = 0 ∨ ∃ n, 1 ≤ n ∧ n ≤ k ∧ (atF l n).2 = hiF l k)
  | 0, _ => ⟨Int.le_refl _, fun n h1 h2 => by omega, .inl rfl⟩
  | k + 1, h => by
    obtain ⟨i1, i2, i3⟩ := hiF_all l hok k (by omega)
    unfold hiF
    refine ⟨by split <;> omega, fun n h1 h2 => ?_, ?_⟩
    · by_cases e : n = k + 1
      · subst e; split <;> omega
      · have := i2 n h1 (by omega); split <;> omega
    · split
      · exact .inr ⟨k + 1, by omega, Nat.le_refl _, rfl⟩
      · rcases i3 with i3 | ⟨n, h1, h2, h3⟩
        · exact .inl i3
        · exact .inr ⟨n, h1, by omega, h3⟩
theorem hi_spec (l : List (Int × Int)) (hok : ∀ x ∈ l, okSpan x) : (∃ x, Truth l x ∧ mostL l x = hiF l (l.length - 2)) ∧ ∀ x, Truth l x → mostL l x ≤ hiF l (l.length - 2) := by
  obtain ⟨i1, i2, i3⟩ := hiF_all l hok (l.length - 2) (by omega)
  have hall : ∀ x, Truth l x → mostL l x ≤ hiF l (l.length - 2) := fun x hx => (mostL_le i1).2 fun n h1 h2 => Int.le_trans ((at_spec l n h1 h2 hok).all x hx).2 (i2 n h1 (by omega))
  refine ⟨?_, hall⟩
  rcases i3 with i3 | ⟨n, h1, h2, h3⟩
  · refine ⟨_, lo_truth hok, ?_⟩
    have := hall _ (lo_truth hok)
    have := mostF_nn (fun i => (l.getD i (0, 0)).1) (l.length - 2)
    unfold mostL at *
    omega
  · obtain ⟨x, hx, hb⟩ := (at_spec l n h1 (by omega) hok).hi
    refine ⟨x, hx, ?_⟩
    have := hall x hx
    have := bnd_le_most (l := l) (x := x) h1 (by omega)
    omega
/-! ### Where it bends most -/
theorem worstC_iff (l : List (Int × Int)) (n : Nat) (h1 : 1 ≤ n) (h2 : n + 1 < l.length) (hok : ∀ x ∈ l, okSpan x) : worstC l n = true ↔ ∃ x, Truth l x ∧ ∀ i, 1 ≤ i → i + 1 < l.length → bnd x i ≤ bnd x n := by
  have hs := at_spec l n h1 h2 hok
  unfold worstC
  simp only [Bool.and_eq_true, decide_eq_true_eq, List.any_eq_true, h1, true_and]
  constructor
  · rintro ⟨own, ho, hc⟩
    obtain ⟨x, hx, hp⟩ := (canB_iff l _ hok).1 hc
    refine ⟨x, hx, fun i i1 i2 => ?_⟩
    have hn := hp n h1 h2
    have hi := hp i i1 i2
    unfold wp1 at hn hi
    simp only [Bool.or_eq_true, decide_eq_true_eq, Bool.and_eq_true, Bool.not_eq_true', decide_eq_false_iff_not] at hn hi
    rcases hn with hn | hn
    · rcases hi with hi | hi <;> omega
    · exact absurd trivial hn.2
  · rintro ⟨x, hx, hm⟩
    refine ⟨bnd x n, (mem_spanL _ _).2 (hs.all x hx), (canB_iff l _ hok).2 ⟨x, hx, fun i i1 i2 => ?_⟩⟩
    unfold wp1
    simp only [Bool.or_eq_true, decide_eq_true_eq, Bool.and_eq_true, Bool.not_eq_true', decide_eq_false_iff_not]
    have := hm i i1 i2
    by_cases e : bnd x i = bnd x n
    · exact .inl e
    · refine .inr ⟨by omega, fun e2 => e ?_⟩
      have : i = n := by exact_mod_cast e2
      rw [this]
theorem worstS_iff (l : List (Int × Int)) (n : Nat) (h1 : 1 ≤ n) (h2 : n + 1 < l.length) (hok : ∀ x ∈ l, okSpan x) : worstS l n = true ↔ ∀ x, Truth l x → ∀ i, 1 ≤ i → i + 1 < l.length → bnd x i ≤ bnd x n := by
  have hs := at_spec l n h1 h2 hok
  unfold worstS
  simp only [Bool.and_eq_true, decide_eq_true_eq, Bool.not_eq_true', h1, true_and, List.any_eq_false]
  constructor
  · intro h x hx i i1 i2
    refine Int.not_lt.1 fun hlt => ?_
    have hne : i ≠ n := by rintro rfl; omega
    refine h (bnd x n) ((mem_spanL _ _).2 (hs.all x hx)) ?_
    unfold lessO
    rw [List.any_eq_true]
    refine ⟨i, List.mem_range.2 (by omega), ?_⟩
    simp only [Bool.and_eq_true, decide_eq_true_eq, Bool.not_eq_true', decide_eq_false_iff_not]
    refine ⟨⟨i1, hne⟩, (canB_iff l _ hok).2 ⟨x, hx, fun m m1 m2 => ?_⟩⟩
    unfold wp2
    simp only [Bool.or_eq_true, decide_eq_true_eq, Bool.and_eq_true, Bool.not_eq_true', decide_eq_false_iff_not]
    constructor
    · by_cases e : m = n
      · exact .inr (by rw [e])
      · exact .inl (by omega)
    · by_cases e : m = i
      · exact .inr (by rw [e]; exact hlt)
      · exact .inl (by omega)
  · intro h own ho hl
    unfold lessO at hl
    rw [List.any_eq_true] at hl
    obtain ⟨i, hi, hc⟩ := hl
    simp only [Bool.and_eq_true, decide_eq_true_eq, Bool.not_eq_true', decide_eq_false_iff_not] at hc
    have hir := List.mem_range.1 hi
    obtain ⟨x, hx, hp⟩ := (canB_iff l _ hok).1 hc.2
    have a := hp n h1 h2
    have b := hp i hc.1.1 (by omega)
    unfold wp2 at a b
    simp only [Bool.or_eq_true, decide_eq_true_eq, Bool.and_eq_true, Bool.not_eq_true', decide_eq_false_iff_not] at a b
    have := h x hx i hc.1.1 (by omega)
    have ha : bnd x n = own := by rcases a.1 with a | a <;> first | exact a | exact absurd trivial a
    have hb : own < bnd x i := by rcases b.2 with b | b <;> first | exact b | exact absurd trivial b
    omega
end Go.Proofs.Ytafmgmaelnpehaa
end

section
namespace Go.Proofs.Ytafmgmaelnpehaa.PFurrowAsks
open Go.RowKit Go.Proofs.YtafmgmaelnpehaaW.PrintWords Go.Proofs.YtafmgmaelnpehaaW.PrintLast Go.Proofs.YtafmgmaelnpehaaW.PrintMore
attribute [local go_sem] max2_int min2_int max_two min_two max_three min_three max_four min_four   -- for this text's walks alone
set_option linter.unusedVariables false
set_option linter.unusedSimpArgs false

/-! ### furrowworksref04_Size: function 37 -/
def furrowworksref04_Size.l0 : Nat → Int → Int → Option (Int)
  | 0, _, _ => none
  | k + 1, x0, x3 => if x0 > 0 then (furrowworksref04_Size.l0 k (wrap64 (Int.tdiv x0 2)) (wrap64 (x3 + (Int.tmod x0 2)))) else (some x3)
def furrowworksref04_Size.f (k : Nat) (a0 : Int) : Option (Int) := furrowworksref04_Size.l0 k a0 0
theorem furrowworksref04_Size.mono_l : ∀ k, (∀ y0 y1, LeO (furrowworksref04_Size.l0 k y0 y1) (furrowworksref04_Size.l0 (k + 1) y0 y1))
  | 0 => fun _ _ r h => by simp [furrowworksref04_Size.l0] at h
  | k + 1 => by
    have ih0 := furrowworksref04_Size.mono_l k
    · intro y0 y1
      unfold furrowworksref04_Size.l0
      repeat' first
      | (with_reducible exact ih0 _ _)
      | (with_reducible exact LeO.refl _)
      | (with_reducible exact LeO.none _)
      | (with_reducible refine LeO.ite ?_ ?_)
      | (with_reducible refine LeO.bind ?_ (fun _ => ?_))
      | exact ih0 _ _
      | exact LeO.none _
      | refine LeO.ite ?_ ?_
      | refine LeO.bind ?_ (fun _ => ?_)
theorem furrowworksref04_Size.mono : ∀ a0 k, LeO (furrowworksref04_Size.f k a0) (furrowworksref04_Size.f (k + 1) a0) := by
  intro a0 k
  have ih0 := furrowworksref04_Size.mono_l k
  unfold furrowworksref04_Size.f
  repeat' first
      | (with_reducible exact ih0 _ _)
      | (with_reducible exact LeO.refl _)
      | (with_reducible exact LeO.none _)
      | (with_reducible refine LeO.ite ?_ ?_)
      | (with_reducible refine LeO.bind ?_ (fun _ => ?_))
      | exact ih0 _ _
      | exact LeO.none _
      | refine LeO.ite ?_ ?_
      | refine LeO.bind ?_ (fun _ => ?_)
set_option maxHeartbeats 8000000 in
set_option maxRecDepth 100000 in
theorem furrowworksref04_Size.calls (k : Nat) (a0 : Int) (r : Int) (w : World) (h : furrowworksref04_Size.f k a0 = some r) :
    Calls Try.prog 37 #[.int .i64 a0] w fun e w' => e = .returned (.int .i64 r) ∧ Drawn0 w w' := by
  have H : (furrowworksref04_Size.l0 k a0 0) = some r := h
  clear h
  have H' := Aside0.mk H
  clear H
  go_enter Try.func37, Try.ntmps37
  go_wp2
  go_loopg [0, 3] k (fun kq v0 v3 w' => ∃ (x0_1 : Int) (x3_1 : Int), v0 = .int .i64 x0_1 ∧ v3 = .int .i64 x3_1 ∧ Aside0 (furrowworksref04_Size.l0 kq x0_1 x3_1 = some r) ∧ Aside0 (kq ≤ k) ∧ Drawn0 w w')
  case atStart => exact ⟨(a0), (0), (by first | rfl | (simp; done) | (simp [*]; done)), (by first | rfl | (simp; done) | (simp [*]; done)), H', ⟨Nat.le_refl _⟩, by repeat (first | exact Drawn0.refl _ | apply Drawn0.step)⟩
  case round =>
    clear H'
    obtain ⟨x0_1, x3_1, rfl, rfl, HA, HK1, ⟨m1, rfl⟩⟩ := hrel
    cases gk with
    | zero => exact absurd HA.out (by simp [furrowworksref04_Size.l0])
    | succ k1 =>
      have H := HA.out
      clear HA
      simp only [furrowworksref04_Size.l0] at H
      by_cases c2 : x0_1 > 0
      · rw [if_pos c2] at H
        have c2b0 : decide (0 < x0_1) = true := decide_eq_true c2
        clear c2
        have H' := Aside0.mk H
        clear H
        go_wp2
        go_roundg k1
        case measure => have := HK1.out; omega
        case rel => exact ⟨(wrap64 (Int.tdiv x0_1 2)), (wrap64 (x3_1 + (Int.tmod x0_1 2))), (by first | rfl | (simp; done) | (simp [*]; done)), (by first | rfl | (simp; done) | (simp [*]; done)), H', ⟨by have := HK1.out; omega⟩, by repeat (first | exact Drawn0.refl _ | apply Drawn0.step)⟩
      · rw [if_neg c2] at H
        have c2b0 : decide (0 < x0_1) = false := decide_eq_false c2
        clear c2
        obtain rfl := Option.some.inj H
        go_wp2
        go_ret
        exact ⟨by first | rfl | (simp; done) | (simp [*]; done), by repeat (first | exact Drawn0.refl _ | apply Drawn0.step)⟩

end Go.Proofs.Ytafmgmaelnpehaa.PFurrowAsks
end

section
set_option linter.unusedVariables false
set_option linter.unusedSimpArgs false
namespace Go.Proofs.Ytafmgmaelnpehaa
open Go.RowKit Go.TL Go.Shelf Go.Fu
open PFurrowAsks Go.Proofs.YtafmgmaelnpehaaW.PrintWords
theorem only_normal {M : Array Value → World → Prop} {e : Exit} {t : Array Value} {W : World} (h : andThen M (fun _ _ _ => False) e t W) : e = .normal ∧ M t W := by
  cases e <;> first | exact ⟨rfl, h⟩ | exact False.elim h
theorem box3_below {W W' : World} {B : Nat} {t : TypeId} {a b c : Value} (h : Below W.heap.size W W') (hb : Box3 W B t a b c) : Box3 W' B t a b c := (h.block _ hb.lt).trans hb
theorem wrap_id {a : Int} (h1 : -1000000000 ≤ a) (h2 : a ≤ 1000000000) : wrap64 a = a := by unfold wrap64; omega
theorem size_l : ∀ (j s c : Nat), s < 2 ^ j → j ≤ 8 → c + j ≤ 100 → Ev (fun k => furrowworksref04_Size.l0 k s c) (((c + ones j s : Nat) : Int))
  | 0, s, c, h, _, _ => by
    obtain rfl : s = 0 := by simpa using h
    refine ⟨1, fun k hk => ?_⟩
    obtain ⟨k, rfl⟩ : ∃ m, k = m + 1 := ⟨k - 1, by omega⟩
    simp only [furrowworksref04_Size.l0]
    rw [if_neg (by omega)]
    simp [ones]
  | j + 1, s, c, h, hj, hc => by
    have hs : s < 256 := Nat.lt_of_lt_of_le h (Nat.pow_le_pow_right (by omega) hj : 2 ^ (j + 1) ≤ 2 ^ 8)
    by_cases h0 : s = 0
    · subst h0
      have : ∀ j, ones j 0 = 0 := fun j => by induction j with
        | zero => rfl
        | succ j ih => simp [ones, ih]
      refine ⟨1, fun k hk => ?_⟩
      obtain ⟨k, rfl⟩ : ∃ m, k = m + 1 := ⟨k - 1, by omega⟩
      simp only [furrowworksref04_Size.l0]
      rw [if_neg (by omega), this]
      rfl
    · have ih := size_l j (s / 2) (c + s % 2) (by rw [Nat.pow_succ] at h; omega) (by omega) (by omega)
      refine Ev.step (f := fun k => furrowworksref04_Size.l0 k ((s / 2 : Nat) : Int) ((c + s % 2 : Nat) : Int)) (fun k => ?_) (by simpa [ones, Nat.add_assoc] using ih)
      simp only [furrowworksref04_Size.l0]
      have e1 : Int.tdiv (s : Int) 2 = ((s / 2 : Nat) : Int) := by rw [Int.tdiv_eq_ediv_of_nonneg (by omega)]; omega
      have e2 : Int.tmod (s : Int) 2 = ((s % 2 : Nat) : Int) := by rw [Int.tmod_eq_emod_of_nonneg (by omega)]; omega
      rw [if_pos (by omega), e1, e2, wrap_id (by omega) (by omega), wrap_id (by omega) (by omega)]
      norm_cast
theorem ones_le8 (j s : Nat) (h : s < 2 ^ j) (hj : j ≤ 8) : ones j s = ones 8 s := by
  have : ∀ (k j s : Nat), s < 2 ^ j → ones (j + k) s = ones j s := by
    intro k j
    induction j with
    | zero =>
      intro s h
      obtain rfl : s = 0 := by simpa using h
      have : ∀ j, ones j 0 = 0 := fun j => by induction j with
        | zero => rfl
        | succ j ih => simp [ones, ih]
      rw [this, this]
    | succ j ih =>
      intro s h
      rw [show j + 1 + k = (j + k) + 1 by omega]
      simp only [ones]
      rw [ih (s / 2) (by rw [Nat.pow_succ] at h; omega)]
  have := this (8 - j) j s h
  rw [show j + (8 - j) = 8 by omega] at this
  exact this.symm
theorem size_ev (s : Nat) (hs : s < 256) : Ev (fun k => furrowworksref04_Size.f k s) ((ones 8 s : Nat) : Int) := by
  have := size_l 8 s 0 hs (by omega) (by omega)
  rw [Nat.zero_add] at this
  exact this
theorem andn_all : (List.range 128).all (fun a => (List.range 128).all fun b => bits .andNot .i64 (a : Int) (b : Int) == 0 || (List.range 7).any fun i => a / 2 ^ i % 2 == 1 && b / 2 ^ i % 2 == 0) = true := by kernel_rfl
theorem andn_is (a b : Nat) (ha : a < 128) (hb : b < 128) (h : ∀ i, i < 7 → a / 2 ^ i % 2 = 1 → b / 2 ^ i % 2 = 1) : bits .andNot .i64 (a : Int) (b : Int) = 0 := by
  have h1 := List.all_eq_true.1 andn_all a (List.mem_range.2 ha)
  have h2 := List.all_eq_true.1 h1 b (List.mem_range.2 hb)
  rcases Bool.or_eq_true_iff.1 h2 with h3 | h3
  · exact eq_of_beq h3
  · obtain ⟨i, hi, h4⟩ := List.any_eq_true.1 h3
    rw [Bool.and_eq_true, beq_iff_eq, beq_iff_eq] at h4
    have := h i (List.mem_range.1 hi) h4.1
    omega
theorem andb_all : (List.range 256).all (fun s => (List.range 8).all fun k => bits .and .i64 ((s : Int) / 2 ^ k) 1 == ((s / 2 ^ k % 2 : Nat) : Int)) = true := by kernel_rfl
theorem andb_is (s k : Nat) (hs : s < 256) (hk : k < 8) : bits .and .i64 ((s : Int) / 2 ^ k) 1 = ((s / 2 ^ k % 2 : Nat) : Int) := by
  have h := List.all_eq_true.1 andb_all s (List.mem_range.2 hs)
  have h2 := List.all_eq_true.1 h k (List.mem_range.2 hk)
  exact eq_of_beq h2
theorem set_sub {p q : Nat → Bool} {n : Nat} (h : ∀ i, i < n → p i = true → q i = true) (i : Nat) (hi : setN p n / 2 ^ i % 2 = 1) : setN q n / 2 ^ i % 2 = 1 := by
  rw [setN_bit] at hi ⊢
  split at hi
  · rename_i hc
    rw [if_pos ⟨hc.1, h i hc.1 hc.2⟩]
  · cases hi
theorem refFurrow_c (F : Fur) (w : World) (h : F.At w) : Calls Try.prog 36 #[F.val] w fun e w' => e = .returned (.bool F.va) ∧ Below w.heap.size w w' :=
  furrowworksref04_Furrow.calls 20 F.A0 F.c0 F.l0 F.A1 F.c1 F.l1 F.A2 F.c2 F.l2 _ w h.r0 h.h0 h.r1 h.h1 h.r2 h.h2 (refFurrow_is _ _ _)
theorem size_c (s : Nat) (hs : s < 256) (w : World) : Calls Try.prog 37 #[.int .i64 s] w fun e w' => e = .returned (.int .i64 ((ones 8 s : Nat) : Int)) ∧ Below w.heap.size w w' := by
  obtain ⟨k, hk⟩ := (size_ev s hs).rounds
  exact (furrowworksref04_Size.calls k s _ w hk).mono fun e w' ⟨a, b⟩ => ⟨a, b.below⟩
theorem worstS_pos {l : List (Int × Int)} {n : Nat} (h : worstS l n = true) : 1 ≤ n := by
  unfold worstS at h
  simp only [Bool.and_eq_true, decide_eq_true_eq] at h
  exact h.1
theorem worstC_pos {l : List (Int × Int)} {n : Nat} (h : worstC l n = true) : 1 ≤ n := by
  unfold worstC at h
  simp only [Bool.and_eq_true, decide_eq_true_eq] at h
  exact h.1
theorem canB_sub {l l' : List (Int × Int)} {p : Int → Int → Bool} (hok : ∀ x ∈ l, okSpan x) (hok' : ∀ x ∈ l', okSpan x) (hl : l'.length = l.length) (hs : ∀ i, i < l.length → (l.getD i (0, 0)).1 ≤ (l'.getD i (0, 0)).1 ∧ (l'.getD i (0, 0)).2 ≤ (l.getD i (0, 0)).2) (h : canB l' p = true) : canB l p = true := by
  obtain ⟨x, hx, hp⟩ := (canB_iff l' p hok').1 h
  refine (canB_iff l p hok).2 ⟨x, fun i hi => ?_, fun n h1 h2 => hp n h1 (by omega)⟩
  have a := hx i (by omega)
  have b := hs i hi
  unfold InS at a ⊢
  omega
end Go.Proofs.Ytafmgmaelnpehaa
end

section
set_option linter.unusedVariables false
set_option linter.unusedSimpArgs false
namespace Go.Proofs.Ytafmgmaelnpehaa
open Go.RowKit Go.TL Go.Fu
open PFurrowAsks Go.Proofs.YtafmgmaelnpehaaW.PrintWords
/-- The truths of l' are those of l, but for the order of the stations: station i of l' is σ i of l. -/
structure Alike (l l' : List (Int × Int)) (σ : Nat → Nat) : Prop where
  len : l'.length = l.length
  inn : ∀ i, 1 ≤ i → i + 1 < l.length → 1 ≤ σ i ∧ σ i + 1 < l.length ∧ σ (σ i) = i
  fwd : ∀ x, Truth l x → ∃ y, Truth l' y ∧ ∀ i, 1 ≤ i → i + 1 < l.length → bnd y i = bnd x (σ i)
  bwd : ∀ y, Truth l' y → ∃ x, Truth l x ∧ ∀ i, 1 ≤ i → i + 1 < l.length → bnd y i = bnd x (σ i)
section
variable {l l' : List (Int × Int)} {σ : Nat → Nat}
theorem Alike.most (h : Alike l l' σ) {x y : Nat → Int} (hb : ∀ i, 1 ≤ i → i + 1 < l.length → bnd y i = bnd x (σ i)) : mostL l' y = mostL l x := by
  have a : mostL l' y ≤ mostL l x := (mostL_le (mostF_nn x _)).2 fun n h1 h2 => by
    rw [h.len] at h2
    obtain ⟨i1, i2, _⟩ := h.inn n h1 h2
    rw [hb n h1 h2]
    exact bnd_le_most i1 i2
  have b : mostL l x ≤ mostL l' y := (mostL_le (mostF_nn y _)).2 fun n h1 h2 => by
    obtain ⟨i1, i2, i3⟩ := h.inn n h1 h2
    have e := hb (σ n) i1 i2
    rw [i3] at e
    rw [← e]
    exact bnd_le_most i1 (by rw [h.len]; exact i2)
  omega
theorem Alike.least (h : Alike l l' σ) (hok : ∀ x ∈ l, okSpan x) (hok' : ∀ x ∈ l', okSpan x) : leastN l' = leastN l := by
  obtain ⟨⟨x, hx, hxm⟩, hmin⟩ := least_spec l hok
  obtain ⟨⟨y, hy, hym⟩, hmin'⟩ := least_spec l' hok'
  obtain ⟨y2, hy2, hb⟩ := h.fwd x hx
  obtain ⟨x2, hx2, hb2⟩ := h.bwd y hy
  have a := hmin' y2 hy2
  have b := hmin x2 hx2
  rw [h.most hb] at a
  rw [← h.most hb2] at b
  omega
theorem Alike.hi (h : Alike l l' σ) (hok : ∀ x ∈ l, okSpan x) (hok' : ∀ x ∈ l', okSpan x) : hiF l' (l'.length - 2) = hiF l (l.length - 2) := by
  obtain ⟨⟨x, hx, hxm⟩, hmax⟩ := hi_spec l hok
  obtain ⟨⟨y, hy, hym⟩, hmax'⟩ := hi_spec l' hok'
  obtain ⟨y2, hy2, hb⟩ := h.fwd x hx
  obtain ⟨x2, hx2, hb2⟩ := h.bwd y hy
  have a := hmax' y2 hy2
  have b := hmax x2 hx2
  rw [h.most hb] at a
  rw [← h.most hb2] at b
  omega
theorem Alike.at (h : Alike l l' σ) (hok : ∀ x ∈ l, okSpan x) (hok' : ∀ x ∈ l', okSpan x) {i : Nat} (h1 : 1 ≤ i) (h2 : i + 1 < l.length) : atF l' i = atF l (σ i) := by
  obtain ⟨i1, i2, i3⟩ := h.inn i h1 h2
  have s := at_spec l (σ i) i1 i2 hok
  have s' := at_spec l' i h1 (by rw [h.len]; exact h2) hok'
  obtain ⟨x, hx, e1⟩ := s.lo
  obtain ⟨x2, hx2, e2⟩ := s.hi
  obtain ⟨y, hy, e3⟩ := s'.lo
  obtain ⟨y2, hy2, e4⟩ := s'.hi
  obtain ⟨p1, q1, b1⟩ := h.fwd x hx
  obtain ⟨p2, q2, b2⟩ := h.fwd x2 hx2
  obtain ⟨p3, q3, b3⟩ := h.bwd y hy
  obtain ⟨p4, q4, b4⟩ := h.bwd y2 hy2
  have a1 := s'.all p1 q1
  have a2 := s'.all p2 q2
  have a3 := s.all p3 q3
  have a4 := s.all p4 q4
  rw [b1 i h1 h2] at a1
  rw [b2 i h1 h2] at a2
  rw [← b3 i h1 h2] at a3
  rw [← b4 i h1 h2] at a4
  exact Prod.ext (by omega) (by omega)
theorem Alike.worstS (h : Alike l l' σ) (hok : ∀ x ∈ l, okSpan x) (hok' : ∀ x ∈ l', okSpan x) {i : Nat} (h1 : 1 ≤ i) (h2 : i + 1 < l.length) : worstS l' i = worstS l (σ i) := by
  obtain ⟨i1, i2, i3⟩ := h.inn i h1 h2
  have a := worstS_iff l (σ i) i1 i2 hok
  have b := worstS_iff l' i h1 (by rw [h.len]; exact h2) hok'
  rw [Bool.eq_iff_iff, a, b]
  constructor
  · intro hy x hx j j1 j2
    obtain ⟨y, q, e⟩ := h.fwd x hx
    obtain ⟨k1, k2, k3⟩ := h.inn j j1 j2
    have := hy y q (σ j) k1 (by rw [h.len]; exact k2)
    rw [e (σ j) k1 k2, k3, e i h1 h2] at this
    exact this
  · intro hx y hy j j1 j2
    rw [h.len] at j2
    obtain ⟨x, q, e⟩ := h.bwd y hy
    obtain ⟨k1, k2, k3⟩ := h.inn j j1 j2
    have := hx x q (σ j) k1 k2
    rw [← e j j1 j2, ← e i h1 h2] at this
    exact this
theorem Alike.worstC (h : Alike l l' σ) (hok : ∀ x ∈ l, okSpan x) (hok' : ∀ x ∈ l', okSpan x) {i : Nat} (h1 : 1 ≤ i) (h2 : i + 1 < l.length) : worstC l' i = worstC l (σ i) := by
  obtain ⟨i1, i2, i3⟩ := h.inn i h1 h2
  have a := worstC_iff l (σ i) i1 i2 hok
  have b := worstC_iff l' i h1 (by rw [h.len]; exact h2) hok'
  rw [Bool.eq_iff_iff, a, b]
  constructor
  · rintro ⟨y, hy, hb⟩
    obtain ⟨x, q, e⟩ := h.bwd y hy
    refine ⟨x, q, fun j j1 j2 => ?_⟩
    obtain ⟨k1, k2, k3⟩ := h.inn j j1 j2
    have := hb (σ j) k1 (by rw [h.len]; exact k2)
    rw [e (σ j) k1 k2, k3, e i h1 h2] at this
    exact this
  · rintro ⟨x, hx, hb⟩
    obtain ⟨y, q, e⟩ := h.fwd x hx
    refine ⟨y, q, fun j j1 j2 => ?_⟩
    rw [h.len] at j2
    obtain ⟨k1, k2, k3⟩ := h.inn j j1 j2
    have := hb (σ j) k1 k2
    rw [← e j j1 j2, ← e i h1 h2] at this
    exact this
theorem Alike.can (h : Alike l l' σ) (hok : ∀ x ∈ l, okSpan x) (hok' : ∀ x ∈ l', okSpan x) {m : Int} (hm : 0 ≤ m) : canB l' (upP m) = canB l (upP m) := by
  rw [Bool.eq_iff_iff, canB_most hok' hm, canB_most hok hm]
  constructor
  · rintro ⟨y, hy, e⟩
    obtain ⟨x, q, b⟩ := h.bwd y hy
    exact ⟨x, q, by rw [← h.most b]; exact e⟩
  · rintro ⟨x, hx, e⟩
    obtain ⟨y, q, b⟩ := h.fwd x hx
    exact ⟨y, q, by rw [h.most b]; exact e⟩
end
/-! ### The ways in which a furrow is turned -/
theorem bnd_line (x : Nat → Int) (a b : Int) {i : Nat} (h : 1 ≤ i) : bnd (fun j => x j + (a + (j : Int) * b)) i = bnd x i := by
  obtain ⟨k, rfl⟩ : ∃ k, i = k + 1 := ⟨i - 1, by omega⟩
  unfold bnd bendI
  simp only [Nat.add_sub_cancel]
  push_cast
  have e : 2 * (x (k + 1) + (a + ((k : Int) + 1) * b)) - (x k + (a + (k : Int) * b)) - (x (k + 1 + 1) + (a + ((k : Int) + 1 + 1) * b)) = 2 * x (k + 1) - x k - x (k + 1 + 1) := by
    simp only [Int.add_mul, Int.one_mul]
    omega
  simp only [e]
/-- All offsets are greater by as much, or by as much more from station to station. -/
theorem alike_line {l l' : List (Int × Int)} (a b : Int) (hl : l'.length = l.length) (hs : ∀ i, i < l.length → l'.getD i (0, 0) = ((l.getD i (0, 0)).1 + (a + (i : Int) * b), (l.getD i (0, 0)).2 + (a + (i : Int) * b))) : Alike l l' id where
  len := hl
  inn i h1 h2 := ⟨h1, h2, rfl⟩
  fwd x hx := ⟨fun j => x j + (a + (j : Int) * b), fun i hi => by
    have := hx i (by omega)
    unfold InS at this ⊢
    rw [hs i (by omega)]
    simp only
    omega, fun i h1 _ => bnd_line x a b h1⟩
  bwd y hy := ⟨fun j => y j - (a + (j : Int) * b), fun i hi => by
    have := hy i (by omega)
    unfold InS at this ⊢
    rw [hs i hi] at this
    simp only at this
    show (l.getD i (0, 0)).1 ≤ y i - (a + (i : Int) * b) ∧ y i - (a + (i : Int) * b) ≤ (l.getD i (0, 0)).2
    omega, fun i h1 _ => by
    have := bnd_line (fun j => y j - (a + (j : Int) * b)) a b h1
    simp only [Int.sub_add_cancel] at this
    exact this⟩
theorem bnd_neg (x : Nat → Int) (i : Nat) : bnd (fun j => - x j) i = bnd x i := by
  simp only [bnd, bendI]
  split <;> split <;> omega
/-- All offsets have the other sign. -/
theorem alike_neg {l l' : List (Int × Int)} (hl : l'.length = l.length) (hs : ∀ i, i < l.length → l'.getD i (0, 0) = (-(l.getD i (0, 0)).2, -(l.getD i (0, 0)).1)) : Alike l l' id where
  len := hl
  inn i h1 h2 := ⟨h1, h2, rfl⟩
  fwd x hx := ⟨fun j => - x j, fun i hi => by
    have := hx i (by omega)
    unfold InS at this ⊢
    rw [hs i (by omega)]
    simp only
    omega, fun i _ _ => bnd_neg x i⟩
  bwd y hy := ⟨fun j => - y j, fun i hi => by
    have := hy i (by omega)
    unfold InS at this ⊢
    rw [hs i hi] at this
    simp only at this
    show (l.getD i (0, 0)).1 ≤ - y i ∧ - y i ≤ (l.getD i (0, 0)).2
    omega, fun i _ _ => by
    have := bnd_neg (fun j => - y j) i
    simpa using this⟩
/-- The furrow is measured from its other end. -/
theorem alike_back {l l' : List (Int × Int)} (hl : l'.length = l.length) (hs : ∀ i, i < l.length → l'.getD i (0, 0) = l.getD (l.length - 1 - i) (0, 0)) : Alike l l' (fun i => l.length - 1 - i) where
  len := hl
  inn i h1 h2 := ⟨by omega, by omega, by omega⟩
  fwd x hx := ⟨fun j => x (l.length - 1 - j), fun i hi => by
    have := hx (l.length - 1 - i) (by omega)
    unfold InS at this ⊢
    rw [hs i (by omega)]
    exact this, fun i h1 h2 => by
    unfold bnd bendI
    simp only [show l.length - 1 - (i - 1) = l.length - 1 - i + 1 by omega, show l.length - 1 - (i + 1) = l.length - 1 - i - 1 by omega]
    split <;> split <;> omega⟩
  bwd y hy := ⟨fun j => y (l.length - 1 - j), fun i hi => by
    have := hy (l.length - 1 - i) (by omega)
    unfold InS at this ⊢
    rw [hs _ (by omega), show l.length - 1 - (l.length - 1 - i) = i by omega] at this
    exact this, fun i h1 h2 => by
    unfold bnd bendI
    simp only [show l.length - 1 - (l.length - 1 - i) = i by omega, show l.length - 1 - (l.length - 1 - i - 1) = i + 1 by omega, show l.length - 1 - (l.length - 1 - i + 1) = i - 1 by omega]
    split <;> split <;> omega⟩
end Go.Proofs.Ytafmgmaelnpehaa
end

section
set_option linter.unusedVariables false
set_option linter.unusedSimpArgs false
namespace Go.Proofs.Ytafmgmaelnpehaa
open Go.RowKit Go.TL Go.Fu
open PFurrowAsks Go.Proofs.YtafmgmaelnpehaaW.PrintWords
/-- A set of stations from the other end. -/
def revN (n s : Nat) : Nat := setN (fun i => s / 2 ^ (n - 1 - i) % 2 == 1) n
theorem revN_lt (n s : Nat) : revN n s < 2 ^ n := setN_lt _ _
theorem revN_bit {n s i : Nat} (hi : i < n) : revN n s / 2 ^ i % 2 = 1 ↔ s / 2 ^ (n - 1 - i) % 2 = 1 := by
  unfold revN
  rw [setN_bit]
  by_cases h : s / 2 ^ (n - 1 - i) % 2 = 1
  · simp [hi, h]
  · simp [h]
theorem rev_ones_all : (List.range 9).all (fun n => (List.range 256).all fun s => decide (2 ^ n ≤ s) || ones 8 (revN n s) == ones 8 s) = true := by kernel_rfl
theorem rev_ones {n s : Nat} (hn : n ≤ 8) (hs : s < 2 ^ n) : ones 8 (revN n s) = ones 8 s := by
  have hp : 2 ^ n ≤ 2 ^ 8 := Nat.pow_le_pow_right (by omega) hn
  have h := List.all_eq_true.1 (List.all_eq_true.1 rev_ones_all n (List.mem_range.2 (by omega))) s (List.mem_range.2 (by omega))
  rcases Bool.or_eq_true_iff.1 h with h | h
  · have := of_decide_eq_true h
    omega
  · exact eq_of_beq h
theorem setN_congr {p q : Nat → Bool} : ∀ {n : Nat}, (∀ i, i < n → p i = q i) → setN p n = setN q n
  | 0, _ => rfl
  | n + 1, h => by
    unfold setN
    rw [setN_congr (fun i hi => h i (by omega)), h n (by omega)]
/-- The set of inner stations, from the other end. -/
theorem rev_set {p q : Nat → Bool} {n : Nat} (h1 : 1 ≤ n) (hp : p 0 = false) (hq : q 0 = false) (h : ∀ i, 1 ≤ i → i + 1 < n → q i = p (n - 1 - i)) : revN n (setN q (n - 1)) = setN p (n - 1) := by
  obtain ⟨m, rfl⟩ : ∃ m, n = m + 1 := ⟨n - 1, by omega⟩
  have e : revN (m + 1) (setN q m) = setN (fun i => if i < m then p i else false) (m + 1) := by
    unfold revN
    refine setN_congr fun i hi => ?_
    rw [Nat.add_sub_cancel, setN_bit]
    by_cases hm : i < m
    · rw [if_pos hm]
      by_cases h0 : i = 0
      · subst h0
        rw [if_neg (by omega), hp]
        rfl
      · have := h (m - i) (by omega) (by omega)
        rw [Nat.add_sub_cancel, show m - (m - i) = i by omega] at this
        rw [this]
        cases hpi : p i with
        | true => rw [if_pos ⟨by omega, rfl⟩]; rfl
        | false => rw [if_neg (by simp)]; rfl
    · have hm2 : i = m := by omega
      subst hm2
      rw [if_neg hm, Nat.sub_self]
      rw [if_neg (by rw [hq]; simp)]
      rfl
  rw [Nat.add_sub_cancel, e]
  show setN (fun i => if i < m then p i else false) m + (if (if m < m then p m else false) = true then 2 ^ m else 0) = setN p m
  rw [if_neg (Nat.lt_irrefl m), setN_congr (q := p) (fun i hi => by rw [if_pos hi])]
  simp
/-! ### The stations that must be wrong -/
theorem neg_free {l l' : List (Int × Int)} (hl : l'.length = l.length) (hs : ∀ i, i < l.length → l'.getD i (0, 0) = (-(l.getD i (0, 0)).2, -(l.getD i (0, 0)).1)) (r : Nat) : Alike (freeS r l) (freeS r l') id := by
  refine alike_neg (by rw [freeS_len, freeS_len, hl]) fun i hi => ?_
  rw [freeS_len] at hi
  rw [freeS_get _ _ _ hi, freeS_get _ _ _ (by omega)]
  split
  · rfl
  · exact hs i hi
theorem back_free {l l' : List (Int × Int)} (hl : l'.length = l.length) (hs : ∀ i, i < l.length → l'.getD i (0, 0) = l.getD (l.length - 1 - i) (0, 0)) (r : Nat) : Alike (freeS r l) (freeS (revN l.length r) l') (fun i => (freeS r l).length - 1 - i) := by
  refine alike_back (by rw [freeS_len, freeS_len, hl]) fun i hi => ?_
  rw [freeS_len] at hi ⊢
  rw [freeS_get _ _ _ (by omega), freeS_get _ _ _ (by omega), hs i hi]
  by_cases h : r / 2 ^ (l.length - 1 - i) % 2 = 1
  · rw [if_pos ((revN_bit hi).2 h), if_pos h]
  · rw [if_neg (fun c => h ((revN_bit hi).1 c)), if_neg h]
theorem neg_wrong {l l' : List (Int × Int)} (hl : l'.length = l.length) (hs : ∀ i, i < l.length → l'.getD i (0, 0) = (-(l.getD i (0, 0)).2, -(l.getD i (0, 0)).1)) (hok : ∀ x ∈ l, okSpan x) (hok' : ∀ x ∈ l', okSpan x) {m : Int} (hm : 0 ≤ m) {r r' : Nat} (h : IsWrong l m r) (h' : IsWrong l' m r') : r' = r := by
  have e := fun s => (neg_free hl hs s).can (freeS_ok _ _ hok) (freeS_ok _ _ hok') hm
  refine h'.eq ⟨by rw [hl]; exact h.lt, by rw [e]; exact h.can, fun s h1 h2 => h.min s (by rw [← hl]; exact h1) (by rw [← e]; exact h2)⟩
theorem back_wrong {l l' : List (Int × Int)} (h8 : l.length ≤ 8) (hl : l'.length = l.length) (hs : ∀ i, i < l.length → l'.getD i (0, 0) = l.getD (l.length - 1 - i) (0, 0)) (hok : ∀ x ∈ l, okSpan x) (hok' : ∀ x ∈ l', okSpan x) {m : Int} (hm : 0 ≤ m) {r r' : Nat} (h : IsWrong l m r) (h' : IsWrong l' m r') : ones 8 r' = ones 8 r := by
  have e := fun s => (back_free hl hs s).can (freeS_ok _ _ hok) (freeS_ok _ _ hok') hm
  have hs' : ∀ i, i < l'.length → l.getD i (0, 0) = l'.getD (l'.length - 1 - i) (0, 0) := fun i hi => by
    rw [hl] at hi ⊢
    rw [hs _ (by omega), show l.length - 1 - (l.length - 1 - i) = i by omega]
  have e' := fun s => (back_free hl.symm hs' s).can (freeS_ok _ _ hok') (freeS_ok _ _ hok) hm
  have a := (h'.min (revN l.length r) (by rw [hl]; exact revN_lt _ _) (by rw [e]; exact h.can)).1
  have b := (h.min (revN l'.length r') (by rw [hl]; exact revN_lt _ _) (by rw [e']; exact h'.can)).1
  rw [rev_ones h8 h.lt] at a
  have hlt := h'.lt
  rw [rev_ones (by omega) hlt] at b
  omega
end Go.Proofs.Ytafmgmaelnpehaa
end

section
set_option linter.unusedVariables false
set_option linter.unusedSimpArgs false
namespace Go.TL
open Go Go.RowKit
def tailOk2 (md : Region.Mode) (pre tail : Array Oper) : Bool :=
  (tail.all fun o => (o.after.any fun e => Region.binds md e && decide (pre.size ≤ e.on)) || (List.range pre.size).all fun j => (o.after.any fun e => Region.binds md e && e.on == j) || (List.range pre.size).any fun j' => decide (j < j') && match pre[j']? with | some p => p.after.any fun e => Region.binds md e && e.on == j | none => false) &&
  ((List.range pre.size).all fun j => match pre[j]? with
    | some o => (o.after.all fun e => !Region.binds md e || decide (e.on < j)) && (match o.guard with | some (g, _) => decide (g < pre.size) | none => true)
    | none => true)
section
variable {P : Program} {md : Region.Mode} {pre tail : Array Oper} {Q : Exit → Act → World → Prop}
theorem tail2_tail (h : tailOk2 md pre tail = true) {o : Oper} {i : Nat} (ho : tail[i]? = some o) {j : Nat} (hj : j < pre.size) : (∃ e ∈ o.after, Region.binds md e = true ∧ pre.size ≤ e.on) ∨ (∃ e ∈ o.after, Region.binds md e = true ∧ e.on = j) ∨ ∃ j' p, j < j' ∧ pre[j']? = some p ∧ ∃ e ∈ p.after, Region.binds md e = true ∧ e.on = j := by
  obtain ⟨hi, rfl⟩ := Array.getElem?_eq_some_iff.1 ho
  have h1 := (Bool.and_eq_true _ _ ▸ h : _ ∧ _).1
  have h2 := Array.all_eq_true.1 h1 i hi
  rcases Bool.or_eq_true_iff.1 h2 with h2 | h2
  · left
    obtain ⟨e, he, hb⟩ := Array.any_eq_true'.1 h2
    simp only [Bool.and_eq_true, decide_eq_true_eq] at hb
    exact ⟨e, he, hb.1, hb.2⟩
  right
  have h3 := List.all_eq_true.1 h2 j (List.mem_range.2 hj)
  rcases Bool.or_eq_true_iff.1 h3 with h3 | h3
  · left
    obtain ⟨e, he, hb⟩ := Array.any_eq_true'.1 h3
    simp only [Bool.and_eq_true, beq_iff_eq] at hb
    exact ⟨e, he, hb.1, hb.2⟩
  · right
    obtain ⟨j', hj', h4⟩ := List.any_eq_true.1 h3
    rw [Bool.and_eq_true, decide_eq_true_eq] at h4
    cases hp : pre[j']? with
    | none => rw [hp] at h4; exact absurd h4.2 (by simp)
    | some p =>
      rw [hp] at h4
      obtain ⟨e, he, hb⟩ := Array.any_eq_true'.1 h4.2
      simp only [Bool.and_eq_true, beq_iff_eq] at hb
      exact ⟨j', p, h4.1, hp, e, he, hb.1, hb.2⟩
theorem tail2_pre (h : tailOk2 md pre tail = true) {o : Oper} {j : Nat} (ho : pre[j]? = some o) : (∀ e ∈ o.after, Region.binds md e = true → e.on < j) ∧ ∀ g b, o.guard = some (g, b) → g < pre.size := by
  have hj := (Array.getElem?_eq_some_iff.1 ho).1
  have h1 := (Bool.and_eq_true _ _ ▸ h : _ ∧ _).2
  have h2 := List.all_eq_true.1 h1 j (List.mem_range.2 hj)
  simp only [ho, Bool.and_eq_true] at h2
  refine ⟨fun e he hb => ?_, fun g b hg => ?_⟩
  · have := (Array.all_eq_true_iff_forall_mem.1 h2.1) e he
    simp only [Bool.or_eq_true, Bool.not_eq_true', hb, decide_eq_true_eq] at this
    rcases this with h | h
    · cases h
    · exact h
  · have := h2.2
    rw [hg] at this
    simpa using this
theorem ready_some2 (h : tailOk2 md pre tail = true) {listed : Array Bool} (hs : listed.size = pre.size) (hl : left listed ≠ 0) : Region.ready md pre listed ≠ [] := by
  obtain ⟨j, hj, hmin⟩ := least (left_pos hl)
  intro e
  have hlt : j < listed.size := by
    rcases Nat.lt_or_ge j listed.size with h | h
    · exact h
    · simp [Array.getElem?_eq_none h] at hj
  have : j ∈ Region.ready md pre listed := by
    refine mem_ready.2 ⟨hj, pre[j]'(hs ▸ hlt), Array.getElem?_eq_getElem _, fun e he hb => ?_⟩
    have := (tail2_pre h (Array.getElem?_eq_getElem (hs ▸ hlt))).1 e he hb
    have h2 : ¬ listed.getD e.on true = false := fun h => by have := hmin _ h; omega
    have h3 : e.on < listed.size := by omega
    simp [h3] at h2 ⊢
    exact h2
  rw [e] at this
  cases this
/-- What has come up had come up before. -/
def Down (md : Region.Mode) (pre : Array Oper) (listed : Array Bool) : Prop := ∀ i o, pre[i]? = some o → listed.getD i true = true → i < listed.size → ∀ e ∈ o.after, Region.binds md e = true → listed.getD e.on true = true
theorem last_left : ∀ (n : Nat) {listed : Array Bool}, listed.size = n → left listed ≠ 0 → ∃ j, j < listed.size ∧ listed.getD j true = false ∧ ∀ i, j < i → i < listed.size → listed.getD i true = true := by
  intro n listed hs hl
  obtain ⟨j, hj⟩ := left_pos hl
  have hlt : j < listed.size := by
    rcases Nat.lt_or_ge j listed.size with h | h
    · exact h
    · simp [Array.getElem?_eq_none h] at hj
  have : ∀ d j, listed.size - j = d → j < listed.size → listed.getD j true = false → ∃ j, j < listed.size ∧ listed.getD j true = false ∧ ∀ i, j < i → i < listed.size → listed.getD i true = true := by
    intro d
    induction d using Nat.strongRecOn with
    | _ d ih =>
      intro j hd hlt hj
      by_cases hx : ∃ i, j < i ∧ i < listed.size ∧ listed.getD i true = false
      · obtain ⟨i, h1, h2, h3⟩ := hx
        exact ih (listed.size - i) (by omega) i rfl h2 h3
      · refine ⟨j, hlt, hj, fun i h1 h2 => ?_⟩
        cases e : listed.getD i true with
        | true => rfl
        | false => exact absurd ⟨i, h1, h2, e⟩ hx
  exact this _ j rfl hlt hj
theorem ready_pre2 (h : tailOk2 md pre tail = true) {listed : Array Bool} (hs : listed.size = pre.size) (hl : left listed ≠ 0) (hd : Down md pre listed) {j : Nat} :
    j ∈ Region.ready md (pre ++ tail) (listed ++ Array.replicate tail.size false) → j ∈ Region.ready md pre listed := by
  intro hj
  obtain ⟨h1, o, ho, h2⟩ := mem_ready.1 hj
  by_cases hlt : j < pre.size
  · rw [Array.getElem?_append_left hlt] at ho
    rw [getD_app _ (by omega)] at h1
    refine mem_ready.2 ⟨h1, o, ho, fun e he hb => ?_⟩
    have := h2 e he hb
    have hlt2 := (tail2_pre h ho).1 e he hb
    rwa [getD_app _ (by omega)] at this
  · exfalso
    rw [Array.getElem?_append_right (by omega)] at ho
    obtain ⟨j0, hj1, hj0, hlast⟩ := last_left _ rfl hl
    rcases tail2_tail h ho (hs ▸ hj1) with ⟨e, he, hb, hle⟩ | ⟨e, he, hb, rfl⟩ | ⟨j', p, hjj, hp, e, he, hb, rfl⟩
    · have := h2 e he hb
      rw [getD_app2 (by omega)] at this
      cases this
    · have := h2 e he hb
      rw [getD_app _ hj1] at this
      simp [hj1] at hj0 this
      rw [hj0] at this
      cases this
    · have hj' : j' < listed.size := by rw [hs]; exact (Array.getElem?_eq_some_iff.1 hp).1
      have := hd j' p hp (hlast j' hjj hj') hj' e he hb
      rw [hj0] at this
      cases this
theorem wpOp_app2 (h : tailOk2 md pre tail = true) {i : Nat} (hi : i < pre.size) {K K' : Act → World → Prop} {a : Act} {w : World} (hK : ∀ a w, K a w → K' a w)
    (hw : wpOp P pre (behind P md pre tail Q) i K a w) : wpOp P (pre ++ tail) Q i K' a w := by
  have ho : pre[i]? = some pre[i] := Array.getElem?_eq_getElem hi
  have ho' : (pre ++ tail)[i]? = some pre[i] := by rw [Array.getElem?_append_left hi]; exact ho
  have hpre := fun g b => (tail2_pre h ho).2 g b
  unfold wpOp at *
  simp only [ho, ho'] at hw ⊢
  have hy : Region.wanted pre[i] (yielded (pre ++ tail) a.tmps) = Region.wanted pre[i] (yielded pre a.tmps) := by
    unfold Region.wanted
    cases hg : (pre[i]).guard with
    | none => rfl
    | some gb =>
      obtain ⟨g, b⟩ := gb
      have hlt := hpre g b hg
      simp only [yielded, Array.getElem?_append_left hlt]
  rw [hy]
  split
  · rename_i hc
    rw [if_pos hc] at hw
    rcases hw with hw | ⟨_, a', w', hq⟩
    · left
      unfold Oper.wp at *
      generalize (execOp a.eval pre[i]).run P w = r at *
      cases r with
      | ok n w' =>
        cases n <;> simp only [Oper.upon] at hw ⊢ <;>
          first
            | exact hK _ _ hw
            | exact Calls.mono hw (fun e w'' he => by cases e <;> first | exact hK _ _ he | exact he | (obtain ⟨_, _, hq⟩ := he; exact hq.elim))
            | exact Rows.mono hw (fun _ _ he => hK _ _ he)
      | halt x w' => cases x <;> simp only [Oper.upon] at hw ⊢ <;> exact hw
    · exact hq.elim
  · rename_i hc
    rw [if_neg hc] at hw
    exact hK _ _ hw
theorem down_set {listed : Array Bool} (hd : Down md pre listed) {i : Nat} {o : Oper} (h1 : listed.getD i true = false) (ho : pre[i]? = some o) (h2 : ∀ e ∈ o.after, Region.binds md e = true → listed.getD e.on false = true) : Down md pre (listed.setIfInBounds i true) := by
  have up : ∀ k, listed.getD k true = true → (listed.setIfInBounds i true).getD k true = true := by
    intro k hk
    rw [Array.getD_eq_getD_getElem?] at hk ⊢
    rw [Array.getElem?_setIfInBounds]
    split
    · split <;> rfl
    · exact hk
  have up2 : ∀ k, listed.getD k false = true → listed.getD k true = true := by
    intro k hk
    rw [Array.getD_eq_getD_getElem?] at hk ⊢
    cases h : listed[k]? with
    | none => rfl
    | some b => rw [h] at hk; simpa using hk
  intro k p hp hk hlt e he hb
  by_cases ek : k = i
  · subst ek
    rw [ho] at hp
    cases hp
    exact up _ (up2 _ (h2 e he hb))
  · refine up _ (hd k p hp ?_ (by simpa using hlt) e he hb)
    rw [Array.getD_eq_getD_getElem?, Array.getElem?_setIfInBounds, if_neg (Ne.symm ek), ← Array.getD_eq_getD_getElem?] at hk
    exact hk
theorem wpAny_tail2 (h : tailOk2 md pre tail = true) : ∀ (fuel : Nat) (listed : Array Bool) (a : Act) (w : World), listed.size = pre.size → left listed = fuel → Down md pre listed →
    wpAny P md pre (behind P md pre tail Q) fuel listed a w → wpAny P md (pre ++ tail) Q (fuel + tail.size) (listed ++ Array.replicate tail.size false) a w
  | 0, listed, a, w, hs, hf, hd, hw => by
    have e := left_zero hf
    rw [hs] at e
    rw [e, Nat.zero_add]
    exact hw.2
  | fuel + 1, listed, a, w, hs, hf, hd, hw => by
    have hne : left listed ≠ 0 := by omega
    rw [show fuel + 1 + tail.size = (fuel + tail.size) + 1 by omega]
    refine ⟨fun e => ?_, fun i hi => ?_⟩
    · exfalso
      obtain ⟨j, hj⟩ := List.exists_mem_of_ne_nil _ (ready_some2 h hs hne)
      have : j ∈ Region.ready md (pre ++ tail) (listed ++ Array.replicate tail.size false) := by
        obtain ⟨h1, o, ho, h2⟩ := mem_ready.1 hj
        have hlt := (Array.getElem?_eq_some_iff.1 ho).1
        refine mem_ready.2 ⟨by rw [getD_app _ (by omega)]; exact h1, o, by rw [Array.getElem?_append_left hlt]; exact ho, fun e he hb => ?_⟩
        have := (tail2_pre h ho).1 e he hb
        rw [getD_app _ (by omega)]
        exact h2 e he hb
      rw [e] at this
      cases this
    · have hr := ready_pre2 h hs hne hd hi
      obtain ⟨h1, o, ho, h2⟩ := mem_ready.1 hr
      have hlt := (Array.getElem?_eq_some_iff.1 ho).1
      rw [set_app (by omega)]
      exact wpOp_app2 h hlt (fun a' w' hK => wpAny_tail2 h fuel _ a' w' (by simp [hs]) (by have := left_set h1; omega) (down_set hd h1 ho h2) hK) (hw.2 i hr)
end
section
variable {P : Program} {r : Option Nat} {Q : Exit → Array Value → World → Prop} {t : Array Value} {w : World}
theorem rel_half (n k : Nat) : Rel (n + k) (2 ^ n - 1) (Array.replicate n true ++ Array.replicate k false) := by
  refine ⟨by simp, fun j => ?_⟩
  rw [Nat.testBit_two_pow_sub_one, Array.getD_eq_getD_getElem?]
  by_cases h : j < n
  · rw [Array.getElem?_append_left (by simpa using h)]
    simp [h]
  · rw [Array.getElem?_append_right (by simpa using h)]
    by_cases h2 : j - n < k
    · simp [h, h2]
    · simp [h, Array.getElem?_eq_none (show (Array.replicate k false).size ≤ j - n by simp; omega)]
/-- A drawn region by two trees: the one for the first ones, in whose class of worlds their values do not change; behind it the one for the others. -/
theorem region_tree2 {c : Code} {id : Nat} (n k : Nat) (T1 T2 : Sch) (pre ops : Array Oper) (hops : regOps c = ops) (hpre : ((regOps c).toList.take n).toArray = pre) (hc : c = .region id (regOps c) true) (hm : P.follows .mixedOrders = true)
    (hnd : (regOps c).all (fun o => !isDefer o.op) = true) (hns : Region.noSelect (regOps c) = true) (hns1 : Region.noSelect ((regOps c).toList.take n).toArray = true) (hok : tailOk2 .any ((regOps c).toList.take n).toArray ((regOps c).toList.drop n).toArray = true)
    (hlen1 : lenT T1 = n) (hlen2 : lenT T2 = k) (hsz : ((regOps c).toList.take n).toArray.size = n) (hsz2 : ((regOps c).toList.drop n).toArray.size = k) (heven1 : evenT T1 = true) (heven2 : evenT T2 = true)
    (needs1 needs : List Nat) (hneeds1 : needsOf .any ((regOps c).toList.take n).toArray = needs1) (hneeds : needsOf .any (regOps c) = needs) (hchk1 : okT .any ((regOps c).toList.take n).toArray needs1 T1 0 (Array.replicate n false) = true) (hchk2 : okT .any (regOps c) needs T2 (2 ^ n - 1) (Array.replicate n true ++ Array.replicate k false) = true)
    (S : World → Prop)
    (h : ∀ ds (Q' Qh : Exit → Act → World → Prop), (∀ t W, Keep w W → Q .normal t W → Q' .normal { tmps := t, defers := ds } W) → (∀ a W, seqT P ops (fun _ => True) Q' T2 a W → Qh .normal a W) →
      seqT P pre S Qh T1 { tmps := t, defers := ds } w.drew) : Exec P r c t w Q := by
  intro hc' ds
  subst hops
  subst hpre
  generalize hops : regOps c = ops at *
  rw [hc]
  refine wpIn_mono (Q := fun e a W => match e with
        | .normal => a.defers = ds ∧ Keep w W ∧ Q .normal a.tmps W
        | _ => False) ?_ ?_
  · refine wpIn_region_draw fun tt => ?_
    simp only [Region.schedule, hm, Bool.true_or, if_true]
    have e : (ops.toList.take n).toArray ++ (ops.toList.drop n).toArray = ops := by
      apply Array.ext'
      simp
    have hs : ops.size = n + k := by rw [← e, Array.size_append, hsz, hsz2]
    have h0 := h ds (fun e a W => match e with
        | .normal => a.defers = ds ∧ Keep w W ∧ Q .normal a.tmps W
        | _ => False) (behind P .any (ops.toList.take n).toArray (ops.toList.drop n).toArray (fun e a W => match e with
        | .normal => a.defers = ds ∧ Keep w W ∧ Q .normal a.tmps W
        | _ => False)) (fun t W hk hq => ⟨rfl, hk, hq⟩) (fun a W hq => by
      have h3 := tree_any (S := fun _ => True) (P := P) hns hneeds (fun i t x hx c a v W hq => hq.elim) T2 (2 ^ n - 1) (Array.replicate n true ++ Array.replicate k false) a W (hs ▸ rel_half n k) hchk2 heven2 hq
      rw [hlen2] at h3
      have h4 := wpAny_of_held _ _ _ _ h3
      show wpAny P .any ((ops.toList.take n).toArray ++ (ops.toList.drop n).toArray) _ (ops.toList.drop n).toArray.size (Array.replicate (ops.toList.take n).toArray.size true ++ Array.replicate (ops.toList.drop n).toArray.size false) a W
      rw [hsz, hsz2, e]
      exact h4)
    have h2 := tree_any (S := S) (P := P) hns1 hneeds1 (fun i t x hx c a v W hq => hq.elim) T1 0 (Array.replicate n false) _ _ ⟨by simp [hsz], fun j => by rw [Nat.zero_testBit, Array.getD_eq_getD_getElem?, Array.getElem?_replicate]; split <;> rfl⟩ hchk1 heven1 h0
    rw [hlen1] at h2
    have h1 := wpAny_tail2 hok n (Array.replicate n false) _ _ (by simp [hsz]) (by simp [left]) (fun i o hp hk hlt => absurd hk (by simp at hlt ⊢; simp [hlt])) (wpAny_of_held _ _ _ _ h2)
    have e2 : Array.replicate n false ++ Array.replicate (ops.toList.drop n).toArray.size false = Array.replicate ops.size false := by
      rw [hsz2, hs, Array.replicate_append_replicate]
    rw [e, e2, hsz2, ← hs] at h1
    exact ops_in hnd (fun a W hq => hq) _ _ _ (wpAny_sound ops.size tt _ _ _ h1)
  · rintro e a W hq
    cases e with
    | normal => exact ⟨hq.2.1, ⟨[], hq.1, trivial⟩, hq.2.2⟩
    | panic c => exact hq.elim
    | exit id => exact hq.elim
    | goto l => exact hq.elim
    | ret => exact hq.elim
    | outgrown => exact hq.elim
end
end Go.TL
end

section
set_option linter.unusedVariables false
set_option linter.unusedSimpArgs false
namespace Go.Proofs.Ytafmgmaelnpehaa
open Go.RowKit Go.TL Go.Shelf Go.Fu
attribute [local go_sem] Oper.semAt_some
open PFurrowAsks Go.Proofs.YtafmgmaelnpehaaW.PrintWords
abbrev o4 (l : List (Option Value)) : List (Option Value) := none :: none :: none :: none :: l
abbrev o16 (l : List (Option Value)) : List (Option Value) := o4 (o4 (o4 (o4 l)))
abbrev o64 (l : List (Option Value)) : List (Option Value) := o16 (o16 (o16 (o16 l)))
theorem put_eq (l : List Value) (ds : List Deferred) (d : Nat) (v : Value) : ({ tmps := l.toArray, defers := ds } : Act).put (some d) v = { tmps := (l.set d v).toArray, defers := ds } := by
  simp [Act.put]
theorem put_none (a : Act) (v : Value) : a.put none v = a := rfl
theorem exec_app {P : Program} {a : Act} {w w' : World} {v xv v' : Value} (x : It) (s y : Operand) (t : TypeId) (ho : x.op = .call { callee := .builtin .append, args := #[s, y], argTypes := #[t, t] }) (hs : a.eval s = v) (hx : a.eval y = xv)
    (hr : (Builtin.append_ #[t, t] x.ty #[v, xv]).run P w = .ok v' w') : (execOp a.eval (mkO x)).run P w = .ok (.value v') w' := by
  unfold execOp
  simp only [mkO, ho, resolve, invoke, builtin, Sem.run_bind, Sem.run_pure, Result.andThen_ok, List.map_toArray, List.map_cons, List.map_nil, hs, hx, hr]
theorem own_slice {w : World} {base size n : Nat} {e : TypeId} {v : Value} {xs : List Value} (h : w.ownsRow base e size v n xs) : ∃ A c, v = .slice A n c := by
  rcases h.2 with ⟨rfl, hn⟩ | ⟨g, cap, cur, rfl, _⟩
  · exact ⟨none, 0, by rw [hn]⟩
  · exact ⟨_, _, rfl⟩
theorem box3_frozen {W : World} {B : Nat} {t : TypeId} {a b c : Value} (h : Box3 W B t a b c) (j : Nat) : W.frozen? ⟨B, j, none⟩ = false := by simp [World.frozen?, show W.heap[B]? = _ from h]
theorem box3_set0 {W : World} {B : Nat} {t : TypeId} {a b c : Value} (h : Box3 W B t a b c) (u : Value) : Box3 (W.setCell ⟨B, 0, none⟩ u) B t u b c := heap_setCell_same W B 0 _ t u h
theorem box3_set1 {W : World} {B : Nat} {t : TypeId} {a b c : Value} (h : Box3 W B t a b c) (u : Value) : Box3 (W.setCell ⟨B, 1, none⟩ u) B t a u c := heap_setCell_same W B 1 _ t u h
theorem box3_set2 {W : World} {B : Nat} {t : TypeId} {a b c : Value} (h : Box3 W B t a b c) (u : Value) : Box3 (W.setCell ⟨B, 2, none⟩ u) B t a b u := heap_setCell_same W B 2 _ t u h
theorem new_cells (W : World) (cs : List Value) (t : TypeId) : ∀ j u, cs[j]? = some u → (W.alloc (.cells cs.toArray t)).cell? ((⟨W.heap.size, 0, none⟩ : Addr).add j) = some u := by
  intro j u hj
  have h0 : (W.alloc (.cells cs.toArray t)).heap[W.heap.size]? = some (.cells cs.toArray t) := World.alloc_heap_new W _
  have hb : (⟨W.heap.size, 0, none⟩ : Addr).add j = ⟨W.heap.size, j, none⟩ := by
    unfold Addr.add
    split
    · rename_i h; rw [h]
    · simp
  rw [hb]
  unfold World.cell?
  rw [h0]
  simpa using hj
theorem grown_alloc (W : World) (o : Obj) : W.grownBy (W.alloc o) none := ⟨rfl, rfl, rfl, by simp, fun j hj _ => heap_alloc_old W o j hj⟩
def upd {α : Type} (f : Nat → α) (q : Nat) (x : α) : Nat → α := fun p => if p = q then x else f p
/-- Rows of spans that grow, each in a block of its own. -/
structure RowsQ (W : World) (B m : Nat) (v : Nat → Value) (l : Nat → List S28) : Prop where
  own : ∀ q, q < m → W.ownsRow B 28 2 (v q) (l q).length (flat ((l q).map toP))
  ne : ∀ p q, p < m → q < m → p ≠ q → (v p).ownBlock = none ∨ (v p).ownBlock ≠ (v q).ownBlock
theorem RowsQ.start (W : World) (B m : Nat) : RowsQ W B m (fun _ => .slice none 0 0) (fun _ => []) := ⟨fun q _ => ⟨by simp [flat], .inl ⟨rfl, rfl⟩⟩, fun p q _ _ _ => .inl rfl⟩
theorem RowsQ.kept {W W' : World} {B m : Nat} {v : Nat → Value} {l : Nat → List S28} {row : Option Nat} (h : RowsQ W B m v l) (hg : W.grownBy W' row) (hr : ∀ j, row = some j → j < B) : RowsQ W' B m v l :=
  ⟨fun q hq => (h.own q hq).kept hg (by
    cases e : (v q).ownBlock with
    | none => exact .inl rfl
    | some j =>
      right
      intro c
      have := (h.own q hq).lt j e
      have := hr j c.symm
      omega), h.ne⟩
theorem RowsQ.app {W : World} {B m : Nat} {v : Nat → Value} {l : Nat → List S28} (h : RowsQ W B m v l) (hB : B ≤ W.heap.size) {q : Nat} (hq : q < m) (a : Addr) (c : Nat) (s : S28) (hnews : ∀ j u, [Value.int .i64 s.f0, Value.int .i64 s.f1][j]? = some u → W.cell? (a.add j) = some u) (hn : (l q).length ≤ 100) (ty : TypeId) :
    ∃ v' W', (Builtin.append_ #[22, 22] ty #[v q, .slice (some a) 1 c]).run Try.prog W = .ok v' W' ∧ RowsQ W' B m (upd v q v') (upd l q (l q ++ [s])) ∧ W.grownBy W' (v q).ownBlock ∧ (v'.ownBlock = (v q).ownBlock ∨ v'.ownBlock = some W.heap.size) := by
  obtain ⟨i0, hi0, hz⟩ : ∃ i0, Try.prog.info? 28 = some i0 ∧ (i0.zero, i0.size, i0.bytes) = (some (.agg #[(.int .i64 0), (.int .i64 0)]), 2, 16) := by
    have := info28
    cases h : Try.prog.info? 28 with
    | none => rw [h] at this; cases this
    | some i0 => rw [h] at this; exact ⟨i0, rfl, Option.some.inj this⟩
  simp only [Prod.mk.injEq] at hz
  obtain ⟨v', W', hr, ho, hg, _, hat⟩ := run_append_own_at (P := Try.prog) W B 22 ty 28 i0 (.agg #[.int .i64 0, .int .i64 0]) 2 16 Try.underlying22 hi0 hz.1 hz.2.1 hz.2.2 rfl (by decide) (v q) (l q).length (flat ((l q).map toP)) (h.own q hq) a 1 c [.int .i64 s.f0, .int .i64 s.f1] rfl hnews (by intro x hx; simp only [List.mem_cons, List.not_mem_nil, or_false] at hx; rcases hx with rfl | rfl <;> rfl) (by unfold maxLen; omega) (by omega) hB
  have he : flat ((l q).map toP) ++ [.int .i64 s.f0, .int .i64 s.f1] = flat ((l q ++ [s]).map toP) := by rw [List.map_append, flat_app]; rfl
  rw [he] at ho
  refine ⟨v', W', hr, ⟨fun p hp => ?_, fun p r hp hr' hne => ?_⟩, hg, hat⟩
  · unfold upd
    by_cases e : p = q
    · subst e
      simp only [if_true, List.length_append, List.length_singleton]
      exact ho
    · simp only [if_neg e]
      exact (h.own p hp).kept hg (h.ne p q hp hq e)
  · have old : ∀ p, p < m → ∀ j, (v p).ownBlock = some j → j < W.heap.size := fun p hp j hj => ((h.own p hp).lt j hj).2
    have key : ∀ s, s < m → s ≠ q → (v s).ownBlock = none ∨ (v s).ownBlock ≠ v'.ownBlock := by
      intro s hs hsq
      rcases hat with hat | hat
      · rw [hat]; exact h.ne s q hs hq hsq
      · cases e : (v s).ownBlock with
        | none => exact .inl rfl
        | some j =>
          right
          rw [hat]
          intro c
          have := old s hs j e
          have := Option.some.inj c
          omega
    unfold upd
    by_cases ep : p = q
    · by_cases er : r = q
      · exact absurd (ep.trans er.symm) hne
      · simp only [if_pos ep, if_neg er]
        rcases key r hr' er with k | k
        · cases e : v'.ownBlock with
          | none => exact .inl rfl
          | some j => right; rw [k]; simp
        · exact .inr (Ne.symm k)
    · by_cases er : r = q
      · simp only [if_neg ep, if_pos er]
        exact key p hp ep
      · simp only [if_neg ep, if_neg er]
        exact h.ne p r hp hr' hne
/-- Where the boxes lie. -/
structure TuC (w : World) (b4 b9 b10 b11 b12 B : Nat) : Prop where
  lo : w.heap.size ≤ b4 ∧ w.heap.size ≤ b9 ∧ w.heap.size ≤ b10 ∧ w.heap.size ≤ b11 ∧ w.heap.size ≤ b12
  hi : b4 < B ∧ b9 < B ∧ b10 < B ∧ b11 < B ∧ b12 < B
  ne : b4 ≠ b9 ∧ b4 ≠ b10 ∧ b4 ≠ b11 ∧ b4 ≠ b12 ∧ b9 ≠ b10 ∧ b9 ≠ b11 ∧ b9 ≠ b12 ∧ b10 ≠ b11 ∧ b10 ≠ b12 ∧ b11 ≠ b12
structure TuS (F : Fur) (w : World) (b4 b9 b10 b11 b12 B : Nat) (x0 y0 z0 z1 z2 : Value) (v : Nat → Value) (l : Nat → List S28) (W : World) : Prop where
  below : Below w.heap.size w W
  f : Box3 W b4 24 F.s0 F.s1 F.s2
  n : Boxed W b9 3 (.int .i64 ((F.l0.length : Nat) : Int))
  x : Box3 W b10 24 x0 F.s1 F.s2
  y : Box3 W b11 24 y0 F.s1 F.s2
  z : Box3 W b12 24 z0 z1 z2
  own : RowsQ W B 5 v l
  sz : B ≤ W.heap.size
section
variable {F : Fur} {w W W' : World} {b4 b9 b10 b11 b12 B : Nat} {x0 y0 z0 z1 z2 : Value} {v : Nat → Value} {l : Nat → List S28}
theorem TuS.keepg (h : TuS F w b4 b9 b10 b11 b12 B x0 y0 z0 z1 z2 v l W) (hg : W.grownBy W' none) : TuS F w b4 b9 b10 b11 b12 B x0 y0 z0 z1 z2 v l W' :=
  ⟨h.below.grown hg h.below.size (fun q e => by cases e), (hg.block _ h.f.lt (by simp)).trans h.f, (hg.block _ h.n.lt (by simp)).trans h.n, (hg.block _ h.x.lt (by simp)).trans h.x, (hg.block _ h.y.lt (by simp)).trans h.y, (hg.block _ h.z.lt (by simp)).trans h.z, h.own.kept hg (fun j e => by cases e), Nat.le_trans h.sz hg.size⟩
theorem TuS.alloc (h : TuS F w b4 b9 b10 b11 b12 B x0 y0 z0 z1 z2 v l W) (o : Obj) : TuS F w b4 b9 b10 b11 b12 B x0 y0 z0 z1 z2 v l (W.alloc o) := h.keepg (grown_alloc W o)
theorem TuS.belowed (h : TuS F w b4 b9 b10 b11 b12 B x0 y0 z0 z1 z2 v l W) (hb : Below W.heap.size W W') : TuS F w b4 b9 b10 b11 b12 B x0 y0 z0 z1 z2 v l W' := h.keepg ⟨hb.os, hb.tape, hb.output, hb.size, fun j hj _ => hb.block j hj⟩
/-- A box of a span that no row lies in. -/
structure TuB (v : Nat → Value) (b : Nat) (lo hi : Int) (W : World) : Prop where
  box : Box2 W b 28 lo hi
  far : ∀ p, p < 5 → (v p).ownBlock ≠ some b
theorem TuB.belowed {b : Nat} {lo hi : Int} (h : TuB v b lo hi W) (hb : Below W.heap.size W W') : TuB v b lo hi W' := ⟨box2_below hb h.box, h.far⟩
theorem TuB.alloc {b : Nat} {lo hi : Int} (h : TuB v b lo hi W) (o : Obj) : TuB v b lo hi (W.alloc o) := h.belowed ((Below.refl _ W).alloc (Nat.le_refl _) o)
theorem TuB.new (h : TuS F w b4 b9 b10 b11 b12 B x0 y0 z0 z1 z2 v l W) (lo hi : Int) : TuB v W.heap.size lo hi (W.alloc (.cells #[.int .i64 lo, .int .i64 hi] 28)) :=
  ⟨Box2.new W 28 lo hi, fun p hp e => by have := ((h.own.own p hp).lt _ e).2; omega⟩
/-- A span that lies in a block is added to one of the rows. -/
theorem TuS.addz (h : TuS F w b4 b9 b10 b11 b12 B x0 y0 z0 z1 z2 v l W) (hC : TuC w b4 b9 b10 b11 b12 B) (q : Nat) (hq : q < 5) {z : Nat} {u1 u2 : Int} (hz : TuB v z u1 u2 W) (hn : (l q).length ≤ 100) (ty : TypeId) :
    ∃ v' W', (Builtin.append_ #[22, 22] ty #[v q, .slice (some ⟨z, 0, none⟩) 1 1]).run Try.prog W = .ok v' W' ∧ TuS F w b4 b9 b10 b11 b12 B x0 y0 z0 z1 z2 (upd v q v') (upd l q (l q ++ [⟨u1, u2⟩])) W' ∧ Keep W W' ∧ ∀ b lo hi, TuB v b lo hi W → TuB (upd v q v') b lo hi W' := by
  have hzc : ∀ j u, [Value.int .i64 u1, Value.int .i64 u2][j]? = some u → W.cell? ((⟨z, 0, none⟩ : Addr).add j) = some u := by
    intro j u hj
    have hb : (⟨z, 0, none⟩ : Addr).add j = ⟨z, j, none⟩ := by
      unfold Addr.add
      split
      · rename_i h; rw [h]
      · simp
    rw [hb]
    match j, hj with
    | 0, hj => simp at hj; subst hj; exact hz.box.cell0
    | 1, hj => simp at hj; subst hj; exact hz.box.cell1
    | j + 2, hj => simp at hj
  obtain ⟨v', W', hr, ho, hg, hat⟩ := h.own.app h.sz hq ⟨z, 0, none⟩ 1 ⟨u1, u2⟩ hzc hn ty
  have lt := fun j => (h.own.own q hq).lt j
  obtain ⟨l1, l2, l3, l4, l5⟩ := hC.lo
  obtain ⟨i1, i2, i3, i4, i5⟩ := hC.hi
  have far : ∀ b, b < B → some b ≠ (v q).ownBlock := fun b hb e => by have := (lt b e.symm).1; omega
  refine ⟨v', W', hr, ⟨h.below.grown hg h.below.size (fun j e => by have := (lt j e).1; omega), (hg.block _ h.f.lt (far _ i1)).trans h.f, (hg.block _ h.n.lt (far _ i2)).trans h.n, (hg.block _ h.x.lt (far _ i3)).trans h.x, (hg.block _ h.y.lt (far _ i4)).trans h.y, (hg.block _ h.z.lt (far _ i5)).trans h.z, ho, Nat.le_trans h.sz hg.size⟩, (Keep.refl _).grown hg (fun j o e hho => ?_), fun b lo hi hb => ?_⟩
  rotate_left
  · have hlt := hb.box.lt
    refine ⟨(hg.block _ hb.box.lt (fun e => hb.far q hq e.symm)).trans hb.box, fun p hp => ?_⟩
    unfold upd
    by_cases e : p = q
    · rw [if_pos e]
      rcases hat with k | k
      · rw [k]; exact hb.far q hq
      · rw [k]
        intro c
        have := Option.some.inj c
        omega
    · rw [if_neg e]; exact hb.far p hp
  rcases (h.own.own q hq).2 with ⟨e0, _⟩ | ⟨g, cap, cur, e0, _, hcur, _⟩
  · rw [e0] at e; cases e
  · rw [e0] at e
    cases e
    rw [hcur] at hho
    cases hho
    rfl
/-- A span is added to one of the rows. -/
theorem TuS.add (h : TuS F w b4 b9 b10 b11 b12 B x0 y0 z0 z1 z2 v l W) (hC : TuC w b4 b9 b10 b11 b12 B) (q : Nat) (hq : q < 5) (u1 u2 : Int) (hn : (l q).length ≤ 100) (ty : TypeId) :
    ∃ v' W', (Builtin.append_ #[22, 22] ty #[v q, .slice (some ⟨W.heap.size, 0, none⟩) 1 1]).run Try.prog (W.alloc (.cells #[.int .i64 u1, .int .i64 u2] 28)) = .ok v' W' ∧ TuS F w b4 b9 b10 b11 b12 B x0 y0 z0 z1 z2 (upd v q v') (upd l q (l q ++ [⟨u1, u2⟩])) W' ∧ Keep W W' ∧ ∀ b lo hi, TuB v b lo hi W → TuB (upd v q v') b lo hi W' := by
  have ha := h.alloc (.cells #[.int .i64 u1, .int .i64 u2] 28)
  obtain ⟨v', W', hr, ho, hg, hat⟩ := ha.own.app ha.sz hq ⟨W.heap.size, 0, none⟩ 1 ⟨u1, u2⟩ (new_cells W [.int .i64 u1, .int .i64 u2] 28) hn ty
  have lt := fun j => (ha.own.own q hq).lt j
  obtain ⟨l1, l2, l3, l4, l5⟩ := hC.lo
  obtain ⟨i1, i2, i3, i4, i5⟩ := hC.hi
  have far : ∀ b, b < B → some b ≠ (v q).ownBlock := fun b hb e => by have := (lt b e.symm).1; omega
  refine ⟨v', W', hr, ⟨ha.below.grown hg ha.below.size (fun j e => by have := (lt j e).1; omega), (hg.block _ ha.f.lt (far _ i1)).trans ha.f, (hg.block _ ha.n.lt (far _ i2)).trans ha.n, (hg.block _ ha.x.lt (far _ i3)).trans ha.x, (hg.block _ ha.y.lt (far _ i4)).trans ha.y, (hg.block _ ha.z.lt (far _ i5)).trans ha.z, ho, Nat.le_trans ha.sz hg.size⟩, ((Keep.refl W).alloc _).trans ((Keep.refl _).grown hg (fun j o e hho => ?_)), fun b lo hi hb => ?_⟩
  rotate_left
  · have hb' := hb.alloc (.cells #[.int .i64 u1, .int .i64 u2] 28)
    have hlt := hb.box.lt
    refine ⟨(hg.block _ hb'.box.lt (fun e => hb.far q hq e.symm)).trans hb'.box, fun p hp => ?_⟩
    unfold upd
    by_cases e : p = q
    · rw [if_pos e]
      rcases hat with k | k
      · rw [k]; exact hb.far q hq
      · rw [k]
        intro c
        have := Option.some.inj c
        simp at this
        omega
    · rw [if_neg e]; exact hb.far p hp
  rcases (ha.own.own q hq).2 with ⟨e0, _⟩ | ⟨g, cap, cur, e0, _, hcur, _⟩
  · rw [e0] at e; cases e
  · rw [e0] at e
    cases e
    rw [hcur] at hho
    cases hho
    rfl
theorem RowsQ.far (h : RowsQ W B 5 v l) {b i : Nat} (hb : b < B) (u : Value) : RowsQ (W.setCell ⟨b, i, none⟩ u) B 5 v l :=
  ⟨fun q hq => own_far (h.own q hq) fun j hj => by have := ((h.own q hq).lt j hj).1; show j ≠ b; omega, h.ne⟩
theorem TuS.setx (h : TuS F w b4 b9 b10 b11 b12 B x0 y0 z0 z1 z2 v l W) (hC : TuC w b4 b9 b10 b11 b12 B) (u : Value) : TuS F w b4 b9 b10 b11 b12 B u y0 z0 z1 z2 v l (W.setCell ⟨b10, 0, none⟩ u) := by
  obtain ⟨l1, l2, l3, l4, l5⟩ := hC.lo
  obtain ⟨i1, i2, i3, i4, i5⟩ := hC.hi
  obtain ⟨n1, n2, n3, n4, n5, n6, n7, n8, n9, n10⟩ := hC.ne
  exact ⟨h.below.setCell (p := ⟨b10, 0, none⟩) l3 u, (Below.heap_setCell W _ u _ n2).trans h.f, (Below.heap_setCell W _ u _ n5).trans h.n, box3_set0 h.x u, (Below.heap_setCell W _ u _ n8.symm).trans h.y, (Below.heap_setCell W _ u _ n9.symm).trans h.z, h.own.far i3 u, by simpa using h.sz⟩
theorem TuS.sety (h : TuS F w b4 b9 b10 b11 b12 B x0 y0 z0 z1 z2 v l W) (hC : TuC w b4 b9 b10 b11 b12 B) (u : Value) : TuS F w b4 b9 b10 b11 b12 B x0 u z0 z1 z2 v l (W.setCell ⟨b11, 0, none⟩ u) := by
  obtain ⟨l1, l2, l3, l4, l5⟩ := hC.lo
  obtain ⟨i1, i2, i3, i4, i5⟩ := hC.hi
  obtain ⟨n1, n2, n3, n4, n5, n6, n7, n8, n9, n10⟩ := hC.ne
  exact ⟨h.below.setCell (p := ⟨b11, 0, none⟩) l4 u, (Below.heap_setCell W _ u _ n3).trans h.f, (Below.heap_setCell W _ u _ n6).trans h.n, (Below.heap_setCell W _ u _ n8).trans h.x, box3_set0 h.y u, (Below.heap_setCell W _ u _ n10.symm).trans h.z, h.own.far i4 u, by simpa using h.sz⟩
theorem TuS.setz (h : TuS F w b4 b9 b10 b11 b12 B x0 y0 z0 z1 z2 v l W) (hC : TuC w b4 b9 b10 b11 b12 B) {i : Nat} {u g0 g1 g2 : Value} (hb : Box3 (W.setCell ⟨b12, i, none⟩ u) b12 24 g0 g1 g2) : TuS F w b4 b9 b10 b11 b12 B x0 y0 g0 g1 g2 v l (W.setCell ⟨b12, i, none⟩ u) := by
  obtain ⟨l1, l2, l3, l4, l5⟩ := hC.lo
  obtain ⟨i1, i2, i3, i4, i5⟩ := hC.hi
  obtain ⟨n1, n2, n3, n4, n5, n6, n7, n8, n9, n10⟩ := hC.ne
  exact ⟨h.below.setCell (p := ⟨b12, i, none⟩) l5 u, (Below.heap_setCell W _ u _ n4).trans h.f, (Below.heap_setCell W _ u _ n7).trans h.n, (Below.heap_setCell W _ u _ n9).trans h.x, (Below.heap_setCell W _ u _ n10).trans h.y, hb, h.own.far i5 u, by simpa using h.sz⟩
theorem TuS.drew (h : TuS F w b4 b9 b10 b11 b12 B x0 y0 z0 z1 z2 v l W) : TuS F w b4 b9 b10 b11 b12 B x0 y0 z0 z1 z2 v l W.drew :=
  ⟨h.below.drew, h.f, h.n, h.x, h.y, h.z, ⟨fun q hq => (h.own.own q hq).drew, h.own.ne⟩, h.sz⟩
end
end Go.Proofs.Ytafmgmaelnpehaa
end

section
set_option linter.unusedVariables false
set_option linter.unusedSimpArgs false
namespace Go.Proofs.Ytafmgmaelnpehaa
open Go.RowKit Go.TL Go.Shelf Go.Fu
attribute [local go_sem] Oper.semAt_some
open PFurrowAsks Go.Proofs.YtafmgmaelnpehaaW.PrintWords
def rvN (n s : Nat) : Nat → Nat
  | 0 => 0
  | i + 1 => rvN n s i + s / 2 ^ i % 2 * 2 ^ (n - 1 - i)
theorem rv_or_all : (List.range 9).all (fun n => (List.range 256).all fun s => (List.range n).all fun i => bits .or .i64 (rvN n s i : Int) ((s / 2 ^ i % 2 * 2 ^ (n - 1 - i) : Nat) : Int) == (rvN n s (i + 1) : Int)) = true := by kernel_rfl
theorem rv_or {n s i : Nat} (hn : n ≤ 8) (hs : s < 256) (hi : i < n) : bits .or .i64 (rvN n s i : Int) ((s / 2 ^ i % 2 * 2 ^ (n - 1 - i) : Nat) : Int) = (rvN n s (i + 1) : Int) :=
  eq_of_beq (List.all_eq_true.1 (List.all_eq_true.1 (List.all_eq_true.1 rv_or_all n (List.mem_range.2 (by omega))) s (List.mem_range.2 hs)) i (List.mem_range.2 hi))
theorem rv_all : (List.range 9).all (fun n => (List.range 256).all fun s => rvN n s n == revN n s) = true := by kernel_rfl
theorem rv_is {n s : Nat} (hn : n ≤ 8) (hs : s < 256) : rvN n s n = revN n s :=
  eq_of_beq (List.all_eq_true.1 (List.all_eq_true.1 rv_all n (List.mem_range.2 (by omega))) s (List.mem_range.2 hs))
def tn0t : It := ⟨(Op.move (Operand.tmp 3)), some 9, 3, true, none⟩
def tn1t : It := ⟨(Op.move (Operand.tmp 0)), some 10, 3, true, none⟩
def tn2t : It := ⟨(Op.move (Operand.tmp 4)), some 11, 3, true, none⟩
def tn3t : It := ⟨(Op.binOp BinOp.shr 3 (Operand.tmp 10) (Operand.tmp 11) 3), some 12, 3, true, none⟩
def tn4t : It := ⟨(Op.binOp BinOp.and 3 (Operand.tmp 12) (Operand.const (Value.int IntKind.i64 1)) 3), some 13, 3, true, none⟩
def tn5t : It := ⟨(Op.load 3 (Operand.tmp 1)), some 14, 3, true, none⟩
def tn6t : It := ⟨(Op.binOp BinOp.sub 3 (Operand.tmp 14) (Operand.const (Value.int IntKind.i64 1)) 3), some 15, 3, true, none⟩
def tn7 : It := ⟨(Op.move (Operand.tmp 4)), some 16, 3, false, none⟩
def tn8 : It := ⟨(Op.binOp BinOp.sub 3 (Operand.tmp 15) (Operand.tmp 16) 3), some 17, 3, false, none⟩
def tn9 : It := ⟨(Op.binOp BinOp.shl 3 (Operand.tmp 13) (Operand.tmp 17) 3), some 18, 3, false, none⟩
def tn10 : It := ⟨(Op.binOp BinOp.or 3 (Operand.tmp 9) (Operand.tmp 18) 3), some 19, 3, false, none⟩
def tn11 : It := ⟨(Op.assign (Operand.tmp 19)), some 3, 3, false, none⟩
def TnI (n s b9 : Nat) (V : World) (j : Nat) (t : Array Value) (W : World) : Prop := ∃ i : Nat, i ≤ n ∧ j = n - i ∧ Below V.heap.size V W ∧ Slots (some (.int .i64 ((s : Nat) : Int)) :: some (.pointer (some ⟨b9, 0, none⟩)) :: none :: some (.int .i64 ((rvN n s i : Nat) : Int)) :: none :: some (.int .i64 ((n : Nat) : Int)) :: some (.int .i64 ((i : Nat) : Int)) :: none :: none :: none :: o4 (o4 (o4 []))) t
def TnM (n s b9 : Nat) (V : World) (i : Nat) (t : Array Value) (W : World) : Prop := Below V.heap.size V W ∧ Slots (some (.int .i64 ((s : Nat) : Int)) :: some (.pointer (some ⟨b9, 0, none⟩)) :: none :: some (.int .i64 ((rvN n s (i + 1) : Nat) : Int)) :: none :: some (.int .i64 ((n : Nat) : Int)) :: some (.int .i64 ((i : Nat) : Int)) :: none :: none :: none :: o4 (o4 (o4 []))) t
set_option maxRecDepth 100000 in
set_option maxHeartbeats 2000000 in
theorem turn_c {n s b9 : Nat} (hn : n ≤ 8) (hs : s < 256) (V : World) (h9 : Boxed V b9 3 (.int .i64 ((n : Nat) : Int))) : Calls Try.prog 40 #[.int .i64 ((s : Nat) : Int), .pointer (some ⟨b9, 0, none⟩)] V fun e w' => e = .returned (.int .i64 ((revN n s : Nat) : Int)) ∧ Below V.heap.size V w' := by
  refine calls_of_exec Try.func40 rfl ?_
  simp only [Try.ntmps40, List.size_toArray, List.length_cons, List.length_nil, Nat.reduceAdd, Nat.reduceSub, Array.replicate_succ, Array.replicate_zero, List.push_toArray, List.append_toArray, List.nil_append, List.cons_append]
  refine exec_seq (exec_region_o fun ds => ?_)
  gi_wp2
  refine eq_mk (Keep.refl _) ?_
  show Exec _ _ _ _ _ _
  have c9 := h9.cell
  refine exec_seq (exec_seq (exec_region_o fun ds => ?_))
  gi_wp2
  refine eq_mk (Keep.refl _) ?_
  show Exec _ _ _ _ _ _
  clear c9
  refine exec_block ?_
  refine exec_loop (TnI n s b9 V) n ⟨0, by omega, by omega, Below.refl _ _, by simp only [Slots, Fits, and_self]; simp [rvN]⟩ ?_
  rintro j t W ⟨i, hi, hj, hB, hSl⟩
  obtain ⟨x, hx⟩ := Slots.open_ hSl; simp only [fill, Nat.reduceAdd] at hx; subst hx; clear hSl
  refine exec_seq (exec_region_o fun ds => ?_)
  gi_wp2
  refine eq_mk (Keep.refl _) ?_
  show Exec _ _ _ _ _ _
  refine exec_seq (exec_cond (b := decide (i < n)) rfl (fun hp => ?_) (fun hp => ?_))
  · have hil : i < n := of_decide_eq_true hp
    refine exec_skip ?_
    show Exec _ _ _ _ _ _
    refine exec_cut (TnM n s b9 V i) ?_ ?_
    · refine exec_block (exec_seq (exec_region_o fun ds => ?_))
      gi_wp2
      refine eq_mk (Keep.refl _) ?_
      show Exec _ _ _ _ _ _
      have hb : bits .and .i64 ((s : Int) / 2 ^ i) 1 = ((s / 2 ^ i % 2 : Nat) : Int) := andb_is s i hs (by omega)
      have hmin : min i 64 = i := by omega
      have hi0 : ¬ (i : Int) < 0 := by omega
      obtain ⟨j', hj'⟩ : ∃ j', n - 1 - i = j' := ⟨_, rfl⟩
      have hj8 : j' < 8 := by omega
      have hj0 : ¬ (j' : Int) < 0 := by omega
      have w4 := rv_or hn hs hil
      rw [hj'] at w4
      have w1 : IntKind.i64.wrap ((n : Int) - 1) = (n : Int) - 1 := IntWalk.i64_in _ (by omega)
      have w2 : IntKind.i64.wrap ((n : Int) - 1 - (i : Int)) = (j' : Int) := by rw [IntWalk.i64_in _ (by omega)]; omega
      have hp8 : 2 ^ j' ≤ 2 ^ 8 := Nat.pow_le_pow_right (by omega) (by omega)
      have hbm : s / 2 ^ i % 2 = 0 ∨ s / 2 ^ i % 2 = 1 := by omega
      have w3 : IntKind.i64.wrap (((s / 2 ^ i % 2 : Nat) : Int) * 2 ^ j') = (((s / 2 ^ i % 2) * 2 ^ j' : Nat) : Int) := by
        have e : ((s / 2 ^ i % 2 : Nat) : Int) * 2 ^ j' = (((s / 2 ^ i % 2) * 2 ^ j' : Nat) : Int) := by push_cast; rfl
        rw [e]
        refine IntWalk.i64_in _ ?_
        rcases hbm with k | k <;> rw [k] <;> omega
      have w3b : IntKind.i64.wrap (((s / 2 ^ i % 2 : Nat) : Int) * 2 ^ min j' 64) = (((s / 2 ^ i % 2) * 2 ^ j' : Nat) : Int) := by rw [show min j' 64 = j' by omega]; exact w3
      have w3c : IntKind.i64.wrap ((s : Int) / 2 ^ i % 2 * 2 ^ j') = (s : Int) / 2 ^ i % 2 * 2 ^ j' := by have := w3; push_cast at this; exact this
      have w4c : bits .or .i64 (rvN n s i : Int) ((s : Int) / 2 ^ i % 2 * 2 ^ j') = (rvN n s (i + 1) : Int) := by have := w4; push_cast at this; exact this
      have cN : ∀ W', W' = W.drew → W'.cell? ⟨b9, 0, none⟩ = some (.int .i64 ((n : Nat) : Int)) := fun W' h => by rw [h]; exact Boxed.cell (show Boxed W b9 3 (.int .i64 ((n : Nat) : Int)) from (hB.block _ h9.lt).trans h9)
      have hKW : Keep W W.drew := (Keep.refl W).drew
      have hX : Below V.heap.size V W.drew := hB.drew
      clear hj
      generalize hW : W = X at *
      refine region_tree (c := (sub (Try.f40.body.getD .skip) [1, 0, 1, 0, 0, 1, 1, 0, 0, 1])) (id := 4) (.one 0 true (.one 1 true (.one 2 true (.one 3 true (.one 4 true (.one 5 true (.one 6 true (.one 7 false (.one 8 false (.one 9 false (.one 10 false (.one 11 false (.nil))))))))))))) (Opq (regOps (sub (Try.f40.body.getD .skip) [1, 0, 1, 0, 0, 1, 1, 0, 0, 1]))) rfl (by kernel_rfl) (by kernel_rfl) (by kernel_rfl) (by kernel_rfl) (by kernel_rfl) (by kernel_rfl) [0, 0, 0, 6, 8, 0, 32, 0, 192, 272, 513, 2047] (by kernel_rfl) (by kernel_rfl) (fun W2 => W2 = X.drew) (fun _ _ _ => False) (fun _ _ _ h => h.elim) (fun _ _ _ _ _ _ _ _ h => h.elim) fun ds Q' hQn hQp => ?_
      refine tr_take tn0t (.int .i64 ((rvN n s i : Nat) : Int)) (by kernel_rfl) rfl (by first | exact rfl | trivial) (fun wq hq => ?_) (rfl) ?_; (focus (exact rfl)); simp only [tn0t, put_eq, List.set_cons_succ, List.set_cons_zero]
      refine tr_take tn1t (.int .i64 ((s : Nat) : Int)) (by kernel_rfl) rfl (by first | exact rfl | trivial) (fun wq hq => ?_) (rfl) ?_; (focus (exact rfl)); simp only [tn1t, put_eq, List.set_cons_succ, List.set_cons_zero]
      refine tr_take tn2t (.int .i64 ((i : Nat) : Int)) (by kernel_rfl) rfl (by first | exact rfl | trivial) (fun wq hq => ?_) (rfl) ?_; (focus (exact rfl)); simp only [tn2t, put_eq, List.set_cons_succ, List.set_cons_zero]
      refine tr_take tn3t (.int .i64 ((s : Int) / 2 ^ i)) (by kernel_rfl) rfl (by first | exact rfl | trivial) (fun wq hq => ?_) (rfl) ?_; (focus (simp [go_sem, mkO, tn3t, hmin, hi0]; done)); simp only [tn3t, put_eq, List.set_cons_succ, List.set_cons_zero]
      refine tr_take tn4t (.int .i64 ((s / 2 ^ i % 2 : Nat) : Int)) (by kernel_rfl) rfl (by first | exact rfl | trivial) (fun wq hq => ?_) (rfl) ?_; (focus (simp [go_sem, mkO, tn4t, hb]; done)); simp only [tn4t, put_eq, List.set_cons_succ, List.set_cons_zero]
      refine tr_take tn5t (.int .i64 ((n : Nat) : Int)) (by kernel_rfl) rfl (by first | exact rfl | trivial) (fun wq hq => ?_) (rfl) ?_; (focus (simp [go_sem, mkO, tn5t, cN wq hq]; done)); simp only [tn5t, put_eq, List.set_cons_succ, List.set_cons_zero]
      refine tr_take tn6t (.int .i64 ((n : Int) - 1)) (by kernel_rfl) rfl (by first | exact rfl | trivial) (fun wq hq => ?_) (rfl) ?_; (focus (simp [go_sem, mkO, tn6t, w1]; done)); simp only [tn6t, put_eq, List.set_cons_succ, List.set_cons_zero]
      refine tr_make tn7 (.int .i64 ((i : Nat) : Int)) _ (by kernel_rfl) rfl (by first | exact rfl | trivial) ?_ (rfl) ?_; (focus (exact rfl)); simp only [tn7, put_eq, List.set_cons_succ, List.set_cons_zero]
      refine tr_make tn8 (.int .i64 ((j' : Nat) : Int)) _ (by kernel_rfl) rfl (by first | exact rfl | trivial) ?_ (rfl) ?_; (focus (simp [go_sem, mkO, tn8, w2]; done)); simp only [tn8, put_eq, List.set_cons_succ, List.set_cons_zero]
      refine tr_make tn9 (.int .i64 (((s / 2 ^ i % 2) * 2 ^ j' : Nat) : Int)) _ (by kernel_rfl) rfl (by first | exact rfl | trivial) ?_ (rfl) ?_; (focus (simp [go_sem, mkO, tn9, w3, w3b, w3c, hj0]; done)); simp only [tn9, put_eq, List.set_cons_succ, List.set_cons_zero]
      refine tr_make tn10 (.int .i64 ((rvN n s (i + 1) : Nat) : Int)) _ (by kernel_rfl) rfl (by first | exact rfl | trivial) ?_ (rfl) ?_; (focus (simp [go_sem, mkO, tn10, w4, w4c]; done)); simp only [tn10, put_eq, List.set_cons_succ, List.set_cons_zero]
      refine tr_make tn11 (.int .i64 ((rvN n s (i + 1) : Nat) : Int)) _ (by kernel_rfl) rfl (by first | exact rfl | trivial) ?_ (rfl) ?_; (focus (exact rfl)); simp only [tn11, put_eq, List.set_cons_succ, List.set_cons_zero]
      exact hQn _ _ hKW ⟨hX, (by simp only [Slots, Fits, and_self])⟩
    · rintro t' W' ⟨hB, hSl⟩
      clear x
      obtain ⟨x, hx⟩ := Slots.open_ hSl; simp only [fill, Nat.reduceAdd] at hx; subst hx; clear hSl
      have hw : IntKind.i64.wrap ((i : Int) + 1) = ((i + 1 : Nat) : Int) := by rw [IntWalk.i64_in _ (by omega)]; norm_cast
      refine exec_region_o fun ds => ?_
      gi_wp2
      exact eq_mk (Keep.refl _) ⟨j - 1, by omega, i + 1, by omega, by omega, hB, by simp only [Slots, Fits, and_self]; simp⟩
  · have hin : i = n := by have := of_decide_eq_false hp; omega
    subst hin
    refine exec_exit ?_
    show Exec _ _ _ _ _ _
    rw [rv_is hn hs]
    refine exec_seq (exec_region_o fun ds => ?_)
    gi_wp2
    refine eq_mk (Keep.refl _) ?_
    show Exec _ _ _ _ _ _
    exact exec_ret ⟨.inr rfl, fun W' hG => ⟨.int .i64 ((revN i s : Nat) : Int), by simp [results, Try.f40, go_sem], rfl, hB.trans (hG.below (Nat.le_refl _) hB.size)⟩⟩
end Go.Proofs.Ytafmgmaelnpehaa
end

section
set_option linter.unusedVariables false
set_option linter.unusedSimpArgs false
namespace Go.Proofs.Ytafmgmaelnpehaa
open Go.RowKit Go.TL Go.Shelf Go.Fu
attribute [local go_sem] Oper.semAt_some
open PFurrowAsks Go.Proofs.YtafmgmaelnpehaaW.PrintWords
set_option maxRecDepth 100000 in
set_option maxHeartbeats 4000000 in
theorem tv_33 {V : World} {b4 b9 a18 a27 b30 : Nat} {most sS sC wr ew : Int} {w16 w17 s23 w211 : Value} {a31 a40 : Nat} {zr ii pa pb qa qb mo : Int} {s36 : Value} (b18 : Box2 V a18 28 pa pb) (b31 : Box2 V a31 28 pa pb) (b27 : Box2 V a27 28 qa qb) (b40 : Box2 V a40 28 qa qb)
    (h1 : ∀ W, Below V.heap.size V W → Calls Try.prog 33 #[s36] W fun e w' => e = .returned (.int .i64 mo) ∧ Below W.heap.size W w') (h2 : ∀ W, Below V.heap.size V W → Calls Try.prog 33 #[s23] W fun e w' => e = .returned (.int .i64 mo) ∧ Below W.heap.size W w') (t : Array Value) (hSl : Slots (none :: some (.int .i64 most) :: none :: none :: some (.pointer (some ⟨b4, 0, none⟩)) :: o4 (some (.pointer (some ⟨b9, 0, none⟩)) :: none :: none :: o4 (some (w16) :: some (w17) :: some (.pointer (some ⟨a18, 0, none⟩)) :: some (.int .i64 0) :: some (.int .i64 sS) :: some (.int .i64 sC) :: some (.int .i64 0) :: some (s23) :: some (.int .i64 0) :: some (.int .i64 wr) :: some (.int .i64 ew) :: some (.pointer (some ⟨a27, 0, none⟩)) :: some (.int .i64 0) :: some (.int .i64 ii) :: some (.pointer (some ⟨b30, 0, none⟩)) :: some (.pointer (some ⟨a31, 0, none⟩)) :: some (.int .i64 0) :: some (.int .i64 sS) :: some (.int .i64 sC) :: some (.int .i64 0) :: some (s36) :: some (.int .i64 0) :: some (.int .i64 zr) :: some (.int .i64 ew) :: some (.pointer (some ⟨a40, 0, none⟩)) :: some (.int .i64 0) :: none :: o4 (o4 (o16 (o16 (o64 (o64 (some (w211) :: some (.int .i64 3) :: some (.int .i64 ii) :: o4 (o4 (o16 (o16 (o64 (o64 [])))))))))))))) t) :
    Exec Try.prog none (sub (Try.f11.body.getD .skip) [1, 1, 1, 1, 1, 1, 1, 1, 1, 1, 1, 1, 1, 1, 0, 1, 0, 0, 1, 1, 0, 0, 1, 1, 1, 1, 1, 1, 1, 1, 0, 0]) t V (andThen (fun t' W' => Below V.heap.size V W' ∧ Slots (none :: some (.int .i64 most) :: none :: none :: some (.pointer (some ⟨b4, 0, none⟩)) :: o4 (some (.pointer (some ⟨b9, 0, none⟩)) :: none :: none :: o4 (some (w16) :: some (w17) :: some (.pointer (some ⟨a18, 0, none⟩)) :: some (.int .i64 0) :: some (.int .i64 sS) :: some (.int .i64 sC) :: some (.int .i64 0) :: some (s23) :: some (.int .i64 0) :: some (.int .i64 wr) :: some (.int .i64 ew) :: some (.pointer (some ⟨a27, 0, none⟩)) :: some (.int .i64 0) :: some (.int .i64 ii) :: some (.pointer (some ⟨b30, 0, none⟩)) :: none :: none :: none :: o4 (some (.int .i64 zr) :: o4 (o4 (o4 (o16 (o16 (o64 (o64 (some (w211) :: some (.int .i64 3) :: some (.int .i64 ii) :: none :: none :: none :: o4 (o4 (o16 (o64 (some (.bool false) :: o4 (o4 (o4 (o64 [])))))))))))))))))) t') fun _ _ _ => False) := by
  obtain ⟨x, hx⟩ := Slots.open_ hSl; simp only [fill, Nat.reduceAdd] at hx; subst hx; clear hSl
  have hu28 := Try.underlying28
  have d0 := b18.cell0
  have d1 := b18.cell1
  have e0 := b31.cell0
  have e1 := b31.cell1
  have H1 := Lib.hid h1
  have H2 := Lib.hid h2
  clear h1 h2
  refine exec_region_o fun ds => ?_
  show (Code.region _ _ _).wpIn _ _ _ _ _ _
  gi_wp2_with fail
  refine ⟨trivial, rfl, (callsIn_wide.2 (H1.out V (Below.refl _ _))).mono ?_⟩
  rintro e X ⟨rfl, hx⟩
  have hK := Keep.of_below hx
  have HX := Lib.hid hx
  replace b27 := box2_below hx b27
  replace b40 := box2_below hx b40
  clear hx d0 d1 e0 e1 b18 b31
  gi_wp2_with fail
  refine ⟨trivial, rfl, (callsIn_wide.2 (H2.out X HX.out)).mono ?_⟩
  rintro e Y ⟨rfl, hx⟩
  replace hK := hK.trans (Keep.of_below hx)
  have HY := Lib.hid (HX.out.trans (hx.mono HX.out.size))
  replace b27 := box2_below hx b27
  replace b40 := box2_below hx b40
  clear hx
  have d0 := b27.cell0
  have d1 := b27.cell1
  have e0 := b40.cell0
  have e1 := b40.cell1
  gi_wp2
  exact eq_mk hK ⟨HY.out, (by simp only [Slots, Fits, and_self])⟩
end Go.Proofs.Ytafmgmaelnpehaa
end

section
set_option linter.unusedVariables false
set_option linter.unusedSimpArgs false
namespace Go.Proofs.Ytafmgmaelnpehaa
open Go.RowKit Go.TL Go.Shelf Go.Fu
attribute [local go_sem] Oper.semAt_some
open PFurrowAsks Go.Proofs.YtafmgmaelnpehaaW.PrintWords
theorem undef_bool {b : Bool} (h : some undef = some (Value.bool b)) : False := by cases h
set_option maxRecDepth 100000 in
set_option maxHeartbeats 4000000 in
theorem tv_35a {V : World} {b4 b9 a18 a27 b30 : Nat} {most sS sC wr ew : Int} {w16 w17 s23 w211 : Value} {zr : Int}  (t : Array Value) (hSl : Slots (none :: some (.int .i64 most) :: none :: none :: some (.pointer (some ⟨b4, 0, none⟩)) :: o4 (some (.pointer (some ⟨b9, 0, none⟩)) :: none :: none :: o4 (some (w16) :: some (w17) :: some (.pointer (some ⟨a18, 0, none⟩)) :: some (.int .i64 0) :: some (.int .i64 sS) :: some (.int .i64 sC) :: some (.int .i64 0) :: some (s23) :: some (.int .i64 0) :: some (.int .i64 wr) :: some (.int .i64 ew) :: some (.pointer (some ⟨a27, 0, none⟩)) :: some (.int .i64 0) :: some (.int .i64 0) :: some (.pointer (some ⟨b30, 0, none⟩)) :: none :: none :: none :: o4 (some (.int .i64 zr) :: o4 (o4 (o4 (o16 (o16 (o64 (o64 (some (w211) :: some (.int .i64 3) :: some (.int .i64 0) :: o4 (o4 (o16 (o16 (o64 (o64 [])))))))))))))))) t) :
    Exec Try.prog none (sub (Try.f11.body.getD .skip) [1, 1, 1, 1, 1, 1, 1, 1, 1, 1, 1, 1, 1, 1, 0, 1, 0, 0, 1, 1, 0, 0, 1, 1, 1, 1, 1, 1, 1, 1, 1, 0, 0]) t V (andThen (fun t' W' => Below V.heap.size V W' ∧ Slots (none :: some (.int .i64 most) :: none :: none :: some (.pointer (some ⟨b4, 0, none⟩)) :: o4 (some (.pointer (some ⟨b9, 0, none⟩)) :: none :: none :: o4 (some (w16) :: some (w17) :: some (.pointer (some ⟨a18, 0, none⟩)) :: some (.int .i64 0) :: some (.int .i64 sS) :: some (.int .i64 sC) :: some (.int .i64 0) :: some (s23) :: some (.int .i64 0) :: some (.int .i64 wr) :: some (.int .i64 ew) :: some (.pointer (some ⟨a27, 0, none⟩)) :: some (.int .i64 0) :: some (.int .i64 0) :: some (.pointer (some ⟨b30, 0, none⟩)) :: o4 (o16 (o16 (o16 (o64 (o64 (some (w211) :: some (.int .i64 3) :: some (.int .i64 0) :: none :: o4 (o16 (o16 (o16 (o64 (some (.bool false) :: none :: none :: o16 (o16 (o16 [])))))))))))))))) t') fun _ _ _ => False) := by
  obtain ⟨x, hx⟩ := Slots.open_ hSl; simp only [fill, Nat.reduceAdd] at hx; subst hx; clear hSl
  have HX := Lib.hid (Below.refl V.heap.size V)
  refine exec_region_o fun ds => ?_
  show (Code.region _ _ _).wpIn _ _ _ _ _ _
  gi_wp2_with fail
  all_goals try exact (undef_bool ‹some undef = some (Value.bool _)›).elim
  all_goals refine ⟨trivial, ?_⟩
  all_goals gi_wp2_with fail
  all_goals try exact (undef_bool ‹some undef = some (Value.bool _)›).elim
  all_goals refine ⟨trivial, ?_⟩
  all_goals gi_wp2
  all_goals try exact (undef_bool ‹some undef = some (Value.bool _)›).elim
  all_goals exact eq_mk (Keep.refl _) ⟨HX.out, (by simp only [Slots, Fits, and_self])⟩
set_option maxRecDepth 100000 in
set_option maxHeartbeats 4000000 in
theorem tv_35b {V : World} {b4 b9 a18 a27 b30 : Nat} {most sS sC wr ew : Int} {w16 w17 s23 w211 : Value}   (t : Array Value) (hSl : Slots (none :: some (.int .i64 most) :: none :: none :: some (.pointer (some ⟨b4, 0, none⟩)) :: o4 (some (.pointer (some ⟨b9, 0, none⟩)) :: none :: none :: o4 (some (w16) :: some (w17) :: some (.pointer (some ⟨a18, 0, none⟩)) :: some (.int .i64 0) :: some (.int .i64 sS) :: some (.int .i64 sC) :: some (.int .i64 0) :: some (s23) :: some (.int .i64 0) :: some (.int .i64 wr) :: some (.int .i64 ew) :: some (.pointer (some ⟨a27, 0, none⟩)) :: some (.int .i64 0) :: some (.int .i64 1) :: some (.pointer (some ⟨b30, 0, none⟩)) :: none :: none :: none :: o4 (some (.int .i64 wr) :: o4 (o4 (o4 (o16 (o16 (o64 (o64 (some (w211) :: some (.int .i64 3) :: some (.int .i64 1) :: o4 (o4 (o16 (o16 (o64 (o64 [])))))))))))))))) t) :
    Exec Try.prog none (sub (Try.f11.body.getD .skip) [1, 1, 1, 1, 1, 1, 1, 1, 1, 1, 1, 1, 1, 1, 0, 1, 0, 0, 1, 1, 0, 0, 1, 1, 1, 1, 1, 1, 1, 1, 1, 0, 0]) t V (andThen (fun t' W' => Below V.heap.size V W' ∧ Slots (none :: some (.int .i64 most) :: none :: none :: some (.pointer (some ⟨b4, 0, none⟩)) :: o4 (some (.pointer (some ⟨b9, 0, none⟩)) :: none :: none :: o4 (some (w16) :: some (w17) :: some (.pointer (some ⟨a18, 0, none⟩)) :: some (.int .i64 0) :: some (.int .i64 sS) :: some (.int .i64 sC) :: some (.int .i64 0) :: some (s23) :: some (.int .i64 0) :: some (.int .i64 wr) :: some (.int .i64 ew) :: some (.pointer (some ⟨a27, 0, none⟩)) :: some (.int .i64 0) :: some (.int .i64 1) :: some (.pointer (some ⟨b30, 0, none⟩)) :: o4 (o16 (o16 (o16 (o64 (o64 (some (w211) :: some (.int .i64 3) :: some (.int .i64 1) :: none :: o4 (o16 (o16 (o16 (o64 (some (.bool false) :: none :: none :: o16 (o16 (o16 [])))))))))))))))) t') fun _ _ _ => False) := by
  obtain ⟨x, hx⟩ := Slots.open_ hSl; simp only [fill, Nat.reduceAdd] at hx; subst hx; clear hSl
  have HX := Lib.hid (Below.refl V.heap.size V)
  refine exec_region_o fun ds => ?_
  show (Code.region _ _ _).wpIn _ _ _ _ _ _
  gi_wp2_with fail
  all_goals try exact (undef_bool ‹some undef = some (Value.bool _)›).elim
  all_goals refine ⟨trivial, ?_⟩
  all_goals gi_wp2_with fail
  all_goals try exact (undef_bool ‹some undef = some (Value.bool _)›).elim
  all_goals refine ⟨trivial, ?_⟩
  all_goals gi_wp2
  all_goals try exact (undef_bool ‹some undef = some (Value.bool _)›).elim
  all_goals exact eq_mk (Keep.refl _) ⟨HX.out, (by simp only [Slots, Fits, and_self])⟩
set_option maxRecDepth 100000 in
set_option maxHeartbeats 4000000 in
theorem tv_35c {V : World} {b4 b9 a18 a27 b30 : Nat} {most sS sC ew : Int} {w16 w17 s23 w211 : Value} {r z : Nat} (hr : r < 256) (hz : z < 256) (he : ones 8 z = ones 8 r) (t : Array Value) (hSl : Slots (none :: some (.int .i64 most) :: none :: none :: some (.pointer (some ⟨b4, 0, none⟩)) :: o4 (some (.pointer (some ⟨b9, 0, none⟩)) :: none :: none :: o4 (some (w16) :: some (w17) :: some (.pointer (some ⟨a18, 0, none⟩)) :: some (.int .i64 0) :: some (.int .i64 sS) :: some (.int .i64 sC) :: some (.int .i64 0) :: some (s23) :: some (.int .i64 0) :: some (.int .i64 ((r : Nat) : Int)) :: some (.int .i64 ew) :: some (.pointer (some ⟨a27, 0, none⟩)) :: some (.int .i64 0) :: some (.int .i64 2) :: some (.pointer (some ⟨b30, 0, none⟩)) :: none :: none :: none :: o4 (some (.int .i64 ((z : Nat) : Int)) :: o4 (o4 (o4 (o16 (o16 (o64 (o64 (some (w211) :: some (.int .i64 3) :: some (.int .i64 2) :: o4 (o4 (o16 (o16 (o64 (o64 [])))))))))))))))) t) :
    Exec Try.prog none (sub (Try.f11.body.getD .skip) [1, 1, 1, 1, 1, 1, 1, 1, 1, 1, 1, 1, 1, 1, 0, 1, 0, 0, 1, 1, 0, 0, 1, 1, 1, 1, 1, 1, 1, 1, 1, 0, 0]) t V (andThen (fun t' W' => Below V.heap.size V W' ∧ Slots (none :: some (.int .i64 most) :: none :: none :: some (.pointer (some ⟨b4, 0, none⟩)) :: o4 (some (.pointer (some ⟨b9, 0, none⟩)) :: none :: none :: o4 (some (w16) :: some (w17) :: some (.pointer (some ⟨a18, 0, none⟩)) :: some (.int .i64 0) :: some (.int .i64 sS) :: some (.int .i64 sC) :: some (.int .i64 0) :: some (s23) :: some (.int .i64 0) :: some (.int .i64 ((r : Nat) : Int)) :: some (.int .i64 ew) :: some (.pointer (some ⟨a27, 0, none⟩)) :: some (.int .i64 0) :: some (.int .i64 2) :: some (.pointer (some ⟨b30, 0, none⟩)) :: o4 (o16 (o16 (o16 (o64 (o64 (some (w211) :: some (.int .i64 3) :: some (.int .i64 2) :: none :: o4 (o16 (o16 (o16 (o64 (some (.bool false) :: none :: none :: o16 (o16 (o16 [])))))))))))))))) t') fun _ _ _ => False) := by
  obtain ⟨x, hx⟩ := Slots.open_ hSl; simp only [fill, Nat.reduceAdd] at hx; subst hx; clear hSl
  have f1 : ¬ (r : Int) < 0 := by omega
  have f2 : ¬ (z : Int) < 0 := by omega
  have f3 : ((ones 8 z : Nat) : Int) = ((ones 8 r : Nat) : Int) := by omega
  refine exec_region_o fun ds => ?_
  show (Code.region _ _ _).wpIn _ _ _ _ _ _
  gi_wp2_with fail
  refine ⟨trivial, rfl, (callsIn_wide.2 (size_c z hz V)).mono ?_⟩
  rintro e X ⟨rfl, hx⟩
  have hK := Keep.of_below hx
  have HX := Lib.hid hx
  clear hx
  gi_wp2_with fail
  refine ⟨trivial, rfl, (callsIn_wide.2 (size_c r hr X)).mono ?_⟩
  rintro e Y ⟨rfl, hx⟩
  replace hK := hK.trans (Keep.of_below hx)
  have HY := Lib.hid (HX.out.trans (hx.mono HX.out.size))
  clear hx
  gi_wp2
  all_goals (refine eq_mk hK ⟨HY.out, ?_⟩; simp only [Slots, Fits, and_self]; try simp; try omega)
end Go.Proofs.Ytafmgmaelnpehaa
end

section
set_option linter.unusedVariables false
set_option linter.unusedSimpArgs false
namespace Go.Proofs.Ytafmgmaelnpehaa
open Go.RowKit Go.TL Go.Shelf Go.Fu
attribute [local go_sem] Oper.semAt_some
open PFurrowAsks Go.Proofs.YtafmgmaelnpehaaW.PrintWords
set_option maxRecDepth 100000 in
set_option maxHeartbeats 4000000 in
theorem tv_45 {V : World} {b4 b9 a18 a27 b30 : Nat} {most sS sC wr ew : Int} {w16 w17 s23 w211 : Value} {a43 a46 : Nat} {ii er nn jj p q : Int} (b43 : Box2 V a43 28 p q) (b46 : Box2 V a46 28 p q) (t : Array Value) (hSl : Slots (none :: some (.int .i64 most) :: none :: none :: some (.pointer (some ⟨b4, 0, none⟩)) :: o4 (some (.pointer (some ⟨b9, 0, none⟩)) :: none :: none :: o4 (some (w16) :: some (w17) :: some (.pointer (some ⟨a18, 0, none⟩)) :: some (.int .i64 0) :: some (.int .i64 sS) :: some (.int .i64 sC) :: some (.int .i64 0) :: some (s23) :: some (.int .i64 0) :: some (.int .i64 wr) :: some (.int .i64 ew) :: some (.pointer (some ⟨a27, 0, none⟩)) :: some (.int .i64 0) :: some (.int .i64 ii) :: some (.pointer (some ⟨b30, 0, none⟩)) :: o4 (o4 (o4 (some (.pointer (some ⟨a43, 0, none⟩)) :: some (.int .i64 er) :: none :: some (.pointer (some ⟨a46, 0, none⟩)) :: some (.int .i64 er) :: none :: none :: none :: o16 (o16 (o64 (o64 (some (w211) :: some (.int .i64 3) :: some (.int .i64 ii) :: none :: none :: o4 (o16 (o16 (o16 (o64 (some (.int .i64 nn) :: some (.int .i64 jj) :: o16 (o16 (o16 []))))))))))))))))) t) :
    Exec Try.prog none (sub (Try.f11.body.getD .skip) [1, 1, 1, 1, 1, 1, 1, 1, 1, 1, 1, 1, 1, 1, 0, 1, 0, 0, 1, 1, 0, 0, 1, 1, 1, 1, 1, 1, 1, 1, 1, 1, 1, 0, 0, 1, 1, 0, 0, 1, 1, 1, 1, 1, 0]) t V (andThen (fun t' W' => Below V.heap.size V W' ∧ Slots (none :: some (.int .i64 most) :: none :: none :: some (.pointer (some ⟨b4, 0, none⟩)) :: o4 (some (.pointer (some ⟨b9, 0, none⟩)) :: none :: none :: o4 (some (w16) :: some (w17) :: some (.pointer (some ⟨a18, 0, none⟩)) :: some (.int .i64 0) :: some (.int .i64 sS) :: some (.int .i64 sC) :: some (.int .i64 0) :: some (s23) :: some (.int .i64 0) :: some (.int .i64 wr) :: some (.int .i64 ew) :: some (.pointer (some ⟨a27, 0, none⟩)) :: some (.int .i64 0) :: some (.int .i64 ii) :: some (.pointer (some ⟨b30, 0, none⟩)) :: o4 (o16 (o16 (o16 (o64 (o64 (some (w211) :: some (.int .i64 3) :: some (.int .i64 ii) :: none :: none :: o4 (o16 (o16 (o16 (o64 (some (.int .i64 nn) :: some (.int .i64 jj) :: o4 (o4 (o4 (o16 (some (.bool false) :: none :: none :: none :: o16 [])))))))))))))))))) t') fun _ _ _ => False) := by
  obtain ⟨x, hx⟩ := Slots.open_ hSl; simp only [fill, Nat.reduceAdd] at hx; subst hx; clear hSl
  have hu28 := Try.underlying28
  have d0 := b43.cell0
  have d1 := b43.cell1
  have e0 := b46.cell0
  have e1 := b46.cell1
  have HX := Lib.hid (Below.refl V.heap.size V)
  refine exec_region_o fun ds => ?_
  show (Code.region _ _ _).wpIn _ _ _ _ _ _
  gi_wp2
  exact eq_mk (Keep.refl _) ⟨HX.out, (by simp only [Slots, Fits, and_self])⟩
end Go.Proofs.Ytafmgmaelnpehaa
end

section
set_option linter.unusedVariables false
set_option linter.unusedSimpArgs false
namespace Go.Proofs.Ytafmgmaelnpehaa
open Go.RowKit Go.TL Go.Shelf Go.Fu
attribute [local go_sem] Oper.semAt_some
open PFurrowAsks Go.Proofs.YtafmgmaelnpehaaW.PrintWords
/-- The station at the other end, in the furrow that is turned. -/
def othS (ii n s : Nat) : Int := if ii = 2 then ((n - 1 - s : Nat) : Int) else (s : Int)
def NmI (F : Fur) (V : World) (b4 b9 a18 a27 b30 ii : Nat) (most sS sC wr ew : Int) (w16 w17 s23 w211 : Value) (j : Nat) (t : Array Value) (W : World) : Prop := ∃ s : Nat, s ≤ F.l0.length ∧ j = F.l0.length - s ∧ Below V.heap.size V W ∧ Slots (none :: some (.int .i64 most) :: none :: none :: some (.pointer (some ⟨b4, 0, none⟩)) :: o4 (some (.pointer (some ⟨b9, 0, none⟩)) :: none :: none :: o4 (some (w16) :: some (w17) :: some (.pointer (some ⟨a18, 0, none⟩)) :: some (.int .i64 0) :: some (.int .i64 sS) :: some (.int .i64 sC) :: some (.int .i64 0) :: some (s23) :: some (.int .i64 0) :: some (.int .i64 wr) :: some (.int .i64 ew) :: some (.pointer (some ⟨a27, 0, none⟩)) :: some (.int .i64 0) :: some (.int .i64 ((ii : Nat) : Int)) :: some (.pointer (some ⟨b30, 0, none⟩)) :: o4 (o16 (o16 (o16 (o64 (o64 (some (w211) :: some (.int .i64 3) :: some (.int .i64 ((ii : Nat) : Int)) :: none :: none :: o4 (o16 (o16 (o16 (o64 (some (.int .i64 ((F.l0.length : Nat) : Int)) :: some (.int .i64 ((s : Nat) : Int)) :: o16 (o16 (o16 [])))))))))))))))) t
def NmM (F : Fur) (V : World) (b4 b9 a18 a27 b30 ii : Nat) (most sS sC wr ew : Int) (w16 w17 s23 w211 : Value) (s : Nat) (t : Array Value) (W : World) : Prop := Below V.heap.size V W ∧ Slots (none :: some (.int .i64 most) :: none :: none :: some (.pointer (some ⟨b4, 0, none⟩)) :: o4 (some (.pointer (some ⟨b9, 0, none⟩)) :: none :: none :: o4 (some (w16) :: some (w17) :: some (.pointer (some ⟨a18, 0, none⟩)) :: some (.int .i64 0) :: some (.int .i64 sS) :: some (.int .i64 sC) :: some (.int .i64 0) :: some (s23) :: some (.int .i64 0) :: some (.int .i64 wr) :: some (.int .i64 ew) :: some (.pointer (some ⟨a27, 0, none⟩)) :: some (.int .i64 0) :: some (.int .i64 ((ii : Nat) : Int)) :: some (.pointer (some ⟨b30, 0, none⟩)) :: o4 (o16 (o16 (o16 (o64 (o64 (some (w211) :: some (.int .i64 3) :: some (.int .i64 ((ii : Nat) : Int)) :: none :: none :: o4 (o16 (o16 (o16 (o64 (some (.int .i64 ((F.l0.length : Nat) : Int)) :: some (.int .i64 ((s : Nat) : Int)) :: o16 (o16 (o16 [])))))))))))))))) t
set_option maxRecDepth 100000 in
set_option maxHeartbeats 4000000 in
theorem nm_loop {F Q : Fur} {V : World} {b4 b9 a18 a27 b30 ii : Nat} {most sS sC wr ew : Int} {w16 w17 s23 w211 : Value} (hF : F.At V) (hQ : Q.At V) (b1 : Box3 V b4 24 F.s0 F.s1 F.s2) (b3 : Box3 V b30 24 Q.s0 Q.s1 Q.s2) (h9 : Boxed V b9 3 (.int .i64 ((F.l0.length : Nat) : Int))) (h8 : F.l0.length ≤ 8) (hq8 : Q.l0.length ≤ 8)
    (hEq : ∀ s, s < F.l0.length → atV Q.va Q.pl (othS ii F.l0.length s) = atV F.va F.pl (s : Int)) (t : Array Value) (hSl : Slots (none :: some (.int .i64 most) :: none :: none :: some (.pointer (some ⟨b4, 0, none⟩)) :: o4 (some (.pointer (some ⟨b9, 0, none⟩)) :: none :: none :: o4 (some (w16) :: some (w17) :: some (.pointer (some ⟨a18, 0, none⟩)) :: some (.int .i64 0) :: some (.int .i64 sS) :: some (.int .i64 sC) :: some (.int .i64 0) :: some (s23) :: some (.int .i64 0) :: some (.int .i64 wr) :: some (.int .i64 ew) :: some (.pointer (some ⟨a27, 0, none⟩)) :: some (.int .i64 0) :: some (.int .i64 ((ii : Nat) : Int)) :: some (.pointer (some ⟨b30, 0, none⟩)) :: o4 (o16 (o16 (o16 (o64 (o64 (some (w211) :: some (.int .i64 3) :: some (.int .i64 ((ii : Nat) : Int)) :: none :: none :: o4 (o16 (o16 (o16 (o64 (some (.int .i64 ((F.l0.length : Nat) : Int)) :: some (.int .i64 0) :: o16 (o16 (o16 [])))))))))))))))) t) :
    Exec Try.prog none (sub (Try.f11.body.getD .skip) [1, 1, 1, 1, 1, 1, 1, 1, 1, 1, 1, 1, 1, 1, 0, 1, 0, 0, 1, 1, 0, 0, 1, 1, 1, 1, 1, 1, 1, 1, 1, 1, 1]) t V (andThen (fun t' W' => Below V.heap.size V W' ∧ Slots (none :: some (.int .i64 most) :: none :: none :: some (.pointer (some ⟨b4, 0, none⟩)) :: o4 (some (.pointer (some ⟨b9, 0, none⟩)) :: none :: none :: o4 (some (w16) :: some (w17) :: some (.pointer (some ⟨a18, 0, none⟩)) :: some (.int .i64 0) :: some (.int .i64 sS) :: some (.int .i64 sC) :: some (.int .i64 0) :: some (s23) :: some (.int .i64 0) :: some (.int .i64 wr) :: some (.int .i64 ew) :: some (.pointer (some ⟨a27, 0, none⟩)) :: some (.int .i64 0) :: some (.int .i64 ((ii : Nat) : Int)) :: some (.pointer (some ⟨b30, 0, none⟩)) :: o4 (o16 (o16 (o16 (o64 (o64 (some (w211) :: some (.int .i64 3) :: some (.int .i64 ((ii : Nat) : Int)) :: o4 (o4 (o16 (o16 (o64 (o64 [])))))))))))))) t') fun _ _ _ => False) := by
  refine exec_block ?_
  refine exec_loop (NmI F V b4 b9 a18 a27 b30 ii most sS sC wr ew w16 w17 s23 w211) F.l0.length ⟨0, by omega, by omega, Below.refl _ _, by simpa using hSl⟩ ?_
  clear hSl t
  rintro j t W ⟨s, hs, hj, hB, hSl⟩
  obtain ⟨x, hx⟩ := Slots.open_ hSl; simp only [fill, Nat.reduceAdd] at hx; subst hx; clear hSl
  refine exec_seq (exec_region_o fun ds => ?_)
  gi_wp2
  refine eq_mk (Keep.refl _) ?_
  show Exec _ _ _ _ _ _
  refine exec_seq (exec_cond (b := decide (s < F.l0.length)) rfl (fun hp => ?_) (fun hp => ?_))
  · have hsl : s < F.l0.length := of_decide_eq_true hp
    refine exec_skip ?_
    show Exec _ _ _ _ _ _
    have he := hEq s hsl
    clear hEq hp
    refine exec_cut (NmM F V b4 b9 a18 a27 b30 ii most sS sC wr ew w16 w17 s23 w211 s) ?_ ?_
    · refine exec_block (exec_seq (exec_region_o fun ds => ?_))
      gi_wp2
      refine eq_mk (Keep.refl _) ?_
      show Exec _ _ _ _ _ _
      have c0 := (box3_below hB b1).cell0
      have c1 := (box3_below hB b1).cell1
      have c2 := (box3_below hB b1).cell2
      refine exec_seq (exec_region_o fun ds => ?_)
      gi_wp2_with fail
      refine ⟨trivial, rfl, (callsIn_wide.2 (At_c F (s : Int) W (hF.below hB) (by omega))).mono ?_⟩
      rintro e X ⟨rfl, hx⟩
      have hK := Keep.of_below hx
      replace hB := hB.trans (hx.mono hB.size)
      clear hx c0 c1 c2
      obtain ⟨av, hav⟩ : ∃ a, atV F.va F.pl (s : Int) = a := ⟨_, rfl⟩
      rw [hav] at he ⊢
      obtain ⟨⟨p, q⟩, er⟩ := av
      simp only
      have HE := Lib.hid he
      clear he hav
      gi_wp2
      refine eq_mk (hK.alloc _) ?_
      show Exec _ _ _ _ _ _
      have q43 := Box2.new X 28 p q
      replace hB := hB.alloc hB.size (.cells #[.int .i64 p, .int .i64 q] 28)
      generalize X.alloc (.cells #[.int .i64 p, .int .i64 q] 28) = Z at *
      generalize X.heap.size = a43 at *
      clear hK
      clear X W
      refine exec_seq (exec_region_o fun ds => ?_)
      gi_wp2
      refine eq_mk (Keep.refl _) ?_
      show Exec _ _ _ _ _ _
      refine exec_cut (fun t' W' => W' = Z ∧ Slots (none :: some (.int .i64 most) :: none :: none :: some (.pointer (some ⟨b4, 0, none⟩)) :: o4 (some (.pointer (some ⟨b9, 0, none⟩)) :: none :: none :: o4 (some (w16) :: some (w17) :: some (.pointer (some ⟨a18, 0, none⟩)) :: some (.int .i64 0) :: some (.int .i64 sS) :: some (.int .i64 sC) :: some (.int .i64 0) :: some (s23) :: some (.int .i64 0) :: some (.int .i64 wr) :: some (.int .i64 ew) :: some (.pointer (some ⟨a27, 0, none⟩)) :: some (.int .i64 0) :: some (.int .i64 ((ii : Nat) : Int)) :: some (.pointer (some ⟨b30, 0, none⟩)) :: o4 (o4 (o4 (some (.pointer (some ⟨a43, 0, none⟩)) :: some (.int .i64 er) :: some (.int .i64 (othS ii F.l0.length s)) :: none :: o4 (o16 (o16 (o64 (o64 (some (w211) :: some (.int .i64 3) :: some (.int .i64 ((ii : Nat) : Int)) :: none :: none :: o4 (o16 (o16 (o16 (o64 (some (.int .i64 ((F.l0.length : Nat) : Int)) :: some (.int .i64 ((s : Nat) : Int)) :: o16 (o16 (o16 [])))))))))))))))))) t') ?_ ?_
      · refine exec_seq (exec_region_o fun ds => ?_)
        gi_wp2
        refine eq_mk (Keep.refl _) ?_
        show Exec _ _ _ _ _ _
        refine exec_cond (b := decide (ii = 2)) (by first | rfl | (show Value.bool _ = _; congr 1; apply decide_eq_decide.2; omega) | (show Value.bool _ = _; congr 1; rw [Bool.eq_iff_iff]; simp; omega)) (fun h2 => ?_) (fun h2 => exec_skip ?_)
        · have ho : othS ii F.l0.length s = ((F.l0.length - 1 - s : Nat) : Int) := by unfold othS; rw [if_pos (of_decide_eq_true h2)]
          rw [ho]
          have c9 := Boxed.cell (show Boxed Z b9 3 (.int .i64 ((F.l0.length : Nat) : Int)) from (hB.block _ h9.lt).trans h9)
          have w1 : IntKind.i64.wrap ((F.l0.length : Int) - 1) = (F.l0.length : Int) - 1 := IntWalk.i64_in _ (by omega)
          have w2 : IntKind.i64.wrap ((F.l0.length : Int) - 1 - (s : Int)) = ((F.l0.length - 1 - s : Nat) : Int) := by rw [IntWalk.i64_in _ (by omega)]; omega
          refine exec_region_o fun ds => ?_
          gi_wp2
          exact eq_mk (Keep.refl _) ⟨rfl, (by simp only [Slots, Fits, and_self])⟩
        · have ho : othS ii F.l0.length s = (s : Int) := by unfold othS; rw [if_neg (of_decide_eq_false h2)]
          rw [ho]
          exact ⟨rfl, (by simp only [Slots, Fits, and_self])⟩
      rintro t' W' ⟨rfl, hSl⟩
      clear x
      obtain ⟨x, hx⟩ := Slots.open_ hSl; simp only [fill, Nat.reduceAdd] at hx; subst hx; clear hSl
      obtain ⟨ot, hot⟩ : ∃ o, (othS ii F.l0.length s) = o := ⟨_, rfl⟩
      rw [hot]
      have he := HE.out
      rw [hot] at he
      clear HE hot
      have c0 := (box3_below hB b3).cell0
      have c1 := (box3_below hB b3).cell1
      have c2 := (box3_below hB b3).cell2
      have hat := At_c Q ot _ (hQ.below hB) (by omega)
      rw [he] at hat
      simp only at hat
      refine exec_seq (exec_region_o fun ds => ?_)
      gi_wp2_with fail
      refine ⟨trivial, rfl, (callsIn_wide.2 hat).mono ?_⟩
      rintro e Y ⟨rfl, hy⟩
      have hK := Keep.of_below hy
      replace hB := hB.trans (hy.mono hB.size)
      replace q43 := box2_below hy q43
      clear hy c0 c1 c2 hat he
      gi_wp2
      refine eq_mk (hK.alloc _) ?_
      show Exec _ _ _ _ _ _
      have q46 := Box2.new Y 28 p q
      replace q43 := box2_below ((Below.refl _ Y).alloc (Nat.le_refl _) (.cells #[.int .i64 p, .int .i64 q] 28)) q43
      replace hB := hB.alloc hB.size (.cells #[.int .i64 p, .int .i64 q] 28)
      generalize Y.alloc (.cells #[.int .i64 p, .int .i64 q] 28) = U at *
      generalize Y.heap.size = a46 at *
      clear hK
      refine exec_cut (fun t' W' => Below U.heap.size U W' ∧ Slots (none :: some (.int .i64 most) :: none :: none :: some (.pointer (some ⟨b4, 0, none⟩)) :: o4 (some (.pointer (some ⟨b9, 0, none⟩)) :: none :: none :: o4 (some (w16) :: some (w17) :: some (.pointer (some ⟨a18, 0, none⟩)) :: some (.int .i64 0) :: some (.int .i64 sS) :: some (.int .i64 sC) :: some (.int .i64 0) :: some (s23) :: some (.int .i64 0) :: some (.int .i64 wr) :: some (.int .i64 ew) :: some (.pointer (some ⟨a27, 0, none⟩)) :: some (.int .i64 0) :: some (.int .i64 ((ii : Nat) : Int)) :: some (.pointer (some ⟨b30, 0, none⟩)) :: o4 (o16 (o16 (o16 (o64 (o64 (some (w211) :: some (.int .i64 3) :: some (.int .i64 ((ii : Nat) : Int)) :: none :: none :: o4 (o16 (o16 (o16 (o64 (some (.int .i64 ((F.l0.length : Nat) : Int)) :: some (.int .i64 ((s : Nat) : Int)) :: o4 (o4 (o4 (o16 (some (.bool false) :: none :: none :: none :: o16 [])))))))))))))))))) t') ?_ ?_
      · refine (tv_45 (b4 := b4) (b9 := b9) (a18 := a18) (a27 := a27) (b30 := b30) (most := most) (sS := sS) (sC := sC) (wr := wr) (ew := ew) (w16 := w16) (w17 := w17) (s23 := s23) (w211 := w211) (ii := ((ii : Nat) : Int)) (er := er) (nn := ((F.l0.length : Nat) : Int)) (jj := ((s : Nat) : Int)) q43 q46 _ (by simp only [Slots, Fits, and_self])).mono ?_
        intro e t' V h
        obtain ⟨rfl, h⟩ := only_normal h
        exact h
      rintro t' W'' ⟨hz, hSl⟩
      clear x q43 q46
      obtain ⟨x, hx⟩ := Slots.open_ hSl; simp only [fill, Nat.reduceAdd] at hx; subst hx; clear hSl
      refine exec_cond (b := false) rfl (fun h => by cases h) (fun _ => exec_skip ?_)
      exact ⟨hB.trans (hz.mono hB.size), (by simp only [Slots, Fits, and_self])⟩
    · clear hB he
      rintro t' W' ⟨hB, hSl⟩
      clear x
      obtain ⟨x, hx⟩ := Slots.open_ hSl; simp only [fill, Nat.reduceAdd] at hx; subst hx; clear hSl
      have hw : IntKind.i64.wrap ((s : Int) + 1) = ((s + 1 : Nat) : Int) := by rw [IntWalk.i64_in _ (by omega)]; norm_cast
      refine exec_region_o fun ds => ?_
      gi_wp2
      exact eq_mk (Keep.refl _) ⟨j - 1, by omega, s + 1, by omega, by omega, hB, by simp only [Slots, Fits, and_self]; simp⟩
  · refine exec_exit ?_
    show _ ∧ _
    exact ⟨hB, (by simp only [Slots, Fits, and_self])⟩
end Go.Proofs.Ytafmgmaelnpehaa
end

section
set_option linter.unusedVariables false
set_option linter.unusedSimpArgs false
namespace Go.Proofs.Ytafmgmaelnpehaa
open Go.RowKit Go.TL Go.Shelf Go.Fu
attribute [local go_sem] Oper.semAt_some
open PFurrowAsks Go.Proofs.YtafmgmaelnpehaaW.PrintWords
def u10_0t : It := ⟨(Op.fieldAddr 24 (Operand.tmp 10) 0), some 82, 0, true, none⟩
def u10_1t : It := ⟨(Op.load 22 (Operand.tmp 82)), some 83, 22, true, none⟩
def u10_2t : It := ⟨(Op.fieldAddr 28 (Operand.tmp 14) 0), some 84, 0, true, none⟩
def u10_3t : It := ⟨(Op.load 3 (Operand.tmp 84)), some 85, 3, true, none⟩
def u10_4t : It := ⟨(Op.move (Operand.tmp 15)), some 86, 3, true, none⟩
def u10_5t : It := ⟨(Op.binOp BinOp.add 3 (Operand.tmp 85) (Operand.tmp 86) 3), some 87, 3, true, none⟩
def u10_6t : It := ⟨(Op.fieldAddr 28 (Operand.tmp 14) 1), some 88, 0, true, none⟩
def u10_7t : It := ⟨(Op.load 3 (Operand.tmp 88)), some 89, 3, true, none⟩
def u10_8t : It := ⟨(Op.move (Operand.tmp 15)), some 90, 3, true, none⟩
def u10_9t : It := ⟨(Op.binOp BinOp.add 3 (Operand.tmp 89) (Operand.tmp 90) 3), some 91, 3, true, none⟩
def u10_13t : It := ⟨(Op.fieldAddr 24 (Operand.tmp 11) 0), some 95, 0, true, none⟩
def u10_14t : It := ⟨(Op.load 22 (Operand.tmp 95)), some 96, 22, true, none⟩
def u10_15t : It := ⟨(Op.fieldAddr 28 (Operand.tmp 14) 1), some 97, 0, true, none⟩
def u10_16t : It := ⟨(Op.load 3 (Operand.tmp 97)), some 98, 3, true, none⟩
def u10_17t : It := ⟨(Op.unOp UnOp.neg 3 (Operand.tmp 98)), some 99, 3, true, none⟩
def u10_18t : It := ⟨(Op.fieldAddr 28 (Operand.tmp 14) 0), some 100, 0, true, none⟩
def u10_19t : It := ⟨(Op.load 3 (Operand.tmp 100)), some 101, 3, true, none⟩
def u10_20t : It := ⟨(Op.unOp UnOp.neg 3 (Operand.tmp 101)), some 102, 3, true, none⟩
def u10_10 : It := ⟨(Op.call { callee := (Callee.value (Operand.func 31)), args := #[(Operand.tmp 87), (Operand.tmp 91)], argTypes := #[3, 3] }), some 92, 28, false, none⟩
def u10_11 : It := ⟨(Op.buildSlice 22 1 #[(0, (Operand.tmp 92))]), some 93, 22, false, none⟩
def u10_12 : It := ⟨(Op.call { callee := (Callee.builtin Builtin.append), args := #[(Operand.tmp 83), (Operand.tmp 93)], argTypes := #[22, 22] }), some 94, 22, false, none⟩
def u10_24t : It := ⟨(Op.fieldAddr 24 (Operand.tmp 10) 0), some 106, 0, true, none⟩
def u10_21 : It := ⟨(Op.call { callee := (Callee.value (Operand.func 31)), args := #[(Operand.tmp 99), (Operand.tmp 102)], argTypes := #[3, 3] }), some 103, 28, false, none⟩
def u10_22 : It := ⟨(Op.buildSlice 22 1 #[(0, (Operand.tmp 103))]), some 104, 22, false, none⟩
def u10_23 : It := ⟨(Op.call { callee := (Callee.builtin Builtin.append), args := #[(Operand.tmp 96), (Operand.tmp 104)], argTypes := #[22, 22] }), some 105, 22, false, none⟩
def u10_25 : It := ⟨(Op.store 22 (Operand.tmp 106) (Operand.tmp 94)), none, 0, false, none⟩
def u10_26 : It := ⟨(Op.fieldAddr 24 (Operand.tmp 11) 0), some 107, 0, false, none⟩
def u10_27 : It := ⟨(Op.store 22 (Operand.tmp 107) (Operand.tmp 105)), none, 0, false, none⟩
set_option maxRecDepth 100000 in
set_option maxHeartbeats 4000000 in
theorem tu_10 {F : Fur} {w W : World} {b4 b9 b10 b11 b12 b14 B k : Nat} {v : Nat → Value} {l : Nat → List S28} {most by_ st_ fr lo hi : Int} {w66 : Value} (hC : TuC w b4 b9 b10 b11 b12 B) (hT : TuS F w b4 b9 b10 b11 b12 B (v 0) (v 1) (v 2) (v 3) (v 4) (v) (l) W) (hB : TuB v b14 lo hi W) (h0 : (l 0).length ≤ 50) (h1 : (l 1).length ≤ 50) (hb : -100 ≤ lo ∧ lo ≤ 100 ∧ -100 ≤ hi ∧ hi ≤ 100) (hf : -100 ≤ fr ∧ fr ≤ 100) (t : Array Value) (hSl : Slots (none :: some (.int .i64 most) :: some (.int .i8 by_) :: some (.int .i8 st_) :: some (.pointer (some ⟨b4, 0, none⟩)) :: o4 (some (.pointer (some ⟨b9, 0, none⟩)) :: some (.pointer (some ⟨b10, 0, none⟩)) :: some (.pointer (some ⟨b11, 0, none⟩)) :: some (.pointer (some ⟨b12, 0, none⟩)) :: some (.int .i64 ((k : Nat) : Int)) :: some (.pointer (some ⟨b14, 0, none⟩)) :: some (.int .i64 fr) :: none :: none :: o16 (o16 (o16 (some (w66) :: some (.int .i64 ((F.l0.length : Nat) : Int)) :: some (.int .i64 ((k : Nat) : Int)) :: none :: o4 (o4 (o16 (o16 (o16 (o64 (o64 (o64 (o64 []))))))))))))) t) :
    Exec Try.prog none (sub (Try.f11.body.getD .skip) [1, 1, 1, 1, 1, 0, 1, 0, 0, 1, 1, 0, 0, 1, 1, 0]) t W (andThen (fun t' W' => ∃ u0 u1 : Value, TuS F w b4 b9 b10 b11 b12 B u0 u1 (v 2) (v 3) (v 4) (upd (upd v 0 u0) 1 u1) (upd (upd l 0 (l 0 ++ [⟨lo + fr, hi + fr⟩])) 1 (upd l 0 (l 0 ++ [⟨lo + fr, hi + fr⟩]) 1 ++ [⟨-hi, -lo⟩])) W' ∧ Slots (none :: some (.int .i64 most) :: some (.int .i8 by_) :: some (.int .i8 st_) :: some (.pointer (some ⟨b4, 0, none⟩)) :: o4 (some (.pointer (some ⟨b9, 0, none⟩)) :: some (.pointer (some ⟨b10, 0, none⟩)) :: some (.pointer (some ⟨b11, 0, none⟩)) :: some (.pointer (some ⟨b12, 0, none⟩)) :: some (.int .i64 ((k : Nat) : Int)) :: some (.pointer (some ⟨b14, 0, none⟩)) :: some (.int .i64 fr) :: none :: none :: o16 (o16 (o16 (some (w66) :: some (.int .i64 ((F.l0.length : Nat) : Int)) :: some (.int .i64 ((k : Nat) : Int)) :: none :: o4 (o4 (o16 (o16 (o16 (o64 (o64 (o64 (o64 []))))))))))))) t') fun _ _ _ => False) := by
  obtain ⟨x, hx⟩ := Slots.open_ hSl; simp only [fill, Nat.reduceAdd] at hx; subst hx; clear hSl
  have hu22 := Try.underlying22
  have hu28 := Try.underlying28
  have q0 : ∀ W', (Box3 W' b10 24 (v 0) F.s1 F.s2 ∧ Box3 W' b11 24 (v 1) F.s1 F.s2) ∧ Box2 W' b14 28 lo hi → W'.cell? ⟨b10, 0, none⟩ = some (v 0) := fun W' h => h.1.1.cell0
  have q1 : ∀ W', (Box3 W' b10 24 (v 0) F.s1 F.s2 ∧ Box3 W' b11 24 (v 1) F.s1 F.s2) ∧ Box2 W' b14 28 lo hi → W'.cell? ⟨b11, 0, none⟩ = some (v 1) := fun W' h => h.1.2.cell0
  have qL : ∀ W', (Box3 W' b10 24 (v 0) F.s1 F.s2 ∧ Box3 W' b11 24 (v 1) F.s1 F.s2) ∧ Box2 W' b14 28 lo hi → W'.cell? ⟨b14, 0, none⟩ = some (.int .i64 lo) := fun W' h => h.2.cell0
  have qH : ∀ W', (Box3 W' b10 24 (v 0) F.s1 F.s2 ∧ Box3 W' b11 24 (v 1) F.s1 F.s2) ∧ Box2 W' b14 28 lo hi → W'.cell? ⟨b14, 1, none⟩ = some (.int .i64 hi) := fun W' h => h.2.cell1
  have w1 : IntKind.i64.wrap (lo + fr) = lo + fr := IntWalk.i64_in _ (by omega)
  have w2 : IntKind.i64.wrap (hi + fr) = hi + fr := IntWalk.i64_in _ (by omega)
  have w3 : IntKind.i64.wrap (-hi) = -hi := IntWalk.i64_in _ (by omega)
  have w4 : IntKind.i64.wrap (-lo) = -lo := IntWalk.i64_in _ (by omega)
  replace hB : TuB v b14 lo hi W.drew := ⟨hB.box, hB.far⟩
  have hKW : Keep W W.drew := (Keep.refl W).drew
  replace hT := hT.drew
  refine region_tree2 (c := (sub (Try.f11.body.getD .skip) [1, 1, 1, 1, 1, 0, 1, 0, 0, 1, 1, 0, 0, 1, 1, 0])) (id := 10) 25 3 (.one 0 true (.one 1 true (.one 2 true (.one 3 true (.one 4 true (.one 5 true (.one 6 true (.one 7 true (.one 8 true (.one 9 true (.one 13 true (.one 14 true (.one 15 true (.one 16 true (.one 17 true (.one 18 true (.one 19 true (.one 20 true (.one 10 false (.one 11 false (.one 12 false (.one 24 true (.one 21 false (.one 22 false (.one 23 false (.nil)))))))))))))))))))))))))) (.one 25 false (.one 26 false (.one 27 false (.nil)))) (Opq ((regOps (sub (Try.f11.body.getD .skip) [1, 1, 1, 1, 1, 0, 1, 0, 0, 1, 1, 0, 0, 1, 1, 0])).toList.take 25).toArray) (Opq (regOps (sub (Try.f11.body.getD .skip) [1, 1, 1, 1, 1, 0, 1, 0, 0, 1, 1, 0, 0, 1, 1, 0]))) rfl rfl rfl (by kernel_rfl) (by kernel_rfl) (by kernel_rfl) (by kernel_rfl) (by kernel_rfl) (by kernel_rfl) (by kernel_rfl) (by kernel_rfl) (by kernel_rfl) (by kernel_rfl) (by kernel_rfl) [0, 1, 0, 4, 0, 24, 0, 64, 0, 384, 544, 1024, 3074, 0, 8192, 0, 32768, 65536, 0, 262144, 524288, 1183744, 2097152, 6307840, 8191] [0, 1, 0, 4, 0, 24, 0, 64, 0, 384, 544, 1024, 3074, 0, 8192, 0, 32768, 65536, 0, 262144, 524288, 1183744, 2097152, 6307840, 8191, 25174015, 67108863, 134217727] (by kernel_rfl) (by kernel_rfl) (by kernel_rfl) (by kernel_rfl) (fun W' => (Box3 W' b10 24 (v 0) F.s1 F.s2 ∧ Box3 W' b11 24 (v 1) F.s1 F.s2) ∧ Box2 W' b14 28 lo hi) fun ds Q' Qh hQn hQT => ?_
  generalize W.drew = X0 at *
  refine tr_take u10_0t (.pointer (some ⟨b10, 0, none⟩)) (by kernel_rfl) rfl (by first | exact rfl | trivial) (fun wq hq => ?_) (⟨⟨hT.x, hT.y⟩, hB.box⟩) ?_; (focus (simp [go_sem, mkO, u10_0t]; done)); simp only [u10_0t, put_eq, List.set_cons_succ, List.set_cons_zero]
  refine tr_take u10_1t (v 0) (by kernel_rfl) rfl (by first | exact rfl | trivial) (fun wq hq => ?_) (⟨⟨hT.x, hT.y⟩, hB.box⟩) ?_; (focus (simp [go_sem, mkO, u10_1t, q0 wq hq]; done)); simp only [u10_1t, put_eq, List.set_cons_succ, List.set_cons_zero]
  refine tr_take u10_2t (.pointer (some ⟨b14, 0, none⟩)) (by kernel_rfl) rfl (by first | exact rfl | trivial) (fun wq hq => ?_) (⟨⟨hT.x, hT.y⟩, hB.box⟩) ?_; (focus (simp [go_sem, mkO, u10_2t]; done)); simp only [u10_2t, put_eq, List.set_cons_succ, List.set_cons_zero]
  refine tr_take u10_3t (.int .i64 lo) (by kernel_rfl) rfl (by first | exact rfl | trivial) (fun wq hq => ?_) (⟨⟨hT.x, hT.y⟩, hB.box⟩) ?_; (focus (simp [go_sem, mkO, u10_3t, qL wq hq]; done)); simp only [u10_3t, put_eq, List.set_cons_succ, List.set_cons_zero]
  refine tr_take u10_4t (.int .i64 fr) (by kernel_rfl) rfl (by first | exact rfl | trivial) (fun wq hq => ?_) (⟨⟨hT.x, hT.y⟩, hB.box⟩) ?_; (focus (exact rfl)); simp only [u10_4t, put_eq, List.set_cons_succ, List.set_cons_zero]
  refine tr_take u10_5t (.int .i64 (lo + fr)) (by kernel_rfl) rfl (by first | exact rfl | trivial) (fun wq hq => ?_) (⟨⟨hT.x, hT.y⟩, hB.box⟩) ?_; (focus (simp [go_sem, mkO, u10_5t, w1]; done)); simp only [u10_5t, put_eq, List.set_cons_succ, List.set_cons_zero]
  refine tr_take u10_6t (.pointer (some ⟨b14, 1, none⟩)) (by kernel_rfl) rfl (by first | exact rfl | trivial) (fun wq hq => ?_) (⟨⟨hT.x, hT.y⟩, hB.box⟩) ?_; (focus (simp [go_sem, mkO, u10_6t]; done)); simp only [u10_6t, put_eq, List.set_cons_succ, List.set_cons_zero]
  refine tr_take u10_7t (.int .i64 hi) (by kernel_rfl) rfl (by first | exact rfl | trivial) (fun wq hq => ?_) (⟨⟨hT.x, hT.y⟩, hB.box⟩) ?_; (focus (simp [go_sem, mkO, u10_7t, qH wq hq]; done)); simp only [u10_7t, put_eq, List.set_cons_succ, List.set_cons_zero]
  refine tr_take u10_8t (.int .i64 fr) (by kernel_rfl) rfl (by first | exact rfl | trivial) (fun wq hq => ?_) (⟨⟨hT.x, hT.y⟩, hB.box⟩) ?_; (focus (exact rfl)); simp only [u10_8t, put_eq, List.set_cons_succ, List.set_cons_zero]
  refine tr_take u10_9t (.int .i64 (hi + fr)) (by kernel_rfl) rfl (by first | exact rfl | trivial) (fun wq hq => ?_) (⟨⟨hT.x, hT.y⟩, hB.box⟩) ?_; (focus (simp [go_sem, mkO, u10_9t, w2]; done)); simp only [u10_9t, put_eq, List.set_cons_succ, List.set_cons_zero]
  refine tr_take u10_13t (.pointer (some ⟨b11, 0, none⟩)) (by kernel_rfl) rfl (by first | exact rfl | trivial) (fun wq hq => ?_) (⟨⟨hT.x, hT.y⟩, hB.box⟩) ?_; (focus (simp [go_sem, mkO, u10_13t]; done)); simp only [u10_13t, put_eq, List.set_cons_succ, List.set_cons_zero]
  refine tr_take u10_14t (v 1) (by kernel_rfl) rfl (by first | exact rfl | trivial) (fun wq hq => ?_) (⟨⟨hT.x, hT.y⟩, hB.box⟩) ?_; (focus (simp [go_sem, mkO, u10_14t, q1 wq hq]; done)); simp only [u10_14t, put_eq, List.set_cons_succ, List.set_cons_zero]
  refine tr_take u10_15t (.pointer (some ⟨b14, 1, none⟩)) (by kernel_rfl) rfl (by first | exact rfl | trivial) (fun wq hq => ?_) (⟨⟨hT.x, hT.y⟩, hB.box⟩) ?_; (focus (simp [go_sem, mkO, u10_15t]; done)); simp only [u10_15t, put_eq, List.set_cons_succ, List.set_cons_zero]
  refine tr_take u10_16t (.int .i64 hi) (by kernel_rfl) rfl (by first | exact rfl | trivial) (fun wq hq => ?_) (⟨⟨hT.x, hT.y⟩, hB.box⟩) ?_; (focus (simp [go_sem, mkO, u10_16t, qH wq hq]; done)); simp only [u10_16t, put_eq, List.set_cons_succ, List.set_cons_zero]
  refine tr_take u10_17t (.int .i64 (-hi)) (by kernel_rfl) rfl (by first | exact rfl | trivial) (fun wq hq => ?_) (⟨⟨hT.x, hT.y⟩, hB.box⟩) ?_; (focus (simp [go_sem, mkO, u10_17t, w3]; done)); simp only [u10_17t, put_eq, List.set_cons_succ, List.set_cons_zero]
  refine tr_take u10_18t (.pointer (some ⟨b14, 0, none⟩)) (by kernel_rfl) rfl (by first | exact rfl | trivial) (fun wq hq => ?_) (⟨⟨hT.x, hT.y⟩, hB.box⟩) ?_; (focus (simp [go_sem, mkO, u10_18t]; done)); simp only [u10_18t, put_eq, List.set_cons_succ, List.set_cons_zero]
  refine tr_take u10_19t (.int .i64 lo) (by kernel_rfl) rfl (by first | exact rfl | trivial) (fun wq hq => ?_) (⟨⟨hT.x, hT.y⟩, hB.box⟩) ?_; (focus (simp [go_sem, mkO, u10_19t, qL wq hq]; done)); simp only [u10_19t, put_eq, List.set_cons_succ, List.set_cons_zero]
  refine tr_take u10_20t (.int .i64 (-lo)) (by kernel_rfl) rfl (by first | exact rfl | trivial) (fun wq hq => ?_) (⟨⟨hT.x, hT.y⟩, hB.box⟩) ?_; (focus (simp [go_sem, mkO, u10_20t, w4]; done)); simp only [u10_20t, put_eq, List.set_cons_succ, List.set_cons_zero]
  refine tr_call u10_10 (f := 31) (args := #[.int .i64 (lo + fr), .int .i64 (hi + fr)]) (by kernel_rfl) rfl (by first | exact rfl | trivial) (by simp [go_sem, mkO, u10_10]) ?_
  refine (span_c (lo + fr) (hi + fr) _).mono ?_
  rintro e2 X1 ⟨rfl, hz⟩
  replace hT := hT.belowed hz; replace hB := hB.belowed hz; replace hKW := hKW.trans (Keep.of_below hz); clear hz
  refine .inl ⟨_, rfl, ⟨⟨hT.x, hT.y⟩, hB.box⟩, ?_⟩
  simp only [u10_10, put_eq, List.set_cons_succ, List.set_cons_zero]
  obtain ⟨u0, X2, hr, hT2, hK2, hB2⟩ := hT.add hC 0 (by omega) (lo + fr) (hi + fr) (by first | omega | (simp [upd]; omega)) 22
  refine tr_make u10_11 (.slice (some ⟨X1.heap.size, 0, none⟩) 1 1) (X1.alloc (.cells #[.int .i64 (lo + fr), .int .i64 (hi + fr)] 28)) (by kernel_rfl) rfl (by first | exact rfl | trivial) (by simp [go_sem, mkO, u10_11, hu22, hu28]) ⟨⟨(hT.alloc _).x, (hT.alloc _).y⟩, (hB.alloc _).box⟩ ?_; simp only [u10_11, put_eq, List.set_cons_succ, List.set_cons_zero]
  replace hB := hB2 _ _ _ hB; clear hB2
  refine tr_make u10_12 u0 X2 (by kernel_rfl) rfl (by first | exact rfl | trivial) (exec_app u10_12 _ _ _ rfl rfl rfl hr) ⟨⟨hT2.x, hT2.y⟩, hB.box⟩ ?_; simp only [u10_12, put_eq, List.set_cons_succ, List.set_cons_zero]
  clear hT hr; have hT := hT2; clear hT2; replace hKW := hKW.trans hK2; clear hK2
  obtain ⟨A0, c0, e0⟩ := own_slice (hT.own.own 0 (by omega)); replace e0 : u0 = .slice A0 ((l 0).length + 1) c0 := by have a : u0 = _ := e0; rw [a]; simp [upd]
  refine tr_take u10_24t (.pointer (some ⟨b10, 0, none⟩)) (by kernel_rfl) rfl (by first | exact rfl | trivial) (fun wq hq => ?_) (⟨⟨hT.x, hT.y⟩, hB.box⟩) ?_; (focus (simp [go_sem, mkO, u10_24t]; done)); simp only [u10_24t, put_eq, List.set_cons_succ, List.set_cons_zero]
  refine tr_call u10_21 (f := 31) (args := #[.int .i64 (-hi), .int .i64 (-lo)]) (by kernel_rfl) rfl (by first | exact rfl | trivial) (by simp [go_sem, mkO, u10_21]) ?_
  refine (span_c (-hi) (-lo) _).mono ?_
  rintro e2 X3 ⟨rfl, hz⟩
  replace hT := hT.belowed hz; replace hB := hB.belowed hz; replace hKW := hKW.trans (Keep.of_below hz); clear hz
  refine .inl ⟨_, rfl, ⟨⟨hT.x, hT.y⟩, hB.box⟩, ?_⟩
  simp only [u10_21, put_eq, List.set_cons_succ, List.set_cons_zero]
  obtain ⟨u1, X4, hr, hT2, hK2, hB2⟩ := hT.add hC 1 (by omega) (-hi) (-lo) (by first | omega | (simp [upd]; omega)) 22
  refine tr_make u10_22 (.slice (some ⟨X3.heap.size, 0, none⟩) 1 1) (X3.alloc (.cells #[.int .i64 (-hi), .int .i64 (-lo)] 28)) (by kernel_rfl) rfl (by first | exact rfl | trivial) (by simp [go_sem, mkO, u10_22, hu22, hu28]) ⟨⟨(hT.alloc _).x, (hT.alloc _).y⟩, (hB.alloc _).box⟩ ?_; simp only [u10_22, put_eq, List.set_cons_succ, List.set_cons_zero]
  replace hB := hB2 _ _ _ hB; clear hB2
  refine tr_make u10_23 u1 X4 (by kernel_rfl) rfl (by first | exact rfl | trivial) (exec_app u10_23 _ _ _ rfl rfl rfl hr) ⟨⟨hT2.x, hT2.y⟩, hB.box⟩ ?_; simp only [u10_23, put_eq, List.set_cons_succ, List.set_cons_zero]
  clear hT hr; have hT := hT2; clear hT2; replace hKW := hKW.trans hK2; clear hK2
  obtain ⟨A1, c1, e1⟩ := own_slice (hT.own.own 1 (by omega)); replace e1 : u1 = .slice A1 ((l 1).length + 1) c1 := by have a : u1 = _ := e1; rw [a]; simp [upd]
  refine hQT _ _ ?_
  have s0 := hT.x.cell0; have s1 := box3_frozen hT.x 0
  refine tr_store u10_25 (X4.setCell ⟨b10, 0, none⟩ u0) (by kernel_rfl) rfl (by first | exact rfl | trivial) (by simp [go_sem, mkO, u10_25, s0, s1, e0]) trivial ?_; simp only [u10_25, put_none]
  replace hT := hT.setx hC u0; replace hKW := hKW.setCell ⟨b10, 0, none⟩ u0; clear s0 s1
  generalize X4.setCell ⟨b10, 0, none⟩ u0 = X5 at *
  refine tr_make u10_26 (.pointer (some ⟨b11, 0, none⟩)) X5 (by kernel_rfl) rfl (by first | exact rfl | trivial) ?_ (trivial) ?_; (focus (simp [go_sem, mkO, u10_26]; done)); simp only [u10_26, put_eq, List.set_cons_succ, List.set_cons_zero]
  have s0 := hT.y.cell0; have s1 := box3_frozen hT.y 0
  refine tr_store u10_27 (X5.setCell ⟨b11, 0, none⟩ u1) (by kernel_rfl) rfl (by first | exact rfl | trivial) (by simp [go_sem, mkO, u10_27, s0, s1, e1]) trivial ?_; simp only [u10_27, put_none]
  replace hT := hT.sety hC u1; replace hKW := hKW.setCell ⟨b11, 0, none⟩ u1; clear s0 s1
  generalize X5.setCell ⟨b11, 0, none⟩ u1 = X6 at *
  exact hQn _ _ hKW ⟨u0, u1, hT, (by simp only [Slots, Fits, and_self])⟩
end Go.Proofs.Ytafmgmaelnpehaa
end

section
set_option linter.unusedVariables false
set_option linter.unusedSimpArgs false
namespace Go.Proofs.Ytafmgmaelnpehaa
open Go.RowKit Go.TL Go.Shelf Go.Fu
attribute [local go_sem] Oper.semAt_some
open PFurrowAsks Go.Proofs.YtafmgmaelnpehaaW.PrintWords
structure Tw (F : Fur) (w : World) (b4 b9 b10 b11 b12 B : Nat) (x0 y0 z0 z1 z2 : Value) (V : World) (v : Nat → Value) (l : Nat → List S28) (zs : List (Nat × Int × Int)) (X : World) : Prop where
  t : TuS F w b4 b9 b10 b11 b12 B x0 y0 z0 z1 z2 v l X
  k : Keep V X
  z : ∀ e ∈ zs, TuB v e.1 e.2.1 e.2.2 X
section
variable {F : Fur} {w V X : World} {b4 b9 b10 b11 b12 B : Nat} {x0 y0 z0 z1 z2 : Value} {v : Nat → Value} {l : Nat → List S28} {zs : List (Nat × Int × Int)}
theorem Tw.s (h : Tw F w b4 b9 b10 b11 b12 B x0 y0 z0 z1 z2 V v l zs X) : (Box3 X b12 24 z0 z1 z2 ∧ Box3 X b4 24 F.s0 F.s1 F.s2) ∧ Boxed X b9 3 (.int .i64 ((F.l0.length : Nat) : Int)) ∧ Below w.heap.size w X := ⟨⟨h.t.z, h.t.f⟩, h.t.n, h.t.below⟩
theorem Tw.made (h : Tw F w b4 b9 b10 b11 b12 B x0 y0 z0 z1 z2 V v l zs X) (p r : Int) : Tw F w b4 b9 b10 b11 b12 B x0 y0 z0 z1 z2 V v l ((X.heap.size, p, r) :: zs) (X.alloc (.cells #[.int .i64 p, .int .i64 r] 28)) :=
  ⟨h.t.alloc _, h.k.alloc _, fun e he => by
    rcases List.mem_cons.1 he with rfl | he
    · exact TuB.new h.t p r
    · exact (h.z e he).alloc _⟩
theorem Tw.app (h : Tw F w b4 b9 b10 b11 b12 B x0 y0 z0 z1 z2 V v l zs X) (hC : TuC w b4 b9 b10 b11 b12 B) (q : Nat) (hq : q < 5) {z : Nat} {u1 u2 : Int} (hz : (z, u1, u2) ∈ zs) (hn : (l q).length ≤ 100) (ty : TypeId) :
    ∃ v' W', (Builtin.append_ #[22, 22] ty #[v q, .slice (some ⟨z, 0, none⟩) 1 1]).run Try.prog X = .ok v' W' ∧ Tw F w b4 b9 b10 b11 b12 B x0 y0 z0 z1 z2 V (upd v q v') (upd l q (l q ++ [⟨u1, u2⟩])) zs W' := by
  obtain ⟨v', W', hr, ht, hk, hb⟩ := h.t.addz hC q hq (h.z _ hz) hn ty
  exact ⟨v', W', hr, ht, h.k.trans hk, fun e he => hb _ _ _ (h.z e he)⟩
end
def u11_0t : It := ⟨(Op.fieldAddr 24 (Operand.tmp 12) 0), some 108, 0, true, none⟩
def u11_1t : It := ⟨(Op.load 22 (Operand.tmp 108)), some 109, 22, true, none⟩
def u11_2t : It := ⟨(Op.fieldAddr 24 (Operand.tmp 4) 0), some 110, 0, true, none⟩
def u11_3t : It := ⟨(Op.load 22 (Operand.tmp 110)), some 111, 22, true, none⟩
def u11_4t : It := ⟨(Op.load 3 (Operand.tmp 9)), some 112, 3, true, none⟩
def u11_5t : It := ⟨(Op.binOp BinOp.sub 3 (Operand.tmp 112) (Operand.const (Value.int IntKind.i64 1)) 3), some 113, 3, true, none⟩
def u11_6t : It := ⟨(Op.move (Operand.tmp 13)), some 114, 3, true, none⟩
def u11_7t : It := ⟨(Op.binOp BinOp.sub 3 (Operand.tmp 113) (Operand.tmp 114) 3), some 115, 3, true, none⟩
def u11_8t : It := ⟨(Op.indexAddr 22 (Operand.tmp 111) (Operand.tmp 115)), some 116, 0, true, none⟩
def u11_9t : It := ⟨(Op.load 28 (Operand.tmp 116)), some 117, 28, true, none⟩
def u11_12t : It := ⟨(Op.fieldAddr 24 (Operand.tmp 12) 1), some 120, 0, true, none⟩
def u11_13t : It := ⟨(Op.load 22 (Operand.tmp 120)), some 121, 22, true, none⟩
def u11_14t : It := ⟨(Op.fieldAddr 24 (Operand.tmp 4) 1), some 122, 0, true, none⟩
def u11_15t : It := ⟨(Op.load 22 (Operand.tmp 122)), some 123, 22, true, none⟩
def u11_16t : It := ⟨(Op.load 3 (Operand.tmp 9)), some 124, 3, true, none⟩
def u11_17t : It := ⟨(Op.binOp BinOp.sub 3 (Operand.tmp 124) (Operand.const (Value.int IntKind.i64 1)) 3), some 125, 3, true, none⟩
def u11_18t : It := ⟨(Op.move (Operand.tmp 13)), some 126, 3, true, none⟩
def u11_19t : It := ⟨(Op.binOp BinOp.sub 3 (Operand.tmp 125) (Operand.tmp 126) 3), some 127, 3, true, none⟩
def u11_20t : It := ⟨(Op.indexAddr 22 (Operand.tmp 123) (Operand.tmp 127)), some 128, 0, true, none⟩
def u11_21t : It := ⟨(Op.load 28 (Operand.tmp 128)), some 129, 28, true, none⟩
def u11_24t : It := ⟨(Op.fieldAddr 24 (Operand.tmp 12) 2), some 132, 0, true, none⟩
def u11_25t : It := ⟨(Op.load 22 (Operand.tmp 132)), some 133, 22, true, none⟩
def u11_26t : It := ⟨(Op.fieldAddr 24 (Operand.tmp 4) 2), some 134, 0, true, none⟩
def u11_27t : It := ⟨(Op.load 22 (Operand.tmp 134)), some 135, 22, true, none⟩
def u11_28t : It := ⟨(Op.load 3 (Operand.tmp 9)), some 136, 3, true, none⟩
def u11_29t : It := ⟨(Op.binOp BinOp.sub 3 (Operand.tmp 136) (Operand.const (Value.int IntKind.i64 1)) 3), some 137, 3, true, none⟩
def u11_30t : It := ⟨(Op.move (Operand.tmp 13)), some 138, 3, true, none⟩
def u11_31t : It := ⟨(Op.binOp BinOp.sub 3 (Operand.tmp 137) (Operand.tmp 138) 3), some 139, 3, true, none⟩
def u11_32t : It := ⟨(Op.indexAddr 22 (Operand.tmp 135) (Operand.tmp 139)), some 140, 0, true, none⟩
def u11_33t : It := ⟨(Op.load 28 (Operand.tmp 140)), some 141, 28, true, none⟩
def u11_10 : It := ⟨(Op.buildSlice 22 1 #[(0, (Operand.tmp 117))]), some 118, 22, false, none⟩
def u11_11 : It := ⟨(Op.call { callee := (Callee.builtin Builtin.append), args := #[(Operand.tmp 109), (Operand.tmp 118)], argTypes := #[22, 22] }), some 119, 22, false, none⟩
def u11_36t : It := ⟨(Op.fieldAddr 24 (Operand.tmp 12) 0), some 144, 0, true, none⟩
def u11_22 : It := ⟨(Op.buildSlice 22 1 #[(0, (Operand.tmp 129))]), some 130, 22, false, none⟩
def u11_23 : It := ⟨(Op.call { callee := (Callee.builtin Builtin.append), args := #[(Operand.tmp 121), (Operand.tmp 130)], argTypes := #[22, 22] }), some 131, 22, false, none⟩
def u11_34 : It := ⟨(Op.buildSlice 22 1 #[(0, (Operand.tmp 141))]), some 142, 22, false, none⟩
def u11_35 : It := ⟨(Op.call { callee := (Callee.builtin Builtin.append), args := #[(Operand.tmp 133), (Operand.tmp 142)], argTypes := #[22, 22] }), some 143, 22, false, none⟩
def u11_37 : It := ⟨(Op.store 22 (Operand.tmp 144) (Operand.tmp 119)), none, 0, false, none⟩
def u11_38 : It := ⟨(Op.fieldAddr 24 (Operand.tmp 12) 1), some 145, 0, false, none⟩
def u11_39 : It := ⟨(Op.store 22 (Operand.tmp 145) (Operand.tmp 131)), none, 0, false, none⟩
def u11_40 : It := ⟨(Op.fieldAddr 24 (Operand.tmp 12) 2), some 146, 0, false, none⟩
def u11_41 : It := ⟨(Op.store 22 (Operand.tmp 146) (Operand.tmp 143)), none, 0, false, none⟩
set_option maxRecDepth 100000 in
set_option maxHeartbeats 1000000 in
theorem tu_11t {F : Fur} {w : World} {b4 b9 b10 b11 b12 b14 B k : Nat} {v : Nat → Value} {l : Nat → List S28} {most by_ st_ fr : Int} {w66 x0 y0 : Value} {X V : World} {u2 u3 u4 : Value} {p0 r0 p1 r1 p2 r2 : Int} {ds : List Deferred} {Q' : Exit → Act → World → Prop} (hC : TuC w b4 b9 b10 b11 b12 B) (hT : TuS F w b4 b9 b10 b11 b12 B x0 y0 (v 2) (v 3) (v 4) (upd (upd (upd v 2 u2) 3 u3) 4 u4) (upd (upd (upd (l) 2 ((l) 2 ++ [⟨p0, r0⟩])) 3 ((upd (l) 2 ((l) 2 ++ [⟨p0, r0⟩])) 3 ++ [⟨p1, r1⟩])) 4 ((upd (upd (l) 2 ((l) 2 ++ [⟨p0, r0⟩])) 3 ((upd (l) 2 ((l) 2 ++ [⟨p0, r0⟩])) 3 ++ [⟨p1, r1⟩])) 4 ++ [⟨p2, r2⟩])) X) (hKW : Keep V X)
    (hQn : ∀ t W, Keep V W → andThen (fun t' W' => ∃ u2 u3 u4 : Value, TuS F w b4 b9 b10 b11 b12 B x0 y0 u2 u3 u4 (upd (upd (upd v 2 u2) 3 u3) 4 u4) (upd (upd (upd (l) 2 ((l) 2 ++ [⟨p0, r0⟩])) 3 ((upd (l) 2 ((l) 2 ++ [⟨p0, r0⟩])) 3 ++ [⟨p1, r1⟩])) 4 ((upd (upd (l) 2 ((l) 2 ++ [⟨p0, r0⟩])) 3 ((upd (l) 2 ((l) 2 ++ [⟨p0, r0⟩])) 3 ++ [⟨p1, r1⟩])) 4 ++ [⟨p2, r2⟩])) W' ∧ Slots (none :: some (.int .i64 most) :: some (.int .i8 by_) :: some (.int .i8 st_) :: some (.pointer (some ⟨b4, 0, none⟩)) :: o4 (some (.pointer (some ⟨b9, 0, none⟩)) :: some (.pointer (some ⟨b10, 0, none⟩)) :: some (.pointer (some ⟨b11, 0, none⟩)) :: some (.pointer (some ⟨b12, 0, none⟩)) :: some (.int .i64 ((k : Nat) : Int)) :: some (.pointer (some ⟨b14, 0, none⟩)) :: some (.int .i64 fr) :: none :: none :: o16 (o16 (o16 (some (w66) :: some (.int .i64 ((F.l0.length : Nat) : Int)) :: some (.int .i64 ((k : Nat) : Int)) :: none :: o4 (o4 (o16 (o16 (o16 (o64 (o64 (o64 (o64 []))))))))))))) t') (fun _ _ _ => False) .normal t W → Q' .normal { tmps := t, defers := ds } W) (t : Array Value)
    (hSl : Slots (none :: some (.int .i64 most) :: some (.int .i8 by_) :: some (.int .i8 st_) :: some (.pointer (some ⟨b4, 0, none⟩)) :: o4 (some (.pointer (some ⟨b9, 0, none⟩)) :: some (.pointer (some ⟨b10, 0, none⟩)) :: some (.pointer (some ⟨b11, 0, none⟩)) :: some (.pointer (some ⟨b12, 0, none⟩)) :: some (.int .i64 ((k : Nat) : Int)) :: some (.pointer (some ⟨b14, 0, none⟩)) :: some (.int .i64 fr) :: none :: none :: o16 (o16 (o16 (some (w66) :: some (.int .i64 ((F.l0.length : Nat) : Int)) :: some (.int .i64 ((k : Nat) : Int)) :: none :: none :: o16 (o16 (o16 (some (u2) :: none :: none :: none :: o4 (o4 (some (u3) :: none :: none :: none :: o4 (o4 (some (u4) :: some (.pointer (some ⟨b12, 0, none⟩)) :: none :: o4 (o4 (o4 (o16 (o16 (o64 (o64 (o64 []))))))))))))))))))) t) :
    seqT Try.prog (Opq (regOps (sub (Try.f11.body.getD .skip) [1, 1, 1, 1, 1, 0, 1, 0, 0, 1, 1, 0, 0, 1, 1, 1]))) (fun _ => True) Q' (.one 37 false (.one 38 false (.one 39 false (.one 40 false (.one 41 false (.nil)))))) { tmps := t, defers := ds } X := by
  obtain ⟨x, hx⟩ := Slots.open_ hSl; simp only [fill, Nat.reduceAdd] at hx; subst hx; clear hSl
  obtain ⟨A2, c2, e2⟩ := own_slice (hT.own.own 2 (by omega)); replace e2 : u2 = .slice A2 ((l 2).length + 1) c2 := by have a : u2 = _ := e2; rw [a]; simp [upd]
  obtain ⟨A3, c3, e3⟩ := own_slice (hT.own.own 3 (by omega)); replace e3 : u3 = .slice A3 ((l 3).length + 1) c3 := by have a : u3 = _ := e3; rw [a]; simp [upd]
  obtain ⟨A4, c4, e4⟩ := own_slice (hT.own.own 4 (by omega)); replace e4 : u4 = .slice A4 ((l 4).length + 1) c4 := by have a : u4 = _ := e4; rw [a]; simp [upd]
  have s0 := hT.z.cell0; have s1 := box3_frozen hT.z 0
  refine tr_store u11_37 (X.setCell ⟨b12, 0, none⟩ u2) (by kernel_rfl) rfl (by first | exact rfl | trivial) (by simp [go_sem, mkO, u11_37, s0, s1, e2]) trivial ?_; simp only [u11_37, put_none]
  replace hT := hT.setz hC (box3_set0 hT.z u2); replace hKW := hKW.setCell ⟨b12, 0, none⟩ u2; clear s0 s1
  generalize X.setCell ⟨b12, 0, none⟩ u2 = Y1 at *
  refine tr_make u11_38 (.pointer (some ⟨b12, 1, none⟩)) Y1 (by kernel_rfl) rfl (by first | exact rfl | trivial) ?_ trivial ?_; (focus (simp [go_sem, mkO, u11_38]; done)); simp only [u11_38, put_eq, List.set_cons_succ, List.set_cons_zero]
  have s0 := hT.z.cell1; have s1 := box3_frozen hT.z 1
  refine tr_store u11_39 (Y1.setCell ⟨b12, 1, none⟩ u3) (by kernel_rfl) rfl (by first | exact rfl | trivial) (by simp [go_sem, mkO, u11_39, s0, s1, e3]) trivial ?_; simp only [u11_39, put_none]
  replace hT := hT.setz hC (box3_set1 hT.z u3); replace hKW := hKW.setCell ⟨b12, 1, none⟩ u3; clear s0 s1
  generalize Y1.setCell ⟨b12, 1, none⟩ u3 = Y2 at *
  refine tr_make u11_40 (.pointer (some ⟨b12, 2, none⟩)) Y2 (by kernel_rfl) rfl (by first | exact rfl | trivial) ?_ trivial ?_; (focus (simp [go_sem, mkO, u11_40]; done)); simp only [u11_40, put_eq, List.set_cons_succ, List.set_cons_zero]
  have s0 := hT.z.cell2; have s1 := box3_frozen hT.z 2
  refine tr_store u11_41 (Y2.setCell ⟨b12, 2, none⟩ u4) (by kernel_rfl) rfl (by first | exact rfl | trivial) (by simp [go_sem, mkO, u11_41, s0, s1, e4]) trivial ?_; simp only [u11_41, put_none]
  replace hT := hT.setz hC (box3_set2 hT.z u4); replace hKW := hKW.setCell ⟨b12, 2, none⟩ u4; clear s0 s1
  generalize Y2.setCell ⟨b12, 2, none⟩ u4 = Y3 at *
  exact hQn _ _ hKW ⟨u2, u3, u4, hT, (by simp only [Slots, Fits, and_self])⟩
set_option maxRecDepth 100000 in
set_option maxHeartbeats 8000000 in
theorem tu_11 {F : Fur} {w W : World} {b4 b9 b10 b11 b12 b14 B k : Nat} {v : Nat → Value} {l : Nat → List S28} {most by_ st_ fr : Int} {w66 x0 y0 : Value} (hC : TuC w b4 b9 b10 b11 b12 B) (hT : TuS F w b4 b9 b10 b11 b12 B x0 y0 (v 2) (v 3) (v 4) (v) (l) W) (h : F.At w) (hv : F.va = true) (hk : k < F.l0.length) (h2 : (l 2).length ≤ 50) (h3 : (l 3).length ≤ 50) (h4 : (l 4).length ≤ 50) (t : Array Value) (hSl : Slots (none :: some (.int .i64 most) :: some (.int .i8 by_) :: some (.int .i8 st_) :: some (.pointer (some ⟨b4, 0, none⟩)) :: o4 (some (.pointer (some ⟨b9, 0, none⟩)) :: some (.pointer (some ⟨b10, 0, none⟩)) :: some (.pointer (some ⟨b11, 0, none⟩)) :: some (.pointer (some ⟨b12, 0, none⟩)) :: some (.int .i64 ((k : Nat) : Int)) :: some (.pointer (some ⟨b14, 0, none⟩)) :: some (.int .i64 fr) :: none :: none :: o16 (o16 (o16 (some (w66) :: some (.int .i64 ((F.l0.length : Nat) : Int)) :: some (.int .i64 ((k : Nat) : Int)) :: none :: o4 (o4 (o16 (o16 (o16 (o64 (o64 (o64 (o64 []))))))))))))) t) :
    Exec Try.prog none (sub (Try.f11.body.getD .skip) [1, 1, 1, 1, 1, 0, 1, 0, 0, 1, 1, 0, 0, 1, 1, 1]) t W (andThen (fun t' W' => ∃ u2 u3 u4 : Value, TuS F w b4 b9 b10 b11 b12 B x0 y0 u2 u3 u4 (upd (upd (upd v 2 u2) 3 u3) 4 u4) (upd (upd (upd (l) 2 ((l) 2 ++ [rd_T28 F.l0 ((F.l0.length - 1 - k : Nat) : Int)])) 3 ((upd (l) 2 ((l) 2 ++ [rd_T28 F.l0 ((F.l0.length - 1 - k : Nat) : Int)])) 3 ++ [rd_T28 F.l1 ((F.l0.length - 1 - k : Nat) : Int)])) 4 ((upd (upd (l) 2 ((l) 2 ++ [rd_T28 F.l0 ((F.l0.length - 1 - k : Nat) : Int)])) 3 ((upd (l) 2 ((l) 2 ++ [rd_T28 F.l0 ((F.l0.length - 1 - k : Nat) : Int)])) 3 ++ [rd_T28 F.l1 ((F.l0.length - 1 - k : Nat) : Int)])) 4 ++ [rd_T28 F.l2 ((F.l0.length - 1 - k : Nat) : Int)])) W' ∧ Slots (none :: some (.int .i64 most) :: some (.int .i8 by_) :: some (.int .i8 st_) :: some (.pointer (some ⟨b4, 0, none⟩)) :: o4 (some (.pointer (some ⟨b9, 0, none⟩)) :: some (.pointer (some ⟨b10, 0, none⟩)) :: some (.pointer (some ⟨b11, 0, none⟩)) :: some (.pointer (some ⟨b12, 0, none⟩)) :: some (.int .i64 ((k : Nat) : Int)) :: some (.pointer (some ⟨b14, 0, none⟩)) :: some (.int .i64 fr) :: none :: none :: o16 (o16 (o16 (some (w66) :: some (.int .i64 ((F.l0.length : Nat) : Int)) :: some (.int .i64 ((k : Nat) : Int)) :: none :: o4 (o4 (o16 (o16 (o16 (o64 (o64 (o64 (o64 []))))))))))))) t') fun _ _ _ => False) := by
  obtain ⟨x, hx⟩ := Slots.open_ hSl; simp only [fill, Nat.reduceAdd] at hx; subst hx; clear hSl
  have hu22 := Try.underlying22
  have hu28 := Try.underlying28
  obtain ⟨h8, n1, n2, _⟩ := valid_lens hv
  obtain ⟨j, hjk⟩ : ∃ j, F.l0.length - 1 - k = j := ⟨_, rfl⟩
  have hj0 : j < F.l0.length := by omega
  have hj1 : j < F.l1.length := by omega
  have hj2 : j < F.l2.length := by omega
  obtain ⟨a0, ea0, d0, d0'⟩ := at_T28 h.r0 (j : Int) (by omega) (by omega)
  obtain ⟨a1, ea1, d1, d1'⟩ := at_T28 h.r1 (j : Int) (by omega) (by omega)
  obtain ⟨a2, ea2, d2, d2'⟩ := at_T28 h.r2 (j : Int) (by omega) (by omega)
  simp only [Int.toNat_natCast] at d0 d0' d1 d1' d2 d2'
  rw [hjk]
  generalize rd_T28 F.l0 (j : Int) = s0 at *
  generalize rd_T28 F.l1 (j : Int) = s1 at *
  generalize rd_T28 F.l2 (j : Int) = s2 at *
  obtain ⟨p0, r0⟩ := s0
  obtain ⟨p1, r1⟩ := s1
  obtain ⟨p2, r2⟩ := s2
  try simp only at d0 d0'
  try simp only at d1 d1'
  try simp only at d2 d2'
  have qz0 : ∀ W', ((Box3 W' b12 24 (v 2) (v 3) (v 4) ∧ Box3 W' b4 24 F.s0 F.s1 F.s2) ∧ Boxed W' b9 3 (.int .i64 ((F.l0.length : Nat) : Int)) ∧ Below w.heap.size w W') → W'.cell? ⟨b12, 0, none⟩ = some (v 2) := fun W' h => h.1.1.cell0
  have qz1 : ∀ W', ((Box3 W' b12 24 (v 2) (v 3) (v 4) ∧ Box3 W' b4 24 F.s0 F.s1 F.s2) ∧ Boxed W' b9 3 (.int .i64 ((F.l0.length : Nat) : Int)) ∧ Below w.heap.size w W') → W'.cell? ⟨b12, 1, none⟩ = some (v 3) := fun W' h => h.1.1.cell1
  have qz2 : ∀ W', ((Box3 W' b12 24 (v 2) (v 3) (v 4) ∧ Box3 W' b4 24 F.s0 F.s1 F.s2) ∧ Boxed W' b9 3 (.int .i64 ((F.l0.length : Nat) : Int)) ∧ Below w.heap.size w W') → W'.cell? ⟨b12, 2, none⟩ = some (v 4) := fun W' h => h.1.1.cell2
  have qf0 : ∀ W', ((Box3 W' b12 24 (v 2) (v 3) (v 4) ∧ Box3 W' b4 24 F.s0 F.s1 F.s2) ∧ Boxed W' b9 3 (.int .i64 ((F.l0.length : Nat) : Int)) ∧ Below w.heap.size w W') → W'.cell? ⟨b4, 0, none⟩ = some (.slice (some a0) F.l0.length F.c0) := fun W' h => by have a := h.1.2.cell0; simp only [Fur.s0, ea0] at a; exact a
  have qf1 : ∀ W', ((Box3 W' b12 24 (v 2) (v 3) (v 4) ∧ Box3 W' b4 24 F.s0 F.s1 F.s2) ∧ Boxed W' b9 3 (.int .i64 ((F.l0.length : Nat) : Int)) ∧ Below w.heap.size w W') → W'.cell? ⟨b4, 1, none⟩ = some (.slice (some a1) F.l1.length F.c1) := fun W' h => by have a := h.1.2.cell1; simp only [Fur.s1, ea1] at a; exact a
  have qf2 : ∀ W', ((Box3 W' b12 24 (v 2) (v 3) (v 4) ∧ Box3 W' b4 24 F.s0 F.s1 F.s2) ∧ Boxed W' b9 3 (.int .i64 ((F.l0.length : Nat) : Int)) ∧ Below w.heap.size w W') → W'.cell? ⟨b4, 2, none⟩ = some (.slice (some a2) F.l2.length F.c2) := fun W' h => by have a := h.1.2.cell2; simp only [Fur.s2, ea2] at a; exact a
  have qn : ∀ W', ((Box3 W' b12 24 (v 2) (v 3) (v 4) ∧ Box3 W' b4 24 F.s0 F.s1 F.s2) ∧ Boxed W' b9 3 (.int .i64 ((F.l0.length : Nat) : Int)) ∧ Below w.heap.size w W') → W'.cell? ⟨b9, 0, none⟩ = some (.int .i64 ((F.l0.length : Nat) : Int)) := fun W' h => h.2.1.cell
  have G : ∀ W', ((Box3 W' b12 24 (v 2) (v 3) (v 4) ∧ Box3 W' b4 24 F.s0 F.s1 F.s2) ∧ Boxed W' b9 3 (.int .i64 ((F.l0.length : Nat) : Int)) ∧ Below w.heap.size w W') → ∀ {a : Addr} {u : Value}, w.cell? a = some u → W'.cell? a = some u := fun W' h {a u} hc => (Grow.of_below (B := 0) h.2.2).cell hc
  have w1 : IntKind.i64.wrap ((F.l0.length : Int) - 1) = (F.l0.length : Int) - 1 := IntWalk.i64_in _ (by omega)
  have w2 : IntKind.i64.wrap ((F.l0.length : Int) - 1 - (k : Int)) = (j : Int) := by rw [IntWalk.i64_in _ (by omega)]; omega
  have hTw : Tw F w b4 b9 b10 b11 b12 B x0 y0 (v 2) (v 3) (v 4) W v l [] W.drew := ⟨hT.drew, (Keep.refl W).drew, fun e he => by cases he⟩
  clear hT
  have hT := hTw
  clear hTw
  refine region_tree2 (c := (sub (Try.f11.body.getD .skip) [1, 1, 1, 1, 1, 0, 1, 0, 0, 1, 1, 0, 0, 1, 1, 1])) (id := 11) 37 5 (.one 0 true (.one 1 true (.one 2 true (.one 3 true (.one 4 true (.one 5 true (.one 6 true (.one 7 true (.one 8 true (.one 9 true (.one 12 true (.one 13 true (.one 14 true (.one 15 true (.one 16 true (.one 17 true (.one 18 true (.one 19 true (.one 20 true (.one 21 true (.one 24 true (.one 25 true (.one 26 true (.one 27 true (.one 28 true (.one 29 true (.one 30 true (.one 31 true (.one 32 true (.one 33 true (.three 10 22 34 (.three 11 22 34 (.one 36 true (.two 22 34 (.two 23 34 (.one 34 false (.one 35 false (.nil))) (.one 23 false (.one 35 false (.nil)))) (.one 22 false (.one 23 false (.one 35 false (.nil)))))) (.two 11 34 (.one 36 true (.two 23 34 (.one 34 false (.one 35 false (.nil))) (.one 23 false (.one 35 false (.nil))))) (.one 11 false (.one 36 true (.one 23 false (.one 35 false (.nil)))))) (.two 11 22 (.one 36 true (.one 22 false (.one 23 false (.one 35 false (.nil))))) (.one 11 false (.one 36 true (.one 23 false (.one 35 false (.nil))))))) (.two 10 34 (.two 11 34 (.one 36 true (.two 23 34 (.one 34 false (.one 35 false (.nil))) (.one 23 false (.one 35 false (.nil))))) (.one 11 false (.one 36 true (.one 23 false (.one 35 false (.nil)))))) (.one 10 false (.one 11 false (.one 36 true (.one 23 false (.one 35 false (.nil))))))) (.two 10 22 (.two 11 22 (.one 36 true (.one 22 false (.one 23 false (.one 35 false (.nil))))) (.one 11 false (.one 36 true (.one 23 false (.one 35 false (.nil)))))) (.one 10 false (.one 11 false (.one 36 true (.one 23 false (.one 35 false (.nil)))))))))))))))))))))))))))))))))))))) (.one 37 false (.one 38 false (.one 39 false (.one 40 false (.one 41 false (.nil)))))) (Opq ((regOps (sub (Try.f11.body.getD .skip) [1, 1, 1, 1, 1, 0, 1, 0, 0, 1, 1, 0, 0, 1, 1, 1])).toList.take 37).toArray) (Opq (regOps (sub (Try.f11.body.getD .skip) [1, 1, 1, 1, 1, 0, 1, 0, 0, 1, 1, 0, 0, 1, 1, 1]))) rfl rfl rfl (by kernel_rfl) (by kernel_rfl) (by kernel_rfl) (by kernel_rfl) (by kernel_rfl) (by kernel_rfl) (by kernel_rfl) (by kernel_rfl) (by kernel_rfl) (by kernel_rfl) (by kernel_rfl) [0, 1, 0, 4, 0, 16, 0, 96, 136, 256, 512, 1026, 0, 4096, 0, 16384, 0, 65536, 0, 393216, 557056, 1048576, 2097152, 4204544, 0, 16777216, 0, 67108864, 0, 268435456, 0, 1610612736, 2281701376, 4294967296, 8589934592, 17221812224, 50348031] [0, 1, 0, 4, 0, 16, 0, 96, 136, 256, 512, 1026, 0, 4096, 0, 16384, 0, 65536, 0, 393216, 557056, 1048576, 2097152, 4204544, 0, 16777216, 0, 67108864, 0, 268435456, 0, 1610612736, 2281701376, 4294967296, 8589934592, 17221812224, 50348031, 103129563135, 206225539071, 481103446015, 1099511627775, 2199023255551] (by kernel_rfl) (by kernel_rfl) (by kernel_rfl) (by kernel_rfl) (fun W' => (Box3 W' b12 24 (v 2) (v 3) (v 4) ∧ Box3 W' b4 24 F.s0 F.s1 F.s2) ∧ Boxed W' b9 3 (.int .i64 ((F.l0.length : Nat) : Int)) ∧ Below w.heap.size w W') fun ds Q' Qh hQn hQT => ?_
  generalize W.drew = X0 at *
  refine tr_take u11_0t (.pointer (some ⟨b12, 0, none⟩)) (by kernel_rfl) rfl (by first | exact rfl | trivial) (fun wq hq => ?_) (hT.s) ?_; (focus (simp [go_sem, mkO, u11_0t]; done)); simp only [u11_0t, put_eq, List.set_cons_succ, List.set_cons_zero]
  refine tr_take u11_1t (v 2) (by kernel_rfl) rfl (by first | exact rfl | trivial) (fun wq hq => ?_) (hT.s) ?_; (focus (simp [go_sem, mkO, u11_1t, qz0 wq hq]; done)); simp only [u11_1t, put_eq, List.set_cons_succ, List.set_cons_zero]
  refine tr_take u11_2t (.pointer (some ⟨b4, 0, none⟩)) (by kernel_rfl) rfl (by first | exact rfl | trivial) (fun wq hq => ?_) (hT.s) ?_; (focus (simp [go_sem, mkO, u11_2t]; done)); simp only [u11_2t, put_eq, List.set_cons_succ, List.set_cons_zero]
  refine tr_take u11_3t (.slice (some a0) F.l0.length F.c0) (by kernel_rfl) rfl (by first | exact rfl | trivial) (fun wq hq => ?_) (hT.s) ?_; (focus (simp [go_sem, mkO, u11_3t, qf0 wq hq]; done)); simp only [u11_3t, put_eq, List.set_cons_succ, List.set_cons_zero]
  refine tr_take u11_4t (.int .i64 ((F.l0.length : Nat) : Int)) (by kernel_rfl) rfl (by first | exact rfl | trivial) (fun wq hq => ?_) (hT.s) ?_; (focus (simp [go_sem, mkO, u11_4t, qn wq hq]; done)); simp only [u11_4t, put_eq, List.set_cons_succ, List.set_cons_zero]
  refine tr_take u11_5t (.int .i64 ((F.l0.length : Int) - 1)) (by kernel_rfl) rfl (by first | exact rfl | trivial) (fun wq hq => ?_) (hT.s) ?_; (focus (simp [go_sem, mkO, u11_5t, w1]; done)); simp only [u11_5t, put_eq, List.set_cons_succ, List.set_cons_zero]
  refine tr_take u11_6t (.int .i64 ((k : Nat) : Int)) (by kernel_rfl) rfl (by first | exact rfl | trivial) (fun wq hq => ?_) (hT.s) ?_; (focus (exact rfl)); simp only [u11_6t, put_eq, List.set_cons_succ, List.set_cons_zero]
  refine tr_take u11_7t (.int .i64 ((j : Nat) : Int)) (by kernel_rfl) rfl (by first | exact rfl | trivial) (fun wq hq => ?_) (hT.s) ?_; (focus (simp [go_sem, mkO, u11_7t, w2]; done)); simp only [u11_7t, put_eq, List.set_cons_succ, List.set_cons_zero]
  refine tr_take u11_8t (.pointer (some (a0.add (j * 2)))) (by kernel_rfl) rfl (by first | exact rfl | trivial) (fun wq hq => ?_) (hT.s) ?_; (focus (simp [go_sem, mkO, u11_8t, hu22, hj0]; done)); simp only [u11_8t, put_eq, List.set_cons_succ, List.set_cons_zero]
  refine tr_take u11_9t (.agg #[.int .i64 p0, .int .i64 r0]) (by kernel_rfl) rfl (by first | exact rfl | trivial) (fun wq hq => ?_) (hT.s) ?_; (focus (simp [go_sem, mkO, u11_9t, hu28, G wq hq d0, G wq hq d0']; done)); simp only [u11_9t, put_eq, List.set_cons_succ, List.set_cons_zero]
  refine tr_take u11_12t (.pointer (some ⟨b12, 1, none⟩)) (by kernel_rfl) rfl (by first | exact rfl | trivial) (fun wq hq => ?_) (hT.s) ?_; (focus (simp [go_sem, mkO, u11_12t]; done)); simp only [u11_12t, put_eq, List.set_cons_succ, List.set_cons_zero]
  refine tr_take u11_13t (v 3) (by kernel_rfl) rfl (by first | exact rfl | trivial) (fun wq hq => ?_) (hT.s) ?_; (focus (simp [go_sem, mkO, u11_13t, qz1 wq hq]; done)); simp only [u11_13t, put_eq, List.set_cons_succ, List.set_cons_zero]
  refine tr_take u11_14t (.pointer (some ⟨b4, 1, none⟩)) (by kernel_rfl) rfl (by first | exact rfl | trivial) (fun wq hq => ?_) (hT.s) ?_; (focus (simp [go_sem, mkO, u11_14t]; done)); simp only [u11_14t, put_eq, List.set_cons_succ, List.set_cons_zero]
  refine tr_take u11_15t (.slice (some a1) F.l1.length F.c1) (by kernel_rfl) rfl (by first | exact rfl | trivial) (fun wq hq => ?_) (hT.s) ?_; (focus (simp [go_sem, mkO, u11_15t, qf1 wq hq]; done)); simp only [u11_15t, put_eq, List.set_cons_succ, List.set_cons_zero]
  refine tr_take u11_16t (.int .i64 ((F.l0.length : Nat) : Int)) (by kernel_rfl) rfl (by first | exact rfl | trivial) (fun wq hq => ?_) (hT.s) ?_; (focus (simp [go_sem, mkO, u11_16t, qn wq hq]; done)); simp only [u11_16t, put_eq, List.set_cons_succ, List.set_cons_zero]
  refine tr_take u11_17t (.int .i64 ((F.l0.length : Int) - 1)) (by kernel_rfl) rfl (by first | exact rfl | trivial) (fun wq hq => ?_) (hT.s) ?_; (focus (simp [go_sem, mkO, u11_17t, w1]; done)); simp only [u11_17t, put_eq, List.set_cons_succ, List.set_cons_zero]
  refine tr_take u11_18t (.int .i64 ((k : Nat) : Int)) (by kernel_rfl) rfl (by first | exact rfl | trivial) (fun wq hq => ?_) (hT.s) ?_; (focus (exact rfl)); simp only [u11_18t, put_eq, List.set_cons_succ, List.set_cons_zero]
  refine tr_take u11_19t (.int .i64 ((j : Nat) : Int)) (by kernel_rfl) rfl (by first | exact rfl | trivial) (fun wq hq => ?_) (hT.s) ?_; (focus (simp [go_sem, mkO, u11_19t, w2]; done)); simp only [u11_19t, put_eq, List.set_cons_succ, List.set_cons_zero]
  refine tr_take u11_20t (.pointer (some (a1.add (j * 2)))) (by kernel_rfl) rfl (by first | exact rfl | trivial) (fun wq hq => ?_) (hT.s) ?_; (focus (simp [go_sem, mkO, u11_20t, hu22, hj1]; done)); simp only [u11_20t, put_eq, List.set_cons_succ, List.set_cons_zero]
  refine tr_take u11_21t (.agg #[.int .i64 p1, .int .i64 r1]) (by kernel_rfl) rfl (by first | exact rfl | trivial) (fun wq hq => ?_) (hT.s) ?_; (focus (simp [go_sem, mkO, u11_21t, hu28, G wq hq d1, G wq hq d1']; done)); simp only [u11_21t, put_eq, List.set_cons_succ, List.set_cons_zero]
  refine tr_take u11_24t (.pointer (some ⟨b12, 2, none⟩)) (by kernel_rfl) rfl (by first | exact rfl | trivial) (fun wq hq => ?_) (hT.s) ?_; (focus (simp [go_sem, mkO, u11_24t]; done)); simp only [u11_24t, put_eq, List.set_cons_succ, List.set_cons_zero]
  refine tr_take u11_25t (v 4) (by kernel_rfl) rfl (by first | exact rfl | trivial) (fun wq hq => ?_) (hT.s) ?_; (focus (simp [go_sem, mkO, u11_25t, qz2 wq hq]; done)); simp only [u11_25t, put_eq, List.set_cons_succ, List.set_cons_zero]
  refine tr_take u11_26t (.pointer (some ⟨b4, 2, none⟩)) (by kernel_rfl) rfl (by first | exact rfl | trivial) (fun wq hq => ?_) (hT.s) ?_; (focus (simp [go_sem, mkO, u11_26t]; done)); simp only [u11_26t, put_eq, List.set_cons_succ, List.set_cons_zero]
  refine tr_take u11_27t (.slice (some a2) F.l2.length F.c2) (by kernel_rfl) rfl (by first | exact rfl | trivial) (fun wq hq => ?_) (hT.s) ?_; (focus (simp [go_sem, mkO, u11_27t, qf2 wq hq]; done)); simp only [u11_27t, put_eq, List.set_cons_succ, List.set_cons_zero]
  refine tr_take u11_28t (.int .i64 ((F.l0.length : Nat) : Int)) (by kernel_rfl) rfl (by first | exact rfl | trivial) (fun wq hq => ?_) (hT.s) ?_; (focus (simp [go_sem, mkO, u11_28t, qn wq hq]; done)); simp only [u11_28t, put_eq, List.set_cons_succ, List.set_cons_zero]
  refine tr_take u11_29t (.int .i64 ((F.l0.length : Int) - 1)) (by kernel_rfl) rfl (by first | exact rfl | trivial) (fun wq hq => ?_) (hT.s) ?_; (focus (simp [go_sem, mkO, u11_29t, w1]; done)); simp only [u11_29t, put_eq, List.set_cons_succ, List.set_cons_zero]
  refine tr_take u11_30t (.int .i64 ((k : Nat) : Int)) (by kernel_rfl) rfl (by first | exact rfl | trivial) (fun wq hq => ?_) (hT.s) ?_; (focus (exact rfl)); simp only [u11_30t, put_eq, List.set_cons_succ, List.set_cons_zero]
  refine tr_take u11_31t (.int .i64 ((j : Nat) : Int)) (by kernel_rfl) rfl (by first | exact rfl | trivial) (fun wq hq => ?_) (hT.s) ?_; (focus (simp [go_sem, mkO, u11_31t, w2]; done)); simp only [u11_31t, put_eq, List.set_cons_succ, List.set_cons_zero]
  refine tr_take u11_32t (.pointer (some (a2.add (j * 2)))) (by kernel_rfl) rfl (by first | exact rfl | trivial) (fun wq hq => ?_) (hT.s) ?_; (focus (simp [go_sem, mkO, u11_32t, hu22, hj2]; done)); simp only [u11_32t, put_eq, List.set_cons_succ, List.set_cons_zero]
  refine tr_take u11_33t (.agg #[.int .i64 p2, .int .i64 r2]) (by kernel_rfl) rfl (by first | exact rfl | trivial) (fun wq hq => ?_) (hT.s) ?_; (focus (simp [go_sem, mkO, u11_33t, hu28, G wq hq d2, G wq hq d2']; done)); simp only [u11_33t, put_eq, List.set_cons_succ, List.set_cons_zero]
  refine ⟨?_, ?_, ?_⟩
  · refine tr_make u11_10 (.slice (some ⟨X0.heap.size, 0, none⟩) 1 1) (X0.alloc (.cells #[.int .i64 p0, .int .i64 r0] 28)) (by kernel_rfl) rfl (by first | exact rfl | trivial) (by simp [go_sem, mkO, u11_10, hu22, hu28]) (hT.made p0 r0).s ?_; simp only [u11_10, put_eq, List.set_cons_succ, List.set_cons_zero]
    replace hT := hT.made p0 r0; generalize X0.alloc (.cells #[.int .i64 p0, .int .i64 r0] 28) = X1 at *; generalize X0.heap.size = z2 at *
    refine ⟨?_, ?_, ?_⟩
    · obtain ⟨u2, X2, hr, hD⟩ := hT.app hC 2 (by omega) (z := z2) (u1 := p0) (u2 := r0) (by simp) (by first | omega | (simp [upd]; omega)) 22
      refine tr_make u11_11 u2 X2 (by kernel_rfl) rfl (by first | exact rfl | trivial) (exec_app u11_11 _ _ _ rfl rfl rfl hr) hD.s ?_; simp only [u11_11, put_eq, List.set_cons_succ, List.set_cons_zero]; clear hT hr; have hT := hD; clear hD X1
      refine tr_take u11_36t (.pointer (some ⟨b12, 0, none⟩)) (by kernel_rfl) rfl (by first | exact rfl | trivial) (fun wq hq => ?_) (hT.s) ?_; (focus (simp [go_sem, mkO, u11_36t]; done)); simp only [u11_36t, put_eq, List.set_cons_succ, List.set_cons_zero]
      refine ⟨?_, ?_⟩
      · refine tr_make u11_22 (.slice (some ⟨X2.heap.size, 0, none⟩) 1 1) (X2.alloc (.cells #[.int .i64 p1, .int .i64 r1] 28)) (by kernel_rfl) rfl (by first | exact rfl | trivial) (by simp [go_sem, mkO, u11_22, hu22, hu28]) (hT.made p1 r1).s ?_; simp only [u11_22, put_eq, List.set_cons_succ, List.set_cons_zero]
        replace hT := hT.made p1 r1; generalize X2.alloc (.cells #[.int .i64 p1, .int .i64 r1] 28) = X3 at *; generalize X2.heap.size = z3 at *
        refine ⟨?_, ?_⟩
        · obtain ⟨u3, X4, hr, hD⟩ := hT.app hC 3 (by omega) (z := z3) (u1 := p1) (u2 := r1) (by simp) (by first | omega | (simp [upd]; omega)) 22
          refine tr_make u11_23 u3 X4 (by kernel_rfl) rfl (by first | exact rfl | trivial) (exec_app u11_23 _ _ _ rfl rfl rfl hr) hD.s ?_; simp only [u11_23, put_eq, List.set_cons_succ, List.set_cons_zero]; clear hT hr; have hT := hD; clear hD X3
          refine tr_make u11_34 (.slice (some ⟨X4.heap.size, 0, none⟩) 1 1) (X4.alloc (.cells #[.int .i64 p2, .int .i64 r2] 28)) (by kernel_rfl) rfl (by first | exact rfl | trivial) (by simp [go_sem, mkO, u11_34, hu22, hu28]) (hT.made p2 r2).s ?_; simp only [u11_34, put_eq, List.set_cons_succ, List.set_cons_zero]
          replace hT := hT.made p2 r2; generalize X4.alloc (.cells #[.int .i64 p2, .int .i64 r2] 28) = X5 at *; generalize X4.heap.size = z4 at *
          obtain ⟨u4, X6, hr, hD⟩ := hT.app hC 4 (by omega) (z := z4) (u1 := p2) (u2 := r2) (by simp) (by first | omega | (simp [upd]; omega)) 22
          refine tr_make u11_35 u4 X6 (by kernel_rfl) rfl (by first | exact rfl | trivial) (exec_app u11_35 _ _ _ rfl rfl rfl hr) hD.s ?_; simp only [u11_35, put_eq, List.set_cons_succ, List.set_cons_zero]; clear hT hr; have hT := hD; clear hD X5
          exact hQT _ _ (tu_11t hC hT.t hT.k hQn _ (by simp only [Slots, Fits, and_self]))
        · refine tr_make u11_34 (.slice (some ⟨X3.heap.size, 0, none⟩) 1 1) (X3.alloc (.cells #[.int .i64 p2, .int .i64 r2] 28)) (by kernel_rfl) rfl (by first | exact rfl | trivial) (by simp [go_sem, mkO, u11_34, hu22, hu28]) (hT.made p2 r2).s ?_; simp only [u11_34, put_eq, List.set_cons_succ, List.set_cons_zero]
          replace hT := hT.made p2 r2; generalize X3.alloc (.cells #[.int .i64 p2, .int .i64 r2] 28) = X4 at *; generalize X3.heap.size = z4 at *
          obtain ⟨u3, X5, hr, hD⟩ := hT.app hC 3 (by omega) (z := z3) (u1 := p1) (u2 := r1) (by simp) (by first | omega | (simp [upd]; omega)) 22
          refine tr_make u11_23 u3 X5 (by kernel_rfl) rfl (by first | exact rfl | trivial) (exec_app u11_23 _ _ _ rfl rfl rfl hr) hD.s ?_; simp only [u11_23, put_eq, List.set_cons_succ, List.set_cons_zero]; clear hT hr; have hT := hD; clear hD X4
          obtain ⟨u4, X6, hr, hD⟩ := hT.app hC 4 (by omega) (z := z4) (u1 := p2) (u2 := r2) (by simp) (by first | omega | (simp [upd]; omega)) 22
          refine tr_make u11_35 u4 X6 (by kernel_rfl) rfl (by first | exact rfl | trivial) (exec_app u11_35 _ _ _ rfl rfl rfl hr) hD.s ?_; simp only [u11_35, put_eq, List.set_cons_succ, List.set_cons_zero]; clear hT hr; have hT := hD; clear hD X5
          exact hQT _ _ (tu_11t hC hT.t hT.k hQn _ (by simp only [Slots, Fits, and_self]))
      · refine tr_make u11_34 (.slice (some ⟨X2.heap.size, 0, none⟩) 1 1) (X2.alloc (.cells #[.int .i64 p2, .int .i64 r2] 28)) (by kernel_rfl) rfl (by first | exact rfl | trivial) (by simp [go_sem, mkO, u11_34, hu22, hu28]) (hT.made p2 r2).s ?_; simp only [u11_34, put_eq, List.set_cons_succ, List.set_cons_zero]
        replace hT := hT.made p2 r2; generalize X2.alloc (.cells #[.int .i64 p2, .int .i64 r2] 28) = X3 at *; generalize X2.heap.size = z4 at *
        refine tr_make u11_22 (.slice (some ⟨X3.heap.size, 0, none⟩) 1 1) (X3.alloc (.cells #[.int .i64 p1, .int .i64 r1] 28)) (by kernel_rfl) rfl (by first | exact rfl | trivial) (by simp [go_sem, mkO, u11_22, hu22, hu28]) (hT.made p1 r1).s ?_; simp only [u11_22, put_eq, List.set_cons_succ, List.set_cons_zero]
        replace hT := hT.made p1 r1; generalize X3.alloc (.cells #[.int .i64 p1, .int .i64 r1] 28) = X4 at *; generalize X3.heap.size = z3 at *
        obtain ⟨u3, X5, hr, hD⟩ := hT.app hC 3 (by omega) (z := z3) (u1 := p1) (u2 := r1) (by simp) (by first | omega | (simp [upd]; omega)) 22
        refine tr_make u11_23 u3 X5 (by kernel_rfl) rfl (by first | exact rfl | trivial) (exec_app u11_23 _ _ _ rfl rfl rfl hr) hD.s ?_; simp only [u11_23, put_eq, List.set_cons_succ, List.set_cons_zero]; clear hT hr; have hT := hD; clear hD X4
        obtain ⟨u4, X6, hr, hD⟩ := hT.app hC 4 (by omega) (z := z4) (u1 := p2) (u2 := r2) (by simp) (by first | omega | (simp [upd]; omega)) 22
        refine tr_make u11_35 u4 X6 (by kernel_rfl) rfl (by first | exact rfl | trivial) (exec_app u11_35 _ _ _ rfl rfl rfl hr) hD.s ?_; simp only [u11_35, put_eq, List.set_cons_succ, List.set_cons_zero]; clear hT hr; have hT := hD; clear hD X5
        exact hQT _ _ (tu_11t hC hT.t hT.k hQn _ (by simp only [Slots, Fits, and_self]))
    · refine tr_make u11_22 (.slice (some ⟨X1.heap.size, 0, none⟩) 1 1) (X1.alloc (.cells #[.int .i64 p1, .int .i64 r1] 28)) (by kernel_rfl) rfl (by first | exact rfl | trivial) (by simp [go_sem, mkO, u11_22, hu22, hu28]) (hT.made p1 r1).s ?_; simp only [u11_22, put_eq, List.set_cons_succ, List.set_cons_zero]
      replace hT := hT.made p1 r1; generalize X1.alloc (.cells #[.int .i64 p1, .int .i64 r1] 28) = X2 at *; generalize X1.heap.size = z3 at *
      refine ⟨?_, ?_⟩
      · obtain ⟨u2, X3, hr, hD⟩ := hT.app hC 2 (by omega) (z := z2) (u1 := p0) (u2 := r0) (by simp) (by first | omega | (simp [upd]; omega)) 22
        refine tr_make u11_11 u2 X3 (by kernel_rfl) rfl (by first | exact rfl | trivial) (exec_app u11_11 _ _ _ rfl rfl rfl hr) hD.s ?_; simp only [u11_11, put_eq, List.set_cons_succ, List.set_cons_zero]; clear hT hr; have hT := hD; clear hD X2
        refine tr_take u11_36t (.pointer (some ⟨b12, 0, none⟩)) (by kernel_rfl) rfl (by first | exact rfl | trivial) (fun wq hq => ?_) (hT.s) ?_; (focus (simp [go_sem, mkO, u11_36t]; done)); simp only [u11_36t, put_eq, List.set_cons_succ, List.set_cons_zero]
        refine ⟨?_, ?_⟩
        · obtain ⟨u3, X4, hr, hD⟩ := hT.app hC 3 (by omega) (z := z3) (u1 := p1) (u2 := r1) (by simp) (by first | omega | (simp [upd]; omega)) 22
          refine tr_make u11_23 u3 X4 (by kernel_rfl) rfl (by first | exact rfl | trivial) (exec_app u11_23 _ _ _ rfl rfl rfl hr) hD.s ?_; simp only [u11_23, put_eq, List.set_cons_succ, List.set_cons_zero]; clear hT hr; have hT := hD; clear hD X3
          refine tr_make u11_34 (.slice (some ⟨X4.heap.size, 0, none⟩) 1 1) (X4.alloc (.cells #[.int .i64 p2, .int .i64 r2] 28)) (by kernel_rfl) rfl (by first | exact rfl | trivial) (by simp [go_sem, mkO, u11_34, hu22, hu28]) (hT.made p2 r2).s ?_; simp only [u11_34, put_eq, List.set_cons_succ, List.set_cons_zero]
          replace hT := hT.made p2 r2; generalize X4.alloc (.cells #[.int .i64 p2, .int .i64 r2] 28) = X5 at *; generalize X4.heap.size = z4 at *
          obtain ⟨u4, X6, hr, hD⟩ := hT.app hC 4 (by omega) (z := z4) (u1 := p2) (u2 := r2) (by simp) (by first | omega | (simp [upd]; omega)) 22
          refine tr_make u11_35 u4 X6 (by kernel_rfl) rfl (by first | exact rfl | trivial) (exec_app u11_35 _ _ _ rfl rfl rfl hr) hD.s ?_; simp only [u11_35, put_eq, List.set_cons_succ, List.set_cons_zero]; clear hT hr; have hT := hD; clear hD X5
          exact hQT _ _ (tu_11t hC hT.t hT.k hQn _ (by simp only [Slots, Fits, and_self]))
        · refine tr_make u11_34 (.slice (some ⟨X3.heap.size, 0, none⟩) 1 1) (X3.alloc (.cells #[.int .i64 p2, .int .i64 r2] 28)) (by kernel_rfl) rfl (by first | exact rfl | trivial) (by simp [go_sem, mkO, u11_34, hu22, hu28]) (hT.made p2 r2).s ?_; simp only [u11_34, put_eq, List.set_cons_succ, List.set_cons_zero]
          replace hT := hT.made p2 r2; generalize X3.alloc (.cells #[.int .i64 p2, .int .i64 r2] 28) = X4 at *; generalize X3.heap.size = z4 at *
          obtain ⟨u3, X5, hr, hD⟩ := hT.app hC 3 (by omega) (z := z3) (u1 := p1) (u2 := r1) (by simp) (by first | omega | (simp [upd]; omega)) 22
          refine tr_make u11_23 u3 X5 (by kernel_rfl) rfl (by first | exact rfl | trivial) (exec_app u11_23 _ _ _ rfl rfl rfl hr) hD.s ?_; simp only [u11_23, put_eq, List.set_cons_succ, List.set_cons_zero]; clear hT hr; have hT := hD; clear hD X4
          obtain ⟨u4, X6, hr, hD⟩ := hT.app hC 4 (by omega) (z := z4) (u1 := p2) (u2 := r2) (by simp) (by first | omega | (simp [upd]; omega)) 22
          refine tr_make u11_35 u4 X6 (by kernel_rfl) rfl (by first | exact rfl | trivial) (exec_app u11_35 _ _ _ rfl rfl rfl hr) hD.s ?_; simp only [u11_35, put_eq, List.set_cons_succ, List.set_cons_zero]; clear hT hr; have hT := hD; clear hD X5
          exact hQT _ _ (tu_11t hC hT.t hT.k hQn _ (by simp only [Slots, Fits, and_self]))
      · refine tr_make u11_34 (.slice (some ⟨X2.heap.size, 0, none⟩) 1 1) (X2.alloc (.cells #[.int .i64 p2, .int .i64 r2] 28)) (by kernel_rfl) rfl (by first | exact rfl | trivial) (by simp [go_sem, mkO, u11_34, hu22, hu28]) (hT.made p2 r2).s ?_; simp only [u11_34, put_eq, List.set_cons_succ, List.set_cons_zero]
        replace hT := hT.made p2 r2; generalize X2.alloc (.cells #[.int .i64 p2, .int .i64 r2] 28) = X3 at *; generalize X2.heap.size = z4 at *
        obtain ⟨u2, X4, hr, hD⟩ := hT.app hC 2 (by omega) (z := z2) (u1 := p0) (u2 := r0) (by simp) (by first | omega | (simp [upd]; omega)) 22
        refine tr_make u11_11 u2 X4 (by kernel_rfl) rfl (by first | exact rfl | trivial) (exec_app u11_11 _ _ _ rfl rfl rfl hr) hD.s ?_; simp only [u11_11, put_eq, List.set_cons_succ, List.set_cons_zero]; clear hT hr; have hT := hD; clear hD X3
        refine tr_take u11_36t (.pointer (some ⟨b12, 0, none⟩)) (by kernel_rfl) rfl (by first | exact rfl | trivial) (fun wq hq => ?_) (hT.s) ?_; (focus (simp [go_sem, mkO, u11_36t]; done)); simp only [u11_36t, put_eq, List.set_cons_succ, List.set_cons_zero]
        obtain ⟨u3, X5, hr, hD⟩ := hT.app hC 3 (by omega) (z := z3) (u1 := p1) (u2 := r1) (by simp) (by first | omega | (simp [upd]; omega)) 22
        refine tr_make u11_23 u3 X5 (by kernel_rfl) rfl (by first | exact rfl | trivial) (exec_app u11_23 _ _ _ rfl rfl rfl hr) hD.s ?_; simp only [u11_23, put_eq, List.set_cons_succ, List.set_cons_zero]; clear hT hr; have hT := hD; clear hD X4
        obtain ⟨u4, X6, hr, hD⟩ := hT.app hC 4 (by omega) (z := z4) (u1 := p2) (u2 := r2) (by simp) (by first | omega | (simp [upd]; omega)) 22
        refine tr_make u11_35 u4 X6 (by kernel_rfl) rfl (by first | exact rfl | trivial) (exec_app u11_35 _ _ _ rfl rfl rfl hr) hD.s ?_; simp only [u11_35, put_eq, List.set_cons_succ, List.set_cons_zero]; clear hT hr; have hT := hD; clear hD X5
        exact hQT _ _ (tu_11t hC hT.t hT.k hQn _ (by simp only [Slots, Fits, and_self]))
    · refine tr_make u11_34 (.slice (some ⟨X1.heap.size, 0, none⟩) 1 1) (X1.alloc (.cells #[.int .i64 p2, .int .i64 r2] 28)) (by kernel_rfl) rfl (by first | exact rfl | trivial) (by simp [go_sem, mkO, u11_34, hu22, hu28]) (hT.made p2 r2).s ?_; simp only [u11_34, put_eq, List.set_cons_succ, List.set_cons_zero]
      replace hT := hT.made p2 r2; generalize X1.alloc (.cells #[.int .i64 p2, .int .i64 r2] 28) = X2 at *; generalize X1.heap.size = z4 at *
      refine ⟨?_, ?_⟩
      · obtain ⟨u2, X3, hr, hD⟩ := hT.app hC 2 (by omega) (z := z2) (u1 := p0) (u2 := r0) (by simp) (by first | omega | (simp [upd]; omega)) 22
        refine tr_make u11_11 u2 X3 (by kernel_rfl) rfl (by first | exact rfl | trivial) (exec_app u11_11 _ _ _ rfl rfl rfl hr) hD.s ?_; simp only [u11_11, put_eq, List.set_cons_succ, List.set_cons_zero]; clear hT hr; have hT := hD; clear hD X2
        refine tr_take u11_36t (.pointer (some ⟨b12, 0, none⟩)) (by kernel_rfl) rfl (by first | exact rfl | trivial) (fun wq hq => ?_) (hT.s) ?_; (focus (simp [go_sem, mkO, u11_36t]; done)); simp only [u11_36t, put_eq, List.set_cons_succ, List.set_cons_zero]
        refine tr_make u11_22 (.slice (some ⟨X3.heap.size, 0, none⟩) 1 1) (X3.alloc (.cells #[.int .i64 p1, .int .i64 r1] 28)) (by kernel_rfl) rfl (by first | exact rfl | trivial) (by simp [go_sem, mkO, u11_22, hu22, hu28]) (hT.made p1 r1).s ?_; simp only [u11_22, put_eq, List.set_cons_succ, List.set_cons_zero]
        replace hT := hT.made p1 r1; generalize X3.alloc (.cells #[.int .i64 p1, .int .i64 r1] 28) = X4 at *; generalize X3.heap.size = z3 at *
        obtain ⟨u3, X5, hr, hD⟩ := hT.app hC 3 (by omega) (z := z3) (u1 := p1) (u2 := r1) (by simp) (by first | omega | (simp [upd]; omega)) 22
        refine tr_make u11_23 u3 X5 (by kernel_rfl) rfl (by first | exact rfl | trivial) (exec_app u11_23 _ _ _ rfl rfl rfl hr) hD.s ?_; simp only [u11_23, put_eq, List.set_cons_succ, List.set_cons_zero]; clear hT hr; have hT := hD; clear hD X4
        obtain ⟨u4, X6, hr, hD⟩ := hT.app hC 4 (by omega) (z := z4) (u1 := p2) (u2 := r2) (by simp) (by first | omega | (simp [upd]; omega)) 22
        refine tr_make u11_35 u4 X6 (by kernel_rfl) rfl (by first | exact rfl | trivial) (exec_app u11_35 _ _ _ rfl rfl rfl hr) hD.s ?_; simp only [u11_35, put_eq, List.set_cons_succ, List.set_cons_zero]; clear hT hr; have hT := hD; clear hD X5
        exact hQT _ _ (tu_11t hC hT.t hT.k hQn _ (by simp only [Slots, Fits, and_self]))
      · refine tr_make u11_22 (.slice (some ⟨X2.heap.size, 0, none⟩) 1 1) (X2.alloc (.cells #[.int .i64 p1, .int .i64 r1] 28)) (by kernel_rfl) rfl (by first | exact rfl | trivial) (by simp [go_sem, mkO, u11_22, hu22, hu28]) (hT.made p1 r1).s ?_; simp only [u11_22, put_eq, List.set_cons_succ, List.set_cons_zero]
        replace hT := hT.made p1 r1; generalize X2.alloc (.cells #[.int .i64 p1, .int .i64 r1] 28) = X3 at *; generalize X2.heap.size = z3 at *
        obtain ⟨u2, X4, hr, hD⟩ := hT.app hC 2 (by omega) (z := z2) (u1 := p0) (u2 := r0) (by simp) (by first | omega | (simp [upd]; omega)) 22
        refine tr_make u11_11 u2 X4 (by kernel_rfl) rfl (by first | exact rfl | trivial) (exec_app u11_11 _ _ _ rfl rfl rfl hr) hD.s ?_; simp only [u11_11, put_eq, List.set_cons_succ, List.set_cons_zero]; clear hT hr; have hT := hD; clear hD X3
        refine tr_take u11_36t (.pointer (some ⟨b12, 0, none⟩)) (by kernel_rfl) rfl (by first | exact rfl | trivial) (fun wq hq => ?_) (hT.s) ?_; (focus (simp [go_sem, mkO, u11_36t]; done)); simp only [u11_36t, put_eq, List.set_cons_succ, List.set_cons_zero]
        obtain ⟨u3, X5, hr, hD⟩ := hT.app hC 3 (by omega) (z := z3) (u1 := p1) (u2 := r1) (by simp) (by first | omega | (simp [upd]; omega)) 22
        refine tr_make u11_23 u3 X5 (by kernel_rfl) rfl (by first | exact rfl | trivial) (exec_app u11_23 _ _ _ rfl rfl rfl hr) hD.s ?_; simp only [u11_23, put_eq, List.set_cons_succ, List.set_cons_zero]; clear hT hr; have hT := hD; clear hD X4
        obtain ⟨u4, X6, hr, hD⟩ := hT.app hC 4 (by omega) (z := z4) (u1 := p2) (u2 := r2) (by simp) (by first | omega | (simp [upd]; omega)) 22
        refine tr_make u11_35 u4 X6 (by kernel_rfl) rfl (by first | exact rfl | trivial) (exec_app u11_35 _ _ _ rfl rfl rfl hr) hD.s ?_; simp only [u11_35, put_eq, List.set_cons_succ, List.set_cons_zero]; clear hT hr; have hT := hD; clear hD X5
        exact hQT _ _ (tu_11t hC hT.t hT.k hQn _ (by simp only [Slots, Fits, and_self]))
  · refine tr_make u11_22 (.slice (some ⟨X0.heap.size, 0, none⟩) 1 1) (X0.alloc (.cells #[.int .i64 p1, .int .i64 r1] 28)) (by kernel_rfl) rfl (by first | exact rfl | trivial) (by simp [go_sem, mkO, u11_22, hu22, hu28]) (hT.made p1 r1).s ?_; simp only [u11_22, put_eq, List.set_cons_succ, List.set_cons_zero]
    replace hT := hT.made p1 r1; generalize X0.alloc (.cells #[.int .i64 p1, .int .i64 r1] 28) = X1 at *; generalize X0.heap.size = z3 at *
    refine ⟨?_, ?_⟩
    · refine tr_make u11_10 (.slice (some ⟨X1.heap.size, 0, none⟩) 1 1) (X1.alloc (.cells #[.int .i64 p0, .int .i64 r0] 28)) (by kernel_rfl) rfl (by first | exact rfl | trivial) (by simp [go_sem, mkO, u11_10, hu22, hu28]) (hT.made p0 r0).s ?_; simp only [u11_10, put_eq, List.set_cons_succ, List.set_cons_zero]
      replace hT := hT.made p0 r0; generalize X1.alloc (.cells #[.int .i64 p0, .int .i64 r0] 28) = X2 at *; generalize X1.heap.size = z2 at *
      refine ⟨?_, ?_⟩
      · obtain ⟨u2, X3, hr, hD⟩ := hT.app hC 2 (by omega) (z := z2) (u1 := p0) (u2 := r0) (by simp) (by first | omega | (simp [upd]; omega)) 22
        refine tr_make u11_11 u2 X3 (by kernel_rfl) rfl (by first | exact rfl | trivial) (exec_app u11_11 _ _ _ rfl rfl rfl hr) hD.s ?_; simp only [u11_11, put_eq, List.set_cons_succ, List.set_cons_zero]; clear hT hr; have hT := hD; clear hD X2
        refine tr_take u11_36t (.pointer (some ⟨b12, 0, none⟩)) (by kernel_rfl) rfl (by first | exact rfl | trivial) (fun wq hq => ?_) (hT.s) ?_; (focus (simp [go_sem, mkO, u11_36t]; done)); simp only [u11_36t, put_eq, List.set_cons_succ, List.set_cons_zero]
        refine ⟨?_, ?_⟩
        · obtain ⟨u3, X4, hr, hD⟩ := hT.app hC 3 (by omega) (z := z3) (u1 := p1) (u2 := r1) (by simp) (by first | omega | (simp [upd]; omega)) 22
          refine tr_make u11_23 u3 X4 (by kernel_rfl) rfl (by first | exact rfl | trivial) (exec_app u11_23 _ _ _ rfl rfl rfl hr) hD.s ?_; simp only [u11_23, put_eq, List.set_cons_succ, List.set_cons_zero]; clear hT hr; have hT := hD; clear hD X3
          refine tr_make u11_34 (.slice (some ⟨X4.heap.size, 0, none⟩) 1 1) (X4.alloc (.cells #[.int .i64 p2, .int .i64 r2] 28)) (by kernel_rfl) rfl (by first | exact rfl | trivial) (by simp [go_sem, mkO, u11_34, hu22, hu28]) (hT.made p2 r2).s ?_; simp only [u11_34, put_eq, List.set_cons_succ, List.set_cons_zero]
          replace hT := hT.made p2 r2; generalize X4.alloc (.cells #[.int .i64 p2, .int .i64 r2] 28) = X5 at *; generalize X4.heap.size = z4 at *
          obtain ⟨u4, X6, hr, hD⟩ := hT.app hC 4 (by omega) (z := z4) (u1 := p2) (u2 := r2) (by simp) (by first | omega | (simp [upd]; omega)) 22
          refine tr_make u11_35 u4 X6 (by kernel_rfl) rfl (by first | exact rfl | trivial) (exec_app u11_35 _ _ _ rfl rfl rfl hr) hD.s ?_; simp only [u11_35, put_eq, List.set_cons_succ, List.set_cons_zero]; clear hT hr; have hT := hD; clear hD X5
          exact hQT _ _ (tu_11t hC hT.t hT.k hQn _ (by simp only [Slots, Fits, and_self]))
        · refine tr_make u11_34 (.slice (some ⟨X3.heap.size, 0, none⟩) 1 1) (X3.alloc (.cells #[.int .i64 p2, .int .i64 r2] 28)) (by kernel_rfl) rfl (by first | exact rfl | trivial) (by simp [go_sem, mkO, u11_34, hu22, hu28]) (hT.made p2 r2).s ?_; simp only [u11_34, put_eq, List.set_cons_succ, List.set_cons_zero]
          replace hT := hT.made p2 r2; generalize X3.alloc (.cells #[.int .i64 p2, .int .i64 r2] 28) = X4 at *; generalize X3.heap.size = z4 at *
          obtain ⟨u3, X5, hr, hD⟩ := hT.app hC 3 (by omega) (z := z3) (u1 := p1) (u2 := r1) (by simp) (by first | omega | (simp [upd]; omega)) 22
          refine tr_make u11_23 u3 X5 (by kernel_rfl) rfl (by first | exact rfl | trivial) (exec_app u11_23 _ _ _ rfl rfl rfl hr) hD.s ?_; simp only [u11_23, put_eq, List.set_cons_succ, List.set_cons_zero]; clear hT hr; have hT := hD; clear hD X4
          obtain ⟨u4, X6, hr, hD⟩ := hT.app hC 4 (by omega) (z := z4) (u1 := p2) (u2 := r2) (by simp) (by first | omega | (simp [upd]; omega)) 22
          refine tr_make u11_35 u4 X6 (by kernel_rfl) rfl (by first | exact rfl | trivial) (exec_app u11_35 _ _ _ rfl rfl rfl hr) hD.s ?_; simp only [u11_35, put_eq, List.set_cons_succ, List.set_cons_zero]; clear hT hr; have hT := hD; clear hD X5
          exact hQT _ _ (tu_11t hC hT.t hT.k hQn _ (by simp only [Slots, Fits, and_self]))
      · refine tr_make u11_34 (.slice (some ⟨X2.heap.size, 0, none⟩) 1 1) (X2.alloc (.cells #[.int .i64 p2, .int .i64 r2] 28)) (by kernel_rfl) rfl (by first | exact rfl | trivial) (by simp [go_sem, mkO, u11_34, hu22, hu28]) (hT.made p2 r2).s ?_; simp only [u11_34, put_eq, List.set_cons_succ, List.set_cons_zero]
        replace hT := hT.made p2 r2; generalize X2.alloc (.cells #[.int .i64 p2, .int .i64 r2] 28) = X3 at *; generalize X2.heap.size = z4 at *
        obtain ⟨u2, X4, hr, hD⟩ := hT.app hC 2 (by omega) (z := z2) (u1 := p0) (u2 := r0) (by simp) (by first | omega | (simp [upd]; omega)) 22
        refine tr_make u11_11 u2 X4 (by kernel_rfl) rfl (by first | exact rfl | trivial) (exec_app u11_11 _ _ _ rfl rfl rfl hr) hD.s ?_; simp only [u11_11, put_eq, List.set_cons_succ, List.set_cons_zero]; clear hT hr; have hT := hD; clear hD X3
        refine tr_take u11_36t (.pointer (some ⟨b12, 0, none⟩)) (by kernel_rfl) rfl (by first | exact rfl | trivial) (fun wq hq => ?_) (hT.s) ?_; (focus (simp [go_sem, mkO, u11_36t]; done)); simp only [u11_36t, put_eq, List.set_cons_succ, List.set_cons_zero]
        obtain ⟨u3, X5, hr, hD⟩ := hT.app hC 3 (by omega) (z := z3) (u1 := p1) (u2 := r1) (by simp) (by first | omega | (simp [upd]; omega)) 22
        refine tr_make u11_23 u3 X5 (by kernel_rfl) rfl (by first | exact rfl | trivial) (exec_app u11_23 _ _ _ rfl rfl rfl hr) hD.s ?_; simp only [u11_23, put_eq, List.set_cons_succ, List.set_cons_zero]; clear hT hr; have hT := hD; clear hD X4
        obtain ⟨u4, X6, hr, hD⟩ := hT.app hC 4 (by omega) (z := z4) (u1 := p2) (u2 := r2) (by simp) (by first | omega | (simp [upd]; omega)) 22
        refine tr_make u11_35 u4 X6 (by kernel_rfl) rfl (by first | exact rfl | trivial) (exec_app u11_35 _ _ _ rfl rfl rfl hr) hD.s ?_; simp only [u11_35, put_eq, List.set_cons_succ, List.set_cons_zero]; clear hT hr; have hT := hD; clear hD X5
        exact hQT _ _ (tu_11t hC hT.t hT.k hQn _ (by simp only [Slots, Fits, and_self]))
    · refine tr_make u11_34 (.slice (some ⟨X1.heap.size, 0, none⟩) 1 1) (X1.alloc (.cells #[.int .i64 p2, .int .i64 r2] 28)) (by kernel_rfl) rfl (by first | exact rfl | trivial) (by simp [go_sem, mkO, u11_34, hu22, hu28]) (hT.made p2 r2).s ?_; simp only [u11_34, put_eq, List.set_cons_succ, List.set_cons_zero]
      replace hT := hT.made p2 r2; generalize X1.alloc (.cells #[.int .i64 p2, .int .i64 r2] 28) = X2 at *; generalize X1.heap.size = z4 at *
      refine tr_make u11_10 (.slice (some ⟨X2.heap.size, 0, none⟩) 1 1) (X2.alloc (.cells #[.int .i64 p0, .int .i64 r0] 28)) (by kernel_rfl) rfl (by first | exact rfl | trivial) (by simp [go_sem, mkO, u11_10, hu22, hu28]) (hT.made p0 r0).s ?_; simp only [u11_10, put_eq, List.set_cons_succ, List.set_cons_zero]
      replace hT := hT.made p0 r0; generalize X2.alloc (.cells #[.int .i64 p0, .int .i64 r0] 28) = X3 at *; generalize X2.heap.size = z2 at *
      obtain ⟨u2, X4, hr, hD⟩ := hT.app hC 2 (by omega) (z := z2) (u1 := p0) (u2 := r0) (by simp) (by first | omega | (simp [upd]; omega)) 22
      refine tr_make u11_11 u2 X4 (by kernel_rfl) rfl (by first | exact rfl | trivial) (exec_app u11_11 _ _ _ rfl rfl rfl hr) hD.s ?_; simp only [u11_11, put_eq, List.set_cons_succ, List.set_cons_zero]; clear hT hr; have hT := hD; clear hD X3
      refine tr_take u11_36t (.pointer (some ⟨b12, 0, none⟩)) (by kernel_rfl) rfl (by first | exact rfl | trivial) (fun wq hq => ?_) (hT.s) ?_; (focus (simp [go_sem, mkO, u11_36t]; done)); simp only [u11_36t, put_eq, List.set_cons_succ, List.set_cons_zero]
      obtain ⟨u3, X5, hr, hD⟩ := hT.app hC 3 (by omega) (z := z3) (u1 := p1) (u2 := r1) (by simp) (by first | omega | (simp [upd]; omega)) 22
      refine tr_make u11_23 u3 X5 (by kernel_rfl) rfl (by first | exact rfl | trivial) (exec_app u11_23 _ _ _ rfl rfl rfl hr) hD.s ?_; simp only [u11_23, put_eq, List.set_cons_succ, List.set_cons_zero]; clear hT hr; have hT := hD; clear hD X4
      obtain ⟨u4, X6, hr, hD⟩ := hT.app hC 4 (by omega) (z := z4) (u1 := p2) (u2 := r2) (by simp) (by first | omega | (simp [upd]; omega)) 22
      refine tr_make u11_35 u4 X6 (by kernel_rfl) rfl (by first | exact rfl | trivial) (exec_app u11_35 _ _ _ rfl rfl rfl hr) hD.s ?_; simp only [u11_35, put_eq, List.set_cons_succ, List.set_cons_zero]; clear hT hr; have hT := hD; clear hD X5
      exact hQT _ _ (tu_11t hC hT.t hT.k hQn _ (by simp only [Slots, Fits, and_self]))
  · refine tr_make u11_34 (.slice (some ⟨X0.heap.size, 0, none⟩) 1 1) (X0.alloc (.cells #[.int .i64 p2, .int .i64 r2] 28)) (by kernel_rfl) rfl (by first | exact rfl | trivial) (by simp [go_sem, mkO, u11_34, hu22, hu28]) (hT.made p2 r2).s ?_; simp only [u11_34, put_eq, List.set_cons_succ, List.set_cons_zero]
    replace hT := hT.made p2 r2; generalize X0.alloc (.cells #[.int .i64 p2, .int .i64 r2] 28) = X1 at *; generalize X0.heap.size = z4 at *
    refine ⟨?_, ?_⟩
    · refine tr_make u11_10 (.slice (some ⟨X1.heap.size, 0, none⟩) 1 1) (X1.alloc (.cells #[.int .i64 p0, .int .i64 r0] 28)) (by kernel_rfl) rfl (by first | exact rfl | trivial) (by simp [go_sem, mkO, u11_10, hu22, hu28]) (hT.made p0 r0).s ?_; simp only [u11_10, put_eq, List.set_cons_succ, List.set_cons_zero]
      replace hT := hT.made p0 r0; generalize X1.alloc (.cells #[.int .i64 p0, .int .i64 r0] 28) = X2 at *; generalize X1.heap.size = z2 at *
      refine ⟨?_, ?_⟩
      · obtain ⟨u2, X3, hr, hD⟩ := hT.app hC 2 (by omega) (z := z2) (u1 := p0) (u2 := r0) (by simp) (by first | omega | (simp [upd]; omega)) 22
        refine tr_make u11_11 u2 X3 (by kernel_rfl) rfl (by first | exact rfl | trivial) (exec_app u11_11 _ _ _ rfl rfl rfl hr) hD.s ?_; simp only [u11_11, put_eq, List.set_cons_succ, List.set_cons_zero]; clear hT hr; have hT := hD; clear hD X2
        refine tr_take u11_36t (.pointer (some ⟨b12, 0, none⟩)) (by kernel_rfl) rfl (by first | exact rfl | trivial) (fun wq hq => ?_) (hT.s) ?_; (focus (simp [go_sem, mkO, u11_36t]; done)); simp only [u11_36t, put_eq, List.set_cons_succ, List.set_cons_zero]
        refine tr_make u11_22 (.slice (some ⟨X3.heap.size, 0, none⟩) 1 1) (X3.alloc (.cells #[.int .i64 p1, .int .i64 r1] 28)) (by kernel_rfl) rfl (by first | exact rfl | trivial) (by simp [go_sem, mkO, u11_22, hu22, hu28]) (hT.made p1 r1).s ?_; simp only [u11_22, put_eq, List.set_cons_succ, List.set_cons_zero]
        replace hT := hT.made p1 r1; generalize X3.alloc (.cells #[.int .i64 p1, .int .i64 r1] 28) = X4 at *; generalize X3.heap.size = z3 at *
        obtain ⟨u3, X5, hr, hD⟩ := hT.app hC 3 (by omega) (z := z3) (u1 := p1) (u2 := r1) (by simp) (by first | omega | (simp [upd]; omega)) 22
        refine tr_make u11_23 u3 X5 (by kernel_rfl) rfl (by first | exact rfl | trivial) (exec_app u11_23 _ _ _ rfl rfl rfl hr) hD.s ?_; simp only [u11_23, put_eq, List.set_cons_succ, List.set_cons_zero]; clear hT hr; have hT := hD; clear hD X4
        obtain ⟨u4, X6, hr, hD⟩ := hT.app hC 4 (by omega) (z := z4) (u1 := p2) (u2 := r2) (by simp) (by first | omega | (simp [upd]; omega)) 22
        refine tr_make u11_35 u4 X6 (by kernel_rfl) rfl (by first | exact rfl | trivial) (exec_app u11_35 _ _ _ rfl rfl rfl hr) hD.s ?_; simp only [u11_35, put_eq, List.set_cons_succ, List.set_cons_zero]; clear hT hr; have hT := hD; clear hD X5
        exact hQT _ _ (tu_11t hC hT.t hT.k hQn _ (by simp only [Slots, Fits, and_self]))
      · refine tr_make u11_22 (.slice (some ⟨X2.heap.size, 0, none⟩) 1 1) (X2.alloc (.cells #[.int .i64 p1, .int .i64 r1] 28)) (by kernel_rfl) rfl (by first | exact rfl | trivial) (by simp [go_sem, mkO, u11_22, hu22, hu28]) (hT.made p1 r1).s ?_; simp only [u11_22, put_eq, List.set_cons_succ, List.set_cons_zero]
        replace hT := hT.made p1 r1; generalize X2.alloc (.cells #[.int .i64 p1, .int .i64 r1] 28) = X3 at *; generalize X2.heap.size = z3 at *
        obtain ⟨u2, X4, hr, hD⟩ := hT.app hC 2 (by omega) (z := z2) (u1 := p0) (u2 := r0) (by simp) (by first | omega | (simp [upd]; omega)) 22
        refine tr_make u11_11 u2 X4 (by kernel_rfl) rfl (by first | exact rfl | trivial) (exec_app u11_11 _ _ _ rfl rfl rfl hr) hD.s ?_; simp only [u11_11, put_eq, List.set_cons_succ, List.set_cons_zero]; clear hT hr; have hT := hD; clear hD X3
        refine tr_take u11_36t (.pointer (some ⟨b12, 0, none⟩)) (by kernel_rfl) rfl (by first | exact rfl | trivial) (fun wq hq => ?_) (hT.s) ?_; (focus (simp [go_sem, mkO, u11_36t]; done)); simp only [u11_36t, put_eq, List.set_cons_succ, List.set_cons_zero]
        obtain ⟨u3, X5, hr, hD⟩ := hT.app hC 3 (by omega) (z := z3) (u1 := p1) (u2 := r1) (by simp) (by first | omega | (simp [upd]; omega)) 22
        refine tr_make u11_23 u3 X5 (by kernel_rfl) rfl (by first | exact rfl | trivial) (exec_app u11_23 _ _ _ rfl rfl rfl hr) hD.s ?_; simp only [u11_23, put_eq, List.set_cons_succ, List.set_cons_zero]; clear hT hr; have hT := hD; clear hD X4
        obtain ⟨u4, X6, hr, hD⟩ := hT.app hC 4 (by omega) (z := z4) (u1 := p2) (u2 := r2) (by simp) (by first | omega | (simp [upd]; omega)) 22
        refine tr_make u11_35 u4 X6 (by kernel_rfl) rfl (by first | exact rfl | trivial) (exec_app u11_35 _ _ _ rfl rfl rfl hr) hD.s ?_; simp only [u11_35, put_eq, List.set_cons_succ, List.set_cons_zero]; clear hT hr; have hT := hD; clear hD X5
        exact hQT _ _ (tu_11t hC hT.t hT.k hQn _ (by simp only [Slots, Fits, and_self]))
    · refine tr_make u11_22 (.slice (some ⟨X1.heap.size, 0, none⟩) 1 1) (X1.alloc (.cells #[.int .i64 p1, .int .i64 r1] 28)) (by kernel_rfl) rfl (by first | exact rfl | trivial) (by simp [go_sem, mkO, u11_22, hu22, hu28]) (hT.made p1 r1).s ?_; simp only [u11_22, put_eq, List.set_cons_succ, List.set_cons_zero]
      replace hT := hT.made p1 r1; generalize X1.alloc (.cells #[.int .i64 p1, .int .i64 r1] 28) = X2 at *; generalize X1.heap.size = z3 at *
      refine tr_make u11_10 (.slice (some ⟨X2.heap.size, 0, none⟩) 1 1) (X2.alloc (.cells #[.int .i64 p0, .int .i64 r0] 28)) (by kernel_rfl) rfl (by first | exact rfl | trivial) (by simp [go_sem, mkO, u11_10, hu22, hu28]) (hT.made p0 r0).s ?_; simp only [u11_10, put_eq, List.set_cons_succ, List.set_cons_zero]
      replace hT := hT.made p0 r0; generalize X2.alloc (.cells #[.int .i64 p0, .int .i64 r0] 28) = X3 at *; generalize X2.heap.size = z2 at *
      obtain ⟨u2, X4, hr, hD⟩ := hT.app hC 2 (by omega) (z := z2) (u1 := p0) (u2 := r0) (by simp) (by first | omega | (simp [upd]; omega)) 22
      refine tr_make u11_11 u2 X4 (by kernel_rfl) rfl (by first | exact rfl | trivial) (exec_app u11_11 _ _ _ rfl rfl rfl hr) hD.s ?_; simp only [u11_11, put_eq, List.set_cons_succ, List.set_cons_zero]; clear hT hr; have hT := hD; clear hD X3
      refine tr_take u11_36t (.pointer (some ⟨b12, 0, none⟩)) (by kernel_rfl) rfl (by first | exact rfl | trivial) (fun wq hq => ?_) (hT.s) ?_; (focus (simp [go_sem, mkO, u11_36t]; done)); simp only [u11_36t, put_eq, List.set_cons_succ, List.set_cons_zero]
      obtain ⟨u3, X5, hr, hD⟩ := hT.app hC 3 (by omega) (z := z3) (u1 := p1) (u2 := r1) (by simp) (by first | omega | (simp [upd]; omega)) 22
      refine tr_make u11_23 u3 X5 (by kernel_rfl) rfl (by first | exact rfl | trivial) (exec_app u11_23 _ _ _ rfl rfl rfl hr) hD.s ?_; simp only [u11_23, put_eq, List.set_cons_succ, List.set_cons_zero]; clear hT hr; have hT := hD; clear hD X4
      obtain ⟨u4, X6, hr, hD⟩ := hT.app hC 4 (by omega) (z := z4) (u1 := p2) (u2 := r2) (by simp) (by first | omega | (simp [upd]; omega)) 22
      refine tr_make u11_35 u4 X6 (by kernel_rfl) rfl (by first | exact rfl | trivial) (exec_app u11_35 _ _ _ rfl rfl rfl hr) hD.s ?_; simp only [u11_35, put_eq, List.set_cons_succ, List.set_cons_zero]; clear hT hr; have hT := hD; clear hD X5
      exact hQT _ _ (tu_11t hC hT.t hT.k hQn _ (by simp only [Slots, Fits, and_self]))
end Go.Proofs.Ytafmgmaelnpehaa
end

section
set_option linter.unusedVariables false
set_option linter.unusedSimpArgs false
namespace Go.Proofs.Ytafmgmaelnpehaa
open Go.RowKit Go.TL Go.Shelf Go.Fu
attribute [local go_sem] Oper.semAt_some
open PFurrowAsks Go.Proofs.YtafmgmaelnpehaaW.PrintWords
/-- How far station k is moved. -/
def farK (by_ st_ : Int) (k : Nat) : Int := Int.tmod by_ 10 + (k : Int) * Int.tmod st_ 4
def lxs (F : Fur) (by_ st_ : Int) (k : Nat) : Nat → List S28
  | 0 => (List.range k).map fun (i : Nat) => ⟨(rd_T28 F.l0 (i : Int)).f0 + farK by_ st_ i, (rd_T28 F.l0 (i : Int)).f1 + farK by_ st_ i⟩
  | 1 => (List.range k).map fun (i : Nat) => ⟨-(rd_T28 F.l0 (i : Int)).f1, -(rd_T28 F.l0 (i : Int)).f0⟩
  | 2 => (List.range k).map fun (i : Nat) => rd_T28 F.l0 ((F.l0.length - 1 - i : Nat) : Int)
  | 3 => (List.range k).map fun (i : Nat) => rd_T28 F.l1 ((F.l0.length - 1 - i : Nat) : Int)
  | _ => (List.range k).map fun (i : Nat) => rd_T28 F.l2 ((F.l0.length - 1 - i : Nat) : Int)
theorem lxs_len (F : Fur) (by_ st_ : Int) (k q : Nat) : (lxs F by_ st_ k q).length = k := by
  match q with
  | 0 => simp [lxs]
  | 1 => simp [lxs]
  | 2 => simp [lxs]
  | 3 => simp [lxs]
  | q + 4 => simp [lxs]
theorem tmod_in (b n : Int) (hn : 0 < n) : -n < Int.tmod b n ∧ Int.tmod b n < n := by
  rcases Int.le_total 0 b with h | h
  · rw [Int.tmod_eq_emod_of_nonneg h]
    have := Int.emod_nonneg b (show n ≠ 0 by omega)
    have := Int.emod_lt_of_pos b hn
    omega
  · have e : Int.tmod b n = - Int.tmod (-b) n := by rw [Int.neg_tmod, Int.neg_neg]
    rw [e, Int.tmod_eq_emod_of_nonneg (by omega)]
    have := Int.emod_nonneg (-b) (show n ≠ 0 by omega)
    have := Int.emod_lt_of_pos (-b) hn
    omega
theorem farK_bd {by_ st_ : Int} {k : Nat} (hk : k < 8) : -100 ≤ (k : Int) * Int.tmod st_ 4 ∧ (k : Int) * Int.tmod st_ 4 ≤ 80 ∧ -100 ≤ farK by_ st_ k ∧ farK by_ st_ k ≤ 100 := by
  have a := tmod_in by_ 10 (by omega)
  have b := tmod_in st_ 4 (by omega)
  unfold farK
  generalize Int.tmod by_ 10 = p at *
  generalize Int.tmod st_ 4 = q at *
  have : q = -3 ∨ q = -2 ∨ q = -1 ∨ q = 0 ∨ q = 1 ∨ q = 2 ∨ q = 3 := by omega
  rcases this with rfl | rfl | rfl | rfl | rfl | rfl | rfl <;> omega
theorem RowsQ.congr {W : World} {B m : Nat} {v : Nat → Value} {l l' : Nat → List S28} (h : RowsQ W B m v l) (hl : ∀ q, q < m → l q = l' q) : RowsQ W B m v l' := ⟨fun q hq => by rw [← hl q hq]; exact h.own q hq, h.ne⟩
def NgI (F : Fur) (w : World) (b4 b9 b10 b11 b12 B : Nat) (most by_ st_ : Int) (j : Nat) (t : Array Value) (W : World) : Prop :=
  ∃ (k : Nat) (v : Nat → Value), k ≤ F.l0.length ∧ j = F.l0.length - k ∧ TuS F w b4 b9 b10 b11 b12 B (v 0) (v 1) (v 2) (v 3) (v 4) v (lxs F by_ st_ k) W ∧ Slots (none :: some (.int .i64 most) :: some (.int .i8 by_) :: some (.int .i8 st_) :: some (.pointer (some ⟨b4, 0, none⟩)) :: o4 (some (.pointer (some ⟨b9, 0, none⟩)) :: some (.pointer (some ⟨b10, 0, none⟩)) :: some (.pointer (some ⟨b11, 0, none⟩)) :: some (.pointer (some ⟨b12, 0, none⟩)) :: none :: o4 (o16 (o16 (o16 (some (.slice F.A0 F.l0.length F.c0) :: some (.int .i64 ((F.l0.length : Nat) : Int)) :: some (.int .i64 ((k : Nat) : Int)) :: none :: o4 (o4 (o16 (o16 (o16 (o64 (o64 (o64 (o64 [])))))))))))))) t
def NgM (F : Fur) (w : World) (b4 b9 b10 b11 b12 B : Nat) (most by_ st_ : Int) (k : Nat) (t : Array Value) (W : World) : Prop :=
  ∃ v : Nat → Value, TuS F w b4 b9 b10 b11 b12 B (v 0) (v 1) (v 2) (v 3) (v 4) v (lxs F by_ st_ (k + 1)) W ∧ Slots (none :: some (.int .i64 most) :: some (.int .i8 by_) :: some (.int .i8 st_) :: some (.pointer (some ⟨b4, 0, none⟩)) :: o4 (some (.pointer (some ⟨b9, 0, none⟩)) :: some (.pointer (some ⟨b10, 0, none⟩)) :: some (.pointer (some ⟨b11, 0, none⟩)) :: some (.pointer (some ⟨b12, 0, none⟩)) :: none :: o4 (o16 (o16 (o16 (some (.slice F.A0 F.l0.length F.c0) :: some (.int .i64 ((F.l0.length : Nat) : Int)) :: some (.int .i64 ((k : Nat) : Int)) :: none :: o4 (o4 (o16 (o16 (o16 (o64 (o64 (o64 (o64 [])))))))))))))) t
set_option maxRecDepth 100000 in
set_option maxHeartbeats 4000000 in
theorem ng_loop {F : Fur} {w : World} {b4 b9 b10 b11 b12 B : Nat} {most by_ st_ : Int} {V : World} (hC : TuC w b4 b9 b10 b11 b12 B) (h : F.At w) (hv : F.va = true) (hby : -128 ≤ by_ ∧ by_ ≤ 127) (hst : -128 ≤ st_ ∧ st_ ≤ 127) {v0 : Nat → Value} (hT : TuS F w b4 b9 b10 b11 b12 B (v0 0) (v0 1) (v0 2) (v0 3) (v0 4) v0 (lxs F by_ st_ 0) V) (t : Array Value) (hSl : Slots (none :: some (.int .i64 most) :: some (.int .i8 by_) :: some (.int .i8 st_) :: some (.pointer (some ⟨b4, 0, none⟩)) :: o4 (some (.pointer (some ⟨b9, 0, none⟩)) :: some (.pointer (some ⟨b10, 0, none⟩)) :: some (.pointer (some ⟨b11, 0, none⟩)) :: some (.pointer (some ⟨b12, 0, none⟩)) :: none :: o4 (o16 (o16 (o16 (some (.slice F.A0 F.l0.length F.c0) :: some (.int .i64 ((F.l0.length : Nat) : Int)) :: some (.int .i64 0) :: none :: o4 (o4 (o16 (o16 (o16 (o64 (o64 (o64 (o64 [])))))))))))))) t) :
    Exec Try.prog none (sub (Try.f11.body.getD .skip) [1, 1, 1, 1, 1, 0, 1]) t V (andThen (fun t' W' => ∃ v : Nat → Value, TuS F w b4 b9 b10 b11 b12 B (v 0) (v 1) (v 2) (v 3) (v 4) v (lxs F by_ st_ F.l0.length) W' ∧ Slots (none :: some (.int .i64 most) :: some (.int .i8 by_) :: some (.int .i8 st_) :: some (.pointer (some ⟨b4, 0, none⟩)) :: o4 (some (.pointer (some ⟨b9, 0, none⟩)) :: some (.pointer (some ⟨b10, 0, none⟩)) :: some (.pointer (some ⟨b11, 0, none⟩)) :: some (.pointer (some ⟨b12, 0, none⟩)) :: none :: o16 (o16 (o16 (o64 (o64 (o64 (o64 (o64 []))))))))) t') fun _ _ _ => False) := by
  obtain ⟨h8, n1, n2, hok⟩ := valid_lens hv
  have hu22 := Try.underlying22
  have hu28 := Try.underlying28
  refine exec_block ?_
  refine exec_loop (NgI F w b4 b9 b10 b11 b12 B most by_ st_) F.l0.length ⟨0, v0, by omega, by omega, hT, by simpa using hSl⟩ ?_
  clear hSl t hT
  clear V
  rintro j t W ⟨k, v, hk, hj, hT, hSl⟩
  obtain ⟨x, hx⟩ := Slots.open_ hSl; simp only [fill, Nat.reduceAdd] at hx; subst hx; clear hSl
  refine exec_seq (exec_region_o fun ds => ?_)
  gi_wp2
  refine eq_mk (Keep.refl _) ?_
  show Exec _ _ _ _ _ _
  refine exec_seq (exec_cond (b := decide (k < F.l0.length)) rfl (fun hp => ?_) (fun hp => ?_))
  · have hkl : k < F.l0.length := of_decide_eq_true hp
    refine exec_skip ?_
    show Exec _ _ _ _ _ _
    refine exec_cut (NgM F w b4 b9 b10 b11 b12 B most by_ st_ k) ?_ ?_
    · obtain ⟨a0, ea0, d0, d1⟩ := at_T28 (h.below hT.below).r0 (k : Int) (by omega) (by omega)
      simp only [ea0]
      have hw66 : Value.slice F.A0 F.l0.length F.c0 = .slice (some a0) F.l0.length F.c0 := by rw [ea0]
      simp only [Int.toNat_natCast] at d0 d1
      have hso := hok k hkl
      unfold stOk at hso
      simp only [Bool.and_eq_true, decide_eq_true_eq] at hso
      obtain ⟨lo, hlo⟩ : ∃ x, (rd_T28 F.l0 (k : Int)).f0 = x := ⟨_, rfl⟩
      obtain ⟨hi, hhi⟩ : ∃ x, (rd_T28 F.l0 (k : Int)).f1 = x := ⟨_, rfl⟩
      rw [hlo] at d0
      rw [hhi] at d1
      have hbd : -100 ≤ lo ∧ lo ≤ 100 ∧ -100 ≤ hi ∧ hi ≤ 100 := by omega
      clear hso
      have hkI : (k : Int) < F.l0.length := by omega
      refine exec_block (exec_seq (exec_region_o fun ds => ?_))
      gi_wp2
      refine eq_mk ((Keep.refl _).alloc _) ?_
      show Exec _ _ _ _ _ _
      have hB := TuB.new hT lo hi
      replace hT := hT.alloc (.cells #[.int .i64 lo, .int .i64 hi] 28)
      clear d0 d1
      generalize W.alloc (.cells #[.int .i64 lo, .int .i64 hi] 28) = X at *
      generalize W.heap.size = b14 at *
      clear W
      have hfb := farK_bd (by_ := by_) (st_ := st_) (k := k) (by omega)
      have hb1 := tmod_in by_ 10 (by omega)
      have e1 : IntKind.i64.wrap by_ = by_ := IntWalk.i64_in _ (by omega)
      have e2 : IntKind.i64.wrap st_ = st_ := IntWalk.i64_in _ (by omega)
      have e3 : IntKind.i64.wrap ((k : Int) * Int.tmod st_ 4) = (k : Int) * Int.tmod st_ 4 := IntWalk.i64_in _ (by omega)
      have e4 : IntKind.i64.wrap (Int.tmod by_ 10 + (k : Int) * Int.tmod st_ 4) = farK by_ st_ k := IntWalk.i64_in _ (by omega)
      refine exec_seq (exec_region_o fun ds => ?_)
      gi_wp2
      refine eq_mk (Keep.refl _) ?_
      show Exec _ _ _ _ _ _
      clear e1 e2 e3 e4
      refine exec_seq ((tu_10 (most := most) (by_ := by_) (st_ := st_) (k := k) (fr := farK by_ st_ k) (w66 := .slice (some a0) F.l0.length F.c0) hC hT hB (by rw [lxs_len]; omega) (by rw [lxs_len]; omega) hbd hfb.2.2 _ (by simp only [Slots, Fits, and_self])).mono ?_)
      intro e t' Y hh
      obtain ⟨rfl, u0, u1, hT2, hSl⟩ := only_normal hh
      clear hh hT hB x
      obtain ⟨x, hx⟩ := Slots.open_ hSl; simp only [fill, Nat.reduceAdd] at hx; subst hx; clear hSl
      show Exec _ _ _ _ _ _
      refine (tu_11 (most := most) (by_ := by_) (st_ := st_) (k := k) (v := upd (upd v 0 u0) 1 u1) (fr := farK by_ st_ k) (b14 := b14) (w66 := .slice (some a0) F.l0.length F.c0) hC hT2 h hv hkl (by simp [upd, lxs_len]; omega) (by simp [upd, lxs_len]; omega) (by simp [upd, lxs_len]; omega) _ (by simp only [Slots, Fits, and_self])).mono ?_
      intro e t' Z hh
      obtain ⟨rfl, u2, u3, u4, hT3, hSl⟩ := only_normal hh
      clear hh hT2 x
      refine ⟨upd (upd (upd (upd (upd v 0 u0) 1 u1) 2 u2) 3 u3) 4 u4, ⟨hT3.below, hT3.f, hT3.n, hT3.x, hT3.y, hT3.z, hT3.own.congr fun q hq => ?_, hT3.sz⟩, ?_⟩
      · match q, hq with
        | 0, _ => simp [upd, lxs, List.range_succ, hlo, hhi]
        | 1, _ => simp [upd, lxs, List.range_succ, hlo, hhi]
        | 2, _ => simp [upd, lxs, List.range_succ]
        | 3, _ => simp [upd, lxs, List.range_succ]
        | 4, _ => simp [upd, lxs, List.range_succ]
      · rw [hw66]
        obtain ⟨x, hx⟩ := Slots.open_ hSl; simp only [fill, Nat.reduceAdd] at hx; subst hx; clear hSl
        exact (by simp only [Slots, Fits, and_self])
    · clear hT
      rintro t' W' ⟨v, hT, hSl⟩
      clear x
      obtain ⟨x, hx⟩ := Slots.open_ hSl; simp only [fill, Nat.reduceAdd] at hx; subst hx; clear hSl
      have hw : IntKind.i64.wrap ((k : Int) + 1) = ((k + 1 : Nat) : Int) := by rw [IntWalk.i64_in _ (by omega)]; norm_cast
      refine exec_region_o fun ds => ?_
      gi_wp2
      exact eq_mk (Keep.refl _) ⟨j - 1, by omega, k + 1, v, by omega, by omega, hT, by simp only [Slots, Fits, and_self]; simp⟩
  · have hkl : k = F.l0.length := by have := of_decide_eq_false hp; omega
    subst hkl
    refine exec_exit ?_
    exact Exists.intro v ⟨hT, (by simp only [Slots, Fits, and_self])⟩
end Go.Proofs.Ytafmgmaelnpehaa
end

section
set_option linter.unusedVariables false
set_option linter.unusedSimpArgs false
namespace Go.Proofs.Ytafmgmaelnpehaa
open Go.RowKit Go.TL Go.Fu
open PFurrowAsks Go.Proofs.YtafmgmaelnpehaaW.PrintWords
/-- What the statement asks of the furrow with number ii, if it is valid. -/
structure Told (F Q : Fur) (ii : Nat) (most : Int) : Prop where
  len : Q.l0.length = F.l0.length
  bend : bendV Q.va Q.pl = bendV F.va F.pl
  soil : soilV Q.va Q = soilV F.va F
  worst : ii ≠ 2 → worstV Q.va Q.pl = worstV F.va F.pl
  worst2 : ii = 2 → revN F.l0.length (setN (worstS Q.pl) (F.l0.length - 1)) = setN (worstS F.pl) (F.l0.length - 1) ∧ revN F.l0.length (setN (worstC Q.pl) (F.l0.length - 1)) = setN (worstC F.pl) (F.l0.length - 1)
  least : leastN Q.pl = leastN F.pl
  wrong1 : ii = 1 → 0 ≤ most → ∀ r r', IsWrong F.pl most r → IsWrong Q.pl most r' → r' = r
  wrong2 : ii = 2 → 0 ≤ most → ∀ r r', IsWrong F.pl most r → IsWrong Q.pl most r' → ones 8 r' = ones 8 r
  at_ : ∀ s, s < F.l0.length → atV Q.va Q.pl (if ii = 2 then ((F.l0.length - 1 - s : Nat) : Int) else (s : Int)) = atV F.va F.pl (s : Int)
section
variable {F Q : Fur} {σ : Nat → Nat}
theorem atV_in {l : List (Int × Int)} {s : Nat} : atV true l (s : Int) = if 1 ≤ s ∧ s + 1 < l.length then (atF l s, 0) else ((0, 0), 2) := by
  unfold atV
  rw [if_pos rfl, Int.toNat_natCast]
  by_cases h : 1 ≤ s ∧ s + 1 < l.length
  · rw [if_pos h, if_pos ⟨by omega, by omega⟩]
  · rw [if_neg h, if_neg (by omega)]
theorem alike_bend (hv : F.va = true) (hq : Q.va = true) (h : Alike F.pl Q.pl σ) : bendV Q.va Q.pl = bendV F.va F.pl := by
  unfold bendV
  rw [hv, hq, if_pos rfl, if_pos rfl, h.least (Fur.okS hv) (Fur.okS hq), h.hi (Fur.okS hv) (Fur.okS hq)]
theorem alike_worst (hv : F.va = true) (hq : Q.va = true) (h : Alike F.pl Q.pl id) : worstV Q.va Q.pl = worstV F.va F.pl := by
  have h8 := Fur.le8 hv
  have pl := F.pl_len
  have hS : setN (worstS Q.pl) (F.pl.length - 1) = setN (worstS F.pl) (F.pl.length - 1) := setN_congr fun i hi => by
    by_cases h1 : 1 ≤ i
    · exact h.worstS (Fur.okS hv) (Fur.okS hq) h1 (by omega)
    · unfold worstS
      rw [decide_eq_false h1]
      rfl
  have hC : setN (worstC Q.pl) (F.pl.length - 1) = setN (worstC F.pl) (F.pl.length - 1) := setN_congr fun i hi => by
    by_cases h1 : 1 ≤ i
    · exact h.worstC (Fur.okS hv) (Fur.okS hq) h1 (by omega)
    · unfold worstC
      rw [decide_eq_false h1]
      rfl
  unfold worstV
  rw [hv, hq, if_pos rfl, if_pos rfl, h.len, shM_set _ _ (by omega), shM_set _ _ (by omega), shM_set _ _ (by omega), shM_set _ _ (by omega), hS, hC]
theorem alike_at (hv : F.va = true) (hq : Q.va = true) (h : Alike F.pl Q.pl id) (s : Nat) : atV Q.va Q.pl (s : Int) = atV F.va F.pl (s : Int) := by
  rw [hv, hq, atV_in, atV_in, h.len]
  by_cases hc : 1 ≤ s ∧ s + 1 < F.pl.length
  · rw [if_pos hc, if_pos hc, h.at (Fur.okS hv) (Fur.okS hq) hc.1 hc.2]
    rfl
  · rw [if_neg hc, if_neg hc]
theorem soil_same (hv : F.va = true) (hq : Q.va = true) (e1 : Q.l1 = F.l1) (e2 : Q.l2 = F.l2) : soilV Q.va Q = soilV F.va F := by
  unfold soilV
  have e : Q.soil = F.soil := by
    funext k
    unfold Fur.soil Fur.d Fur.wd
    rw [e1, e2]
  rw [hv, hq, if_pos rfl, if_pos rfl, e, e2]
/-- Sums from the other end. -/
def sumI (y : Nat → Int) : Nat → Int
  | 0 => 0
  | n + 1 => sumI y n + y n
theorem sumI_head (y : Nat → Int) : ∀ n, sumI y (n + 1) = y 0 + sumI (fun k => y (k + 1)) n
  | 0 => by simp [sumI]
  | n + 1 => by
    have := sumI_head y n
    show sumI y (n + 1) + y (n + 1) = y 0 + (sumI (fun k => y (k + 1)) n + y (n + 1))
    omega
theorem sumI_congr {y z : Nat → Int} : ∀ n, (∀ k, k < n → y k = z k) → sumI y n = sumI z n
  | 0, _ => rfl
  | n + 1, h => by
    unfold sumI
    rw [sumI_congr n (fun k hk => h k (by omega)), h n (by omega)]
theorem sumI_rev (y : Nat → Int) : ∀ n, sumI (fun k => y (n - 1 - k)) n = sumI y n
  | 0 => rfl
  | n + 1 => by
    rw [sumI_head]
    have e : sumI (fun k => y (n + 1 - 1 - (k + 1))) n = sumI (fun k => y (n - 1 - k)) n := sumI_congr n fun k hk => by rw [show n + 1 - 1 - (k + 1) = n - 1 - k by omega]
    have r := sumI_rev y n
    show y (n + 1 - 1 - 0) + sumI (fun k => y (n + 1 - 1 - (k + 1))) n = sumI y n + y n
    rw [e, r, show n + 1 - 1 - 0 = n by omega]
    omega
theorem sumL_I (y : Nat → Int × Int) (n : Nat) : ∀ m, m ≤ n → sumL (listOf y n) m = (sumI (fun k => (y k).1) m, sumI (fun k => (y k).2) m)
  | 0, _ => rfl
  | m + 1, h => by
    have g : (listOf y n).getD m (0, 0) = y m := by simp [listOf, List.getD_eq_getElem?_getD, show m < n by omega]
    unfold sumL sumI
    rw [sumL_I y n m (by omega), g]
theorem rd_getD (l : List S28) (j : Nat) (h : j < l.length) (d : S28) : rd_T28 l (j : Int) = l.getD j d := by simp [rd_T28, List.getD_eq_getElem?_getD, h]
end
end Go.Proofs.Ytafmgmaelnpehaa
end

section
set_option linter.unusedVariables false
set_option linter.unusedSimpArgs false
namespace Go.Proofs.Ytafmgmaelnpehaa
open Go.RowKit Go.TL Go.Fu
open PFurrowAsks Go.Proofs.YtafmgmaelnpehaaW.PrintWords
section
variable {F Q : Fur} {by_ st_ most : Int}
theorem pl_rd (F : Fur) {i : Nat} (h : i < F.l0.length) : F.pl.getD i (0, 0) = ((rd_T28 F.l0 (i : Int)).f0, (rd_T28 F.l0 (i : Int)).f1) := by
  simp [Fur.pl, rd_T28, toP, List.getD_eq_getElem?_getD, h]
theorem map_rd {f : Nat → S28} {n i : Nat} (h : i < n) : rd_T28 ((List.range n).map f) (i : Int) = f i := by
  simp [rd_T28, h]
theorem told_x (hv : F.va = true) (hq : Q.va = true) (e0 : Q.l0 = lxs F by_ st_ F.l0.length 0) (e1 : Q.l1 = F.l1) (e2 : Q.l2 = F.l2) : Told F Q 0 most := by
  have hl : Q.l0.length = F.l0.length := by rw [e0, lxs_len]
  have h : Alike F.pl Q.pl id := alike_line (Int.tmod by_ 10) (Int.tmod st_ 4) (by rw [F.pl_len, Q.pl_len, hl]) fun i hi => by
    rw [F.pl_len] at hi
    rw [pl_rd Q (by omega), pl_rd F hi, e0]
    show ((rd_T28 ((List.range F.l0.length).map _) (i : Int)).f0, (rd_T28 ((List.range F.l0.length).map _) (i : Int)).f1) = _
    rw [map_rd hi]
    rfl
  exact ⟨hl, alike_bend hv hq h, soil_same hv hq e1 e2, fun _ => alike_worst hv hq h, fun c => by omega, h.least (Fur.okS hv) (Fur.okS hq), fun c => by omega, fun c => by omega, fun s hs => by rw [if_neg (by omega)]; exact alike_at hv hq h s⟩
theorem told_y (hv : F.va = true) (hq : Q.va = true) (e0 : Q.l0 = lxs F by_ st_ F.l0.length 1) (e1 : Q.l1 = F.l1) (e2 : Q.l2 = F.l2) : Told F Q 1 most := by
  have hl : Q.l0.length = F.l0.length := by rw [e0, lxs_len]
  have hs : ∀ i, i < F.pl.length → Q.pl.getD i (0, 0) = (-(F.pl.getD i (0, 0)).2, -(F.pl.getD i (0, 0)).1) := fun i hi => by
    rw [F.pl_len] at hi
    rw [pl_rd Q (by omega), pl_rd F hi, e0]
    show ((rd_T28 ((List.range F.l0.length).map _) (i : Int)).f0, (rd_T28 ((List.range F.l0.length).map _) (i : Int)).f1) = _
    rw [map_rd hi]
  have hll : Q.pl.length = F.pl.length := by rw [F.pl_len, Q.pl_len, hl]
  have h : Alike F.pl Q.pl id := alike_neg hll hs
  exact ⟨hl, alike_bend hv hq h, soil_same hv hq e1 e2, fun _ => alike_worst hv hq h, fun c => by omega, h.least (Fur.okS hv) (Fur.okS hq), fun _ hm r r' a b => neg_wrong hll hs (Fur.okS hv) (Fur.okS hq) hm a b, fun c => by omega, fun s hs => by rw [if_neg (by omega)]; exact alike_at hv hq h s⟩
theorem soil_back (hv : F.va = true) (hq : Q.va = true) (hl : Q.l0.length = F.l0.length) (e1 : Q.l1 = lxs F by_ st_ F.l0.length 3) (e2 : Q.l2 = lxs F by_ st_ F.l0.length 4) : soilV Q.va Q = soilV F.va F := by
  obtain ⟨h8, n1, n2, _⟩ := valid_lens hv
  have m2 : Q.l2.length = F.l0.length := by rw [e2, lxs_len]
  have e : ∀ k, k < F.l0.length → Q.soil k = F.soil (F.l0.length - 1 - k) := fun k hk => by
    unfold Fur.soil Fur.d Fur.wd
    rw [e1, e2]
    show ((toP (((List.range F.l0.length).map _).getD k z28')).1 * (toP (((List.range F.l0.length).map _).getD k z28')).1, (toP (((List.range F.l0.length).map _).getD k z28')).2 * (toP (((List.range F.l0.length).map _).getD k z28')).2) = _
    rw [← rd_getD _ k (by simp; omega) z28', ← rd_getD _ k (by simp; omega) z28', map_rd hk, map_rd hk, rd_getD F.l1 _ (by omega) z28', rd_getD F.l2 _ (by omega) z28']
  unfold soilV
  rw [hv, hq, if_pos rfl, if_pos rfl, m2, n2, sumL_I _ _ _ (Nat.le_refl _), sumL_I _ _ _ (Nat.le_refl _)]
  have a1 : sumI (fun k => (Q.soil k).1) F.l0.length = sumI (fun k => (F.soil k).1) F.l0.length := by
    rw [sumI_congr F.l0.length (fun k hk => by rw [e k hk])]
    exact sumI_rev (fun k => (F.soil k).1) F.l0.length
  have a2 : sumI (fun k => (Q.soil k).2) F.l0.length = sumI (fun k => (F.soil k).2) F.l0.length := by
    rw [sumI_congr F.l0.length (fun k hk => by rw [e k hk])]
    exact sumI_rev (fun k => (F.soil k).2) F.l0.length
  rw [a1, a2]
theorem told_z (hv : F.va = true) (hq : Q.va = true) (e0 : Q.l0 = lxs F by_ st_ F.l0.length 2) (e1 : Q.l1 = lxs F by_ st_ F.l0.length 3) (e2 : Q.l2 = lxs F by_ st_ F.l0.length 4) : Told F Q 2 most := by
  have h8 := Fur.le8 hv
  have pl := F.pl_len
  have hl : Q.l0.length = F.l0.length := by rw [e0, lxs_len]
  have hll : Q.pl.length = F.pl.length := by rw [F.pl_len, Q.pl_len, hl]
  have hs : ∀ i, i < F.pl.length → Q.pl.getD i (0, 0) = F.pl.getD (F.pl.length - 1 - i) (0, 0) := fun i hi => by
    rw [F.pl_len] at hi ⊢
    rw [pl_rd Q (by omega), pl_rd F (show F.l0.length - 1 - i < F.l0.length by omega), e0]
    show ((rd_T28 ((List.range F.l0.length).map _) (i : Int)).f0, (rd_T28 ((List.range F.l0.length).map _) (i : Int)).f1) = _
    rw [map_rd hi]
  have h := alike_back hll hs
  refine ⟨hl, alike_bend hv hq h, soil_back hv hq hl e1 e2, fun c => absurd rfl c, fun _ => ?_, h.least (Fur.okS hv) (Fur.okS hq), fun c => by omega, fun _ hm r r' a b => back_wrong (by omega) hll hs (Fur.okS hv) (Fur.okS hq) hm a b, fun s hs' => ?_⟩
  · rcases Nat.eq_zero_or_pos F.l0.length with c | c
    · rw [c]
      exact ⟨rfl, rfl⟩
    · have z1 : ∀ l : List (Int × Int), worstS l 0 = false := fun l => by unfold worstS; rfl
      have z2 : ∀ l : List (Int × Int), worstC l 0 = false := fun l => by unfold worstC; rfl
      exact ⟨rev_set c (z1 _) (z1 _) fun i h1 h2 => by rw [h.worstS (Fur.okS hv) (Fur.okS hq) h1 (by omega), pl], rev_set c (z2 _) (z2 _) fun i h1 h2 => by rw [h.worstC (Fur.okS hv) (Fur.okS hq) h1 (by omega), pl]⟩
  · rw [if_pos rfl, hv, hq, atV_in, atV_in, hll, pl]
    by_cases hc : 1 ≤ s ∧ s + 1 < F.l0.length
    · rw [if_pos hc, if_pos ⟨by omega, by omega⟩, h.at (Fur.okS hv) (Fur.okS hq) (by omega) (by omega), pl, show F.l0.length - 1 - (F.l0.length - 1 - s) = s by omega]
    · rw [if_neg hc, if_neg (by omega)]
end
end Go.Proofs.Ytafmgmaelnpehaa
end

section
set_option linter.unusedVariables false
set_option linter.unusedSimpArgs false
namespace Go.Proofs.Ytafmgmaelnpehaa
open Go.RowKit Go.TL Go.Shelf Go.Fu
attribute [local go_sem] Oper.semAt_some
open PFurrowAsks Go.Proofs.YtafmgmaelnpehaaW.PrintWords
set_option maxRecDepth 100000 in
set_option maxHeartbeats 8000000 in
theorem ns_body {F Q : Fur} {V : World} {b4 b9 a18 a27 ga ii sS sC c23 : Nat} {most wr ew : Int} {w16 : Value} {A23 : Option Addr} (hii : ii < 3) (hva : F.va = true) (hF : F.At V) (hQ : Q.At V) (b1 : Box3 V b4 24 F.s0 F.s1 F.s2) (h9 : Boxed V b9 3 (.int .i64 ((F.l0.length : Nat) : Int)))
    (hg0 : V.cell? ⟨ga, ii * 3, none⟩ = some Q.s0) (hg1 : V.cell? ⟨ga, ii * 3 + 1, none⟩ = some Q.s1) (hg2 : V.cell? ⟨ga, ii * 3 + 2, none⟩ = some Q.s2)
    (b18 : Box2 V a18 28 (bendV F.va F.pl).1.1 (bendV F.va F.pl).1.2) (b27 : Box2 V a27 28 (soilV F.va F).1.1 (soilV F.va F).1.2) (hs1 : sS = setN (worstS F.pl) (F.l0.length - 1)) (hs2 : sC = setN (worstC F.pl) (F.l0.length - 1))
    (hst : ∀ W, Below V.heap.size V W → Q.va = true → Calls Try.prog 19 #[Q.val] W fun e w' => (∃ A c n, e = .returned (.tuple #[.slice A n c, .int .i64 0]) ∧ ∀ W2, Below w'.heap.size w' W2 → Calls Try.prog 33 #[.slice A n c] W2 fun e w' => e = .returned (.int .i64 ((leastN Q.pl : Nat) : Int)) ∧ Below W2.heap.size W2 w') ∧ Below W.heap.size W w')
    (hmo : ∀ W, Below V.heap.size V W → Calls Try.prog 33 #[.slice A23 F.l0.length c23] W fun e w' => e = .returned (.int .i64 ((leastN F.pl : Nat) : Int)) ∧ Below W.heap.size W w')
    (hw : wr = (wrongV F.va most F.pl).1 ∧ ew = (wrongV F.va most F.pl).2) (hwF : 0 ≤ most → IsWrong F.pl most (wrongN F.pl most)) (hT : Q.va = true → Told F Q ii most) (t : Array Value) (hSl : Slots (none :: some (.int .i64 most) :: none :: none :: some (.pointer (some ⟨b4, 0, none⟩)) :: o4 (some (.pointer (some ⟨b9, 0, none⟩)) :: none :: none :: o4 (some (w16) :: some (.func (.func 40) #[] #[.pointer (some ⟨b9, 0, none⟩)]) :: some (.pointer (some ⟨a18, 0, none⟩)) :: some (.int .i64 0) :: some (.int .i64 ((sS : Nat) : Int)) :: some (.int .i64 ((sC : Nat) : Int)) :: some (.int .i64 0) :: some (.slice A23 F.l0.length c23) :: some (.int .i64 0) :: some (.int .i64 wr) :: some (.int .i64 ew) :: some (.pointer (some ⟨a27, 0, none⟩)) :: some (.int .i64 0) :: none :: none :: o4 (o16 (o16 (o16 (o64 (o64 (some (.slice (some ⟨ga, 0, none⟩) 3 3) :: some (.int .i64 3) :: some (.int .i64 ((ii : Nat) : Int)) :: o4 (o4 (o16 (o16 (o64 (o64 [])))))))))))))) t) :
    Exec Try.prog none (sub (Try.f11.body.getD .skip) [1, 1, 1, 1, 1, 1, 1, 1, 1, 1, 1, 1, 1, 1, 0, 1, 0, 0, 1, 1, 0]) t V (andThen (fun t' W' => Below V.heap.size V W' ∧ Slots (none :: some (.int .i64 most) :: none :: none :: some (.pointer (some ⟨b4, 0, none⟩)) :: o4 (some (.pointer (some ⟨b9, 0, none⟩)) :: none :: none :: o4 (some (w16) :: some (.func (.func 40) #[] #[.pointer (some ⟨b9, 0, none⟩)]) :: some (.pointer (some ⟨a18, 0, none⟩)) :: some (.int .i64 0) :: some (.int .i64 ((sS : Nat) : Int)) :: some (.int .i64 ((sC : Nat) : Int)) :: some (.int .i64 0) :: some (.slice A23 F.l0.length c23) :: some (.int .i64 0) :: some (.int .i64 wr) :: some (.int .i64 ew) :: some (.pointer (some ⟨a27, 0, none⟩)) :: some (.int .i64 0) :: none :: none :: o4 (o16 (o16 (o16 (o64 (o64 (some (.slice (some ⟨ga, 0, none⟩) 3 3) :: some (.int .i64 3) :: some (.int .i64 ((ii : Nat) : Int)) :: o4 (o4 (o16 (o16 (o64 (o64 [])))))))))))))) t') fun _ _ _ => False) := by
  obtain ⟨x, hx⟩ := Slots.open_ hSl; simp only [fill, Nat.reduceAdd] at hx; subst hx; clear hSl
  have HS := Lib.hid (And.intro hs1 (And.intro hs2 hw))
  have HVA := Lib.hid hva
  have HWF := Lib.hid hwF
  clear hs1 hs2 hw hwF
  have hu24 := Try.underlying24
  have hu22 := Try.underlying22
  have hu62 := Try.underlying62
  have hiI : (ii : Int) < 3 := by omega
  have hga : (⟨ga, 0, none⟩ : Addr).add (ii * 3) = ⟨ga, ii * 3, none⟩ := by
    unfold Addr.add
    split
    · rename_i h; rw [h]
    · simp
  simp only [Fur.s0, Fur.s1, Fur.s2] at hg0 hg1 hg2
  have b7 := Box3.new V 24 (.slice none 0 0) (.slice none 0 0) (.slice none 0 0)
  have k0 := b7.cell0
  have k1 := b7.cell1
  have k2 := b7.cell2
  have f0 := box3_frozen b7 0
  have f1 := box3_frozen b7 1
  have f2 := box3_frozen b7 2
  refine exec_block ?_
  refine exec_seq (exec_region_o fun ds => ?_)
  gi_wp2
  refine eq_mk ((Keep.refl _).alloc _) ?_
  show Exec _ _ _ _ _ _
  clear b7 k0 k1 k2 f0 f1 f2 hg0 hg1 hg2 hga hiI
  have b3 := Box3.new V 24 Q.s0 Q.s1 Q.s2
  have hB := (Below.refl V.heap.size V).alloc (Nat.le_refl _) (.cells #[Q.s0, Q.s1, Q.s2] 24)
  simp only [Fur.s0, Fur.s1, Fur.s2] at b3 hB
  generalize V.alloc (.cells #[.slice Q.A0 Q.l0.length Q.c0, .slice Q.A1 Q.l1.length Q.c1, .slice Q.A2 Q.l2.length Q.c2] 24) = X at *
  have HB := Lib.hid hB
  obtain ⟨⟨⟨pa, pb⟩, pc⟩, hbe⟩ : ∃ x, bendV F.va F.pl = x := ⟨_, rfl⟩
  obtain ⟨⟨⟨ya, yb⟩, yc⟩, hso⟩ : ∃ x, soilV F.va F = x := ⟨_, rfl⟩
  rw [hbe] at b18
  rw [hso] at b27
  simp only at b18 b27
  have hpc : pc = 0 := by
    unfold bendV at hbe
    rw [hva, if_pos rfl] at hbe
    exact (congrArg Prod.snd hbe).symm
  have hyc : yc = 0 := by
    unfold soilV at hso
    rw [hva, if_pos rfl] at hso
    exact (congrArg Prod.snd hso).symm
  subst hpc hyc
  have HBE := Lib.hid hbe
  have HSO := Lib.hid hso
  clear hbe hso hva
  have c0 := b3.cell0
  have c1 := b3.cell1
  have c2 := b3.cell2
  have hrf := refFurrow_c Q X (hQ.below hB)
  refine exec_seq (exec_seq (exec_region_o fun ds => ?_))
  gi_wp2_with fail
  refine ⟨trivial, rfl, (callsIn_wide.2 hrf).mono ?_⟩
  rintro e Y ⟨rfl, hy⟩
  have hK := Keep.of_below hy
  replace hB := hB.trans (hy.mono hB.size)
  replace b3 := box3_below hy b3
  clear hy hrf c0 c1 c2 HB
  cases hqv : Q.va with
  | false =>
    gi_wp2
    refine eq_mk hK ?_
    show Exec _ _ _ _ _ _
    refine exec_cond (b := true) rfl (fun _ => ?_) (fun h => by cases h)
    refine exec_exit ?_
    show _ ∧ _
    exact ⟨hB, (by simp only [Slots, Fits, and_self])⟩
  | true =>
  gi_wp2
  refine eq_mk hK ?_
  show Exec _ _ _ _ _ _
  clear hK
  clear X
  refine exec_cond (b := false) rfl (fun h => by cases h) (fun _ => exec_skip ?_)
  show Exec _ _ _ _ _ _
  have HT := Lib.hid (hT hqv)
  have HST := Lib.hid hst
  have HMO := Lib.hid hmo
  have HQV := Lib.hid hqv
  clear hT hst hmo hqv
  have c0 := b3.cell0
  have c1 := b3.cell1
  have c2 := b3.cell2
  have hct := Bend_c Q Y (hQ.below hB)
  rw [HT.out.bend, HBE.out] at hct
  refine exec_seq (exec_region_o fun ds => ?_)
  gi_wp2_with fail
  refine ⟨trivial, rfl, (callsIn_wide.2 (hct)).mono ?_⟩
  rintro e Y1 ⟨rfl, hy⟩
  have hK := Keep.of_below hy
  replace hB := hB.trans (hy.mono hB.size)
  replace b3 := box3_below hy b3
  clear hy c0 c1 c2
  clear hct
  gi_wp2
  refine eq_mk (hK.alloc _) ?_
  show Exec _ _ _ _ _ _
  have ha := (Below.refl Y1.heap.size Y1).alloc (Nat.le_refl _) (.cells #[.int .i64 pa, .int .i64 pb] 28)
  replace hB := hB.trans (ha.mono hB.size)
  replace b3 := box3_below ha b3
  have q31 := Box2.new Y1 28 pa pb
  generalize Y1.alloc (.cells #[.int .i64 pa, .int .i64 pb] 28) = Z1 at *
  clear ha hK
  generalize Y1.heap.size = a31 at *
  clear Y1 Y
  have c0 := b3.cell0
  have c1 := b3.cell1
  have c2 := b3.cell2
  have hct := Worst_c Q Z1 (hQ.below hB)
  obtain ⟨⟨wS, wC, wE⟩, hwo⟩ : ∃ x, worstV Q.va Q.pl = x := ⟨_, rfl⟩
  rw [hwo] at hct
  have HWO := Lib.hid hwo
  clear hwo
  refine exec_seq (exec_region_o fun ds => ?_)
  gi_wp2_with fail
  refine ⟨trivial, rfl, (callsIn_wide.2 (hct)).mono ?_⟩
  rintro e Y2 ⟨rfl, hy⟩
  have hK := Keep.of_below hy
  replace hB := hB.trans (hy.mono hB.size)
  replace b3 := box3_below hy b3
  replace q31 := box2_below hy q31
  clear hy c0 c1 c2
  clear hct
  gi_wp2
  refine eq_mk hK ?_
  show Exec _ _ _ _ _ _
  clear hK
  clear Z1
  have c0 := b3.cell0
  have c1 := b3.cell1
  have c2 := b3.cell2
  refine exec_seq (exec_region_o fun ds => ?_)
  gi_wp2_with fail
  refine ⟨trivial, rfl, (callsIn_wide.2 (HST.out Y2 hB HQV.out)).mono ?_⟩
  rintro e Y3 ⟨⟨A36, c36, n36, rfl, hmQ⟩, hy⟩
  have hK := Keep.of_below hy
  replace hB := hB.trans (hy.mono hB.size)
  replace b3 := box3_below hy b3
  replace q31 := box2_below hy q31
  clear hy c0 c1 c2
  have HMQ := Lib.hid hmQ
  clear hmQ
  have hB3 := Below.refl Y3.heap.size Y3
  gi_wp2
  refine eq_mk hK ?_
  show Exec _ _ _ _ _ _
  clear hK
  clear Y2
  have c0 := b3.cell0
  have c1 := b3.cell1
  have c2 := b3.cell2
  have hct := Wrong_c Q most Y3 (hQ.below hB)
  obtain ⟨⟨zr, zw⟩, hzw⟩ : ∃ x, wrongV Q.va most Q.pl = x := ⟨_, rfl⟩
  rw [hzw] at hct
  have HZW := Lib.hid hzw
  clear hzw
  refine exec_seq (exec_region_o fun ds => ?_)
  gi_wp2_with fail
  refine ⟨trivial, rfl, (callsIn_wide.2 (hct)).mono ?_⟩
  rintro e Y4 ⟨⟨rfl, hww⟩, hy⟩
  have hK := Keep.of_below hy
  replace hB := hB.trans (hy.mono hB.size)
  replace b3 := box3_below hy b3
  replace q31 := box2_below hy q31
  replace hB3 := hB3.trans (hy.mono hB3.size)
  clear hy c0 c1 c2
  clear hct
  have HWW := Lib.hid hww
  clear hww
  gi_wp2
  refine eq_mk hK ?_
  show Exec _ _ _ _ _ _
  clear hK
  have c0 := b3.cell0
  have c1 := b3.cell1
  have c2 := b3.cell2
  have hct := Soil_c Q Y4 (hQ.below hB)
  rw [HT.out.soil, HSO.out] at hct
  refine exec_seq (exec_region_o fun ds => ?_)
  gi_wp2_with fail
  refine ⟨trivial, rfl, (callsIn_wide.2 (hct)).mono ?_⟩
  rintro e Y5 ⟨rfl, hy⟩
  have hK := Keep.of_below hy
  replace hB := hB.trans (hy.mono hB.size)
  replace b3 := box3_below hy b3
  replace q31 := box2_below hy q31
  replace hB3 := hB3.trans (hy.mono hB3.size)
  clear hy c0 c1 c2
  clear hct
  gi_wp2
  refine eq_mk (hK.alloc _) ?_
  show Exec _ _ _ _ _ _
  have ha := (Below.refl Y5.heap.size Y5).alloc (Nat.le_refl _) (.cells #[.int .i64 ya, .int .i64 yb] 28)
  replace hB := hB.trans (ha.mono hB.size)
  replace b3 := box3_below ha b3
  replace hB3 := hB3.trans (ha.mono hB3.size)
  replace q31 := box2_below ha q31
  have q40 := Box2.new Y5 28 ya yb
  generalize Y5.alloc (.cells #[.int .i64 ya, .int .i64 yb] 28) = Z5 at *
  clear ha hK
  generalize Y5.heap.size = a40 at *
  clear Y5 Y4
  have hoks := And.intro HS.out (And.intro HWO.out (And.intro HZW.out HQV.out))
  obtain ⟨⟨hs1, hs2, hw1, hw2⟩, hwo, hzw, hqv⟩ := hoks
  have h8 := Fur.le8 HVA.out
  have hpl := F.pl_len
  have hql : Q.pl.length = F.l0.length := by rw [Q.pl_len]; exact HT.out.len
  have hwn : wS = ((setN (worstS Q.pl) (F.l0.length - 1) : Nat) : Int) ∧ wC = ((setN (worstC Q.pl) (F.l0.length - 1) : Nat) : Int) ∧ wE = 0 := by
    unfold worstV at hwo
    rw [hqv, if_pos rfl, hql, shM_set _ _ (by omega), shM_set _ _ (by omega)] at hwo
    simp only [Prod.mk.injEq] at hwo
    exact ⟨hwo.1.symm, hwo.2.1.symm, hwo.2.2.symm⟩
  have hzn : zw = ew := by
    rw [hw2]
    unfold wrongV at hzw ⊢
    rw [hqv, if_pos rfl] at hzw
    rw [HVA.out, if_pos rfl]
    by_cases hm : 0 ≤ most
    · rw [if_pos hm] at hzw ⊢
      exact (congrArg Prod.snd hzw).symm
    · rw [if_neg hm] at hzw ⊢
      exact (congrArg Prod.snd hzw).symm
  obtain ⟨rfl, rfl, rfl⟩ := hwn
  subst hzn
  clear hs1 hs2 hw1 hw2 hwo hzw hqv HWO
  have HN8 := Lib.hid h8
  clear h8 hpl hql
  refine exec_cut (fun t' W' => Below Z5.heap.size Z5 W' ∧ Slots (none :: some (.int .i64 most) :: none :: none :: some (.pointer (some ⟨b4, 0, none⟩)) :: o4 (some (.pointer (some ⟨b9, 0, none⟩)) :: none :: none :: o4 (some (w16) :: some (.func (.func 40) #[] #[.pointer (some ⟨b9, 0, none⟩)]) :: some (.pointer (some ⟨a18, 0, none⟩)) :: some (.int .i64 0) :: some (.int .i64 ((sS : Nat) : Int)) :: some (.int .i64 ((sC : Nat) : Int)) :: some (.int .i64 0) :: some (.slice A23 F.l0.length c23) :: some (.int .i64 0) :: some (.int .i64 wr) :: some (.int .i64 zw) :: some (.pointer (some ⟨a27, 0, none⟩)) :: some (.int .i64 0) :: some (.int .i64 ((ii : Nat) : Int)) :: some (.pointer (some ⟨V.heap.size, 0, none⟩)) :: some (.pointer (some ⟨a31, 0, none⟩)) :: some (.int .i64 0) :: some (.int .i64 ((sS : Nat) : Int)) :: some (.int .i64 ((sC : Nat) : Int)) :: some (.int .i64 0) :: some (.slice A36 n36 c36) :: some (.int .i64 0) :: some (.int .i64 zr) :: some (.int .i64 zw) :: some (.pointer (some ⟨a40, 0, none⟩)) :: some (.int .i64 0) :: none :: o4 (o4 (o16 (o16 (o64 (o64 (some (.slice (some ⟨ga, 0, none⟩) 3 3) :: some (.int .i64 3) :: some (.int .i64 ((ii : Nat) : Int)) :: o4 (o4 (o16 (o16 (o64 (o64 [])))))))))))))) t') ?_ ?_
  · refine exec_seq (exec_region_o fun ds => ?_)
    gi_wp2
    refine eq_mk (Keep.refl _) ?_
    show Exec _ _ _ _ _ _
    have hl8 : ∀ p : Nat → Bool, setN p (F.l0.length - 1) < 256 := fun p => Nat.lt_of_lt_of_le (setN_lt p _) (show 2 ^ (F.l0.length - 1) ≤ 2 ^ 8 from Nat.pow_le_pow_right (by omega) (by have := HN8.out; omega))
    refine exec_cond (b := decide (ii = 2)) (by first | rfl | (show Value.bool _ = _; congr 1; apply decide_eq_decide.2; omega) | (show Value.bool _ = _; congr 1; rw [Bool.eq_iff_iff]; simp; omega)) (fun h2 => ?_) (fun h2 => exec_skip ?_)
    · obtain ⟨t1, t2⟩ := HT.out.worst2 (of_decide_eq_true h2)
      rw [← HS.out.1] at t1
      rw [← HS.out.2.1] at t2
      have hc1 := turn_c HN8.out (hl8 (worstS Q.pl)) Z5 ((hB.block _ h9.lt).trans h9)
      rw [t1] at hc1
      refine exec_region_o fun ds => ?_
      show (Code.region _ _ _).wpIn _ _ _ _ _ _
      gi_wp2_with fail
      refine ⟨trivial, rfl, (callsIn_wide.2 hc1).mono ?_⟩
      rintro e U ⟨rfl, hu⟩
      have hK := Keep.of_below hu
      have HU := Lib.hid hu
      have hc2 := turn_c HN8.out (hl8 (worstC Q.pl)) U (((hB.trans (hu.mono hB.size)).block _ h9.lt).trans h9)
      rw [t2] at hc2
      clear hc1 hu
      gi_wp2_with fail
      refine ⟨trivial, rfl, (callsIn_wide.2 hc2).mono ?_⟩
      rintro e U2 ⟨rfl, hu⟩
      replace hK := hK.trans (Keep.of_below hu)
      have HU2 := Lib.hid (HU.out.trans (hu.mono HU.out.size))
      clear hu hc2
      gi_wp2
      exact eq_mk hK ⟨HU2.out, (by simp only [Slots, Fits, and_self])⟩
    · have e := HT.out.worst (of_decide_eq_false h2)
      unfold worstV at e
      have hql : Q.pl.length = F.l0.length := by rw [Q.pl_len]; exact HT.out.len
      have h8 := HN8.out
      rw [HQV.out, HVA.out, if_pos rfl, if_pos rfl, hql, F.pl_len, shM_set _ _ (by omega), shM_set _ _ (by omega), shM_set _ _ (by omega), shM_set _ _ (by omega)] at e
      simp only [Prod.mk.injEq] at e
      rw [e.1, e.2.1, ← HS.out.1, ← HS.out.2.1]
      exact ⟨Below.refl _ _, (by simp only [Slots, Fits, and_self])⟩
  rintro t' U ⟨hz, hSl⟩
  clear x
  obtain ⟨x, hx⟩ := Slots.open_ hSl; simp only [fill, Nat.reduceAdd] at hx; subst hx; clear hSl
  replace hB := hB.trans (hz.mono hB.size)
  replace hB3 := hB3.trans (hz.mono hB3.size)
  replace b3 := box3_below hz b3
  replace q31 := box2_below hz q31
  replace q40 := box2_below hz q40
  clear hz
  clear Z5
  show Exec _ _ _ _ _ _
  refine exec_seq (exec_seq ((tv_33 (b4 := b4) (b9 := b9) (b30 := V.heap.size) (most := most) (sS := ((sS : Nat) : Int)) (sC := ((sC : Nat) : Int)) (wr := wr) (ew := zw) (zr := zr) (ii := ((ii : Nat) : Int)) (w16 := w16) (w17 := .func (.func 40) #[] #[.pointer (some ⟨b9, 0, none⟩)]) (w211 := .slice (some ⟨ga, 0, none⟩) 3 3) (s23 := .slice A23 F.l0.length c23) (mo := ((leastN F.pl : Nat) : Int)) (box2_below hB b18) q31 (box2_below hB b27) q40 (fun W h => by rw [← HT.out.least]; exact HMQ.out W (hB3.trans (h.mono hB3.size))) (fun W h => HMO.out W (hB.trans (h.mono hB.size))) _ (by simp only [Slots, Fits, and_self])).mono ?_))
  intro e t' U2 h
  obtain ⟨rfl, hz, hSl⟩ := only_normal h
  clear h x
  obtain ⟨x, hx⟩ := Slots.open_ hSl; simp only [fill, Nat.reduceAdd] at hx; subst hx; clear hSl
  replace hB := hB.trans (hz.mono hB.size)
  replace b3 := box3_below hz b3
  clear hz q31 q40 HMQ HMO hB3
  clear U
  show Exec _ _ _ _ _ _
  refine exec_cond (b := false) rfl (fun h => by cases h) (fun _ => exec_skip ?_)
  show Exec _ _ _ _ _ _
  have hwz : ∃ r z : Nat, wr = ((r : Nat) : Int) ∧ zr = ((z : Nat) : Int) ∧ r < 256 ∧ z < 256 ∧ (ii = 1 → z = r) ∧ (ii = 2 → ones 8 z = ones 8 r) := by
    have e1 := HS.out.2.2.1
    have e2 := HZW.out
    unfold wrongV at e1 e2
    rw [HVA.out, if_pos rfl] at e1
    rw [HQV.out, if_pos rfl] at e2
    by_cases hm : 0 ≤ most
    · rw [if_pos hm] at e1 e2
      have iF := HWF.out hm
      have iQ := HWW.out HQV.out hm
      have h8 := HN8.out
      have l1 := iF.lt
      have l2 := iQ.lt
      have hl : Q.pl.length = F.pl.length := by rw [F.pl_len, Q.pl_len]; exact HT.out.len
      rw [hl] at l2
      have hp : 2 ^ F.pl.length ≤ 2 ^ 8 := Nat.pow_le_pow_right (by omega) (by rw [F.pl_len]; exact h8)
      exact ⟨_, _, e1, (congrArg Prod.fst e2).symm, by omega, by omega, fun c => HT.out.wrong1 c hm _ _ iF iQ, fun c => HT.out.wrong2 c hm _ _ iF iQ⟩
    · rw [if_neg hm] at e1 e2
      exact ⟨0, 0, e1, (congrArg Prod.fst e2).symm, by omega, by omega, fun _ => rfl, fun _ => rfl⟩
  obtain ⟨r, z, rfl, rfl, hr, hz8, c1, c2⟩ := hwz
  clear HS HZW HWW HWF
  refine exec_seq (exec_cut (fun t' W' => Below U2.heap.size U2 W' ∧ Slots (none :: some (.int .i64 most) :: none :: none :: some (.pointer (some ⟨b4, 0, none⟩)) :: o4 (some (.pointer (some ⟨b9, 0, none⟩)) :: none :: none :: o4 (some (w16) :: some (.func (.func 40) #[] #[.pointer (some ⟨b9, 0, none⟩)]) :: some (.pointer (some ⟨a18, 0, none⟩)) :: some (.int .i64 0) :: some (.int .i64 ((sS : Nat) : Int)) :: some (.int .i64 ((sC : Nat) : Int)) :: some (.int .i64 0) :: some (.slice A23 F.l0.length c23) :: some (.int .i64 0) :: some (.int .i64 ((r : Nat) : Int)) :: some (.int .i64 zw) :: some (.pointer (some ⟨a27, 0, none⟩)) :: some (.int .i64 0) :: some (.int .i64 ((ii : Nat) : Int)) :: some (.pointer (some ⟨V.heap.size, 0, none⟩)) :: o4 (o16 (o16 (o16 (o64 (o64 (some (.slice (some ⟨ga, 0, none⟩) 3 3) :: some (.int .i64 3) :: some (.int .i64 ((ii : Nat) : Int)) :: none :: o4 (o16 (o16 (o16 (o64 (some (.bool false) :: none :: none :: o16 (o16 (o16 [])))))))))))))))) t') ?_ ?_)
  · have h3 : ii = 0 ∨ ii = 1 ∨ ii = 2 := by omega
    rcases h3 with rfl | rfl | rfl
    · refine (tv_35a (b4 := b4) (b9 := b9) (a18 := a18) (a27 := a27) (b30 := V.heap.size) (most := most) (sS := ((sS : Nat) : Int)) (sC := ((sC : Nat) : Int)) (wr := ((r : Nat) : Int)) (ew := zw) (w16 := w16) (w17 := .func (.func 40) #[] #[.pointer (some ⟨b9, 0, none⟩)]) (w211 := .slice (some ⟨ga, 0, none⟩) 3 3) (s23 := .slice A23 F.l0.length c23) (zr := ((z : Nat) : Int)) _ (by simp only [Slots, Fits, and_self]; simp)).mono ?_
      intro e t' W2 h
      obtain ⟨rfl, h⟩ := only_normal h
      exact h
    · obtain rfl := c1 rfl
      refine (tv_35b (b4 := b4) (b9 := b9) (a18 := a18) (a27 := a27) (b30 := V.heap.size) (most := most) (sS := ((sS : Nat) : Int)) (sC := ((sC : Nat) : Int)) (wr := ((z : Nat) : Int)) (ew := zw) (w16 := w16) (w17 := .func (.func 40) #[] #[.pointer (some ⟨b9, 0, none⟩)]) (w211 := .slice (some ⟨ga, 0, none⟩) 3 3) (s23 := .slice A23 F.l0.length c23) _ (by simp only [Slots, Fits, and_self]; simp)).mono ?_
      intro e t' W2 h
      obtain ⟨rfl, h⟩ := only_normal h
      exact h
    · refine (tv_35c (b4 := b4) (b9 := b9) (a18 := a18) (a27 := a27) (b30 := V.heap.size) (most := most) (sS := ((sS : Nat) : Int)) (sC := ((sC : Nat) : Int)) (r := r) (z := z) (ew := zw) (w16 := w16) (w17 := .func (.func 40) #[] #[.pointer (some ⟨b9, 0, none⟩)]) (w211 := .slice (some ⟨ga, 0, none⟩) 3 3) (s23 := .slice A23 F.l0.length c23) hr hz8 (c2 rfl) _ (by simp only [Slots, Fits, and_self]; simp)).mono ?_
      intro e t' W2 h
      obtain ⟨rfl, h⟩ := only_normal h
      exact h
  rintro t' U3 ⟨hz, hSl⟩
  clear x
  obtain ⟨x, hx⟩ := Slots.open_ hSl; simp only [fill, Nat.reduceAdd] at hx; subst hx; clear hSl
  replace hB := hB.trans (hz.mono hB.size)
  replace b3 := box3_below hz b3
  clear hz c1 c2
  clear U2
  refine exec_cond (b := false) rfl (fun h => by cases h) (fun _ => exec_skip ?_)
  show Exec _ _ _ _ _ _
  have hn9 : Boxed U3 b9 3 (.int .i64 ((F.l0.length : Nat) : Int)) := (hB.block _ h9.lt).trans h9
  have k9 := hn9.cell
  refine exec_seq (exec_region_o fun ds => ?_)
  gi_wp2
  refine eq_mk (Keep.refl _) ?_
  show Exec _ _ _ _ _ _
  clear k9
  refine (nm_loop (b4 := b4) (b9 := b9) (a18 := a18) (a27 := a27) (b30 := V.heap.size) (ii := ii) (most := most) (sS := ((sS : Nat) : Int)) (sC := ((sC : Nat) : Int)) (wr := ((r : Nat) : Int)) (ew := zw) (w16 := w16) (w17 := .func (.func 40) #[] #[.pointer (some ⟨b9, 0, none⟩)]) (w211 := .slice (some ⟨ga, 0, none⟩) 3 3) (s23 := .slice A23 F.l0.length c23) (hF.below hB) (hQ.below hB) (box3_below hB b1) b3 hn9 HN8.out (by rw [HT.out.len]; exact HN8.out) (fun s hs => HT.out.at_ s hs) _ (by simp only [Slots, Fits, and_self])).mono ?_
  intro e t' W2 h
  obtain ⟨rfl, hz, hSl⟩ := only_normal h
  clear h x
  obtain ⟨x, hx⟩ := Slots.open_ hSl; simp only [fill, Nat.reduceAdd] at hx; subst hx; clear hSl
  show _ ∧ _
  exact ⟨hB.trans (hz.mono hB.size), (by simp only [Slots, Fits, and_self])⟩
end Go.Proofs.Ytafmgmaelnpehaa
end

section
set_option linter.unusedVariables false
set_option linter.unusedSimpArgs false
namespace Go.Proofs.Ytafmgmaelnpehaa
open Go.RowKit Go.TL Go.Shelf Go.Fu
attribute [local go_sem] Oper.semAt_some
open PFurrowAsks Go.Proofs.YtafmgmaelnpehaaW.PrintWords
def NtI (F : Fur) (V : World) (b4 b9 a18 a27 ga sS sC c23 : Nat) (most wr ew : Int) (w16 : Value) (A23 : Option Addr) (j : Nat) (t : Array Value) (W : World) : Prop := ∃ i : Nat, i ≤ 3 ∧ j = 3 - i ∧ Below V.heap.size V W ∧ Slots (none :: some (.int .i64 most) :: none :: none :: some (.pointer (some ⟨b4, 0, none⟩)) :: o4 (some (.pointer (some ⟨b9, 0, none⟩)) :: none :: none :: o4 (some (w16) :: some (.func (.func 40) #[] #[.pointer (some ⟨b9, 0, none⟩)]) :: some (.pointer (some ⟨a18, 0, none⟩)) :: some (.int .i64 0) :: some (.int .i64 ((sS : Nat) : Int)) :: some (.int .i64 ((sC : Nat) : Int)) :: some (.int .i64 0) :: some (.slice A23 F.l0.length c23) :: some (.int .i64 0) :: some (.int .i64 wr) :: some (.int .i64 ew) :: some (.pointer (some ⟨a27, 0, none⟩)) :: some (.int .i64 0) :: none :: none :: o4 (o16 (o16 (o16 (o64 (o64 (some (.slice (some ⟨ga, 0, none⟩) 3 3) :: some (.int .i64 3) :: some (.int .i64 ((i : Nat) : Int)) :: o4 (o4 (o16 (o16 (o64 (o64 [])))))))))))))) t
def NtM (F : Fur) (V : World) (b4 b9 a18 a27 ga sS sC c23 : Nat) (most wr ew : Int) (w16 : Value) (A23 : Option Addr) (i : Nat) (t : Array Value) (W : World) : Prop := Below V.heap.size V W ∧ Slots (none :: some (.int .i64 most) :: none :: none :: some (.pointer (some ⟨b4, 0, none⟩)) :: o4 (some (.pointer (some ⟨b9, 0, none⟩)) :: none :: none :: o4 (some (w16) :: some (.func (.func 40) #[] #[.pointer (some ⟨b9, 0, none⟩)]) :: some (.pointer (some ⟨a18, 0, none⟩)) :: some (.int .i64 0) :: some (.int .i64 ((sS : Nat) : Int)) :: some (.int .i64 ((sC : Nat) : Int)) :: some (.int .i64 0) :: some (.slice A23 F.l0.length c23) :: some (.int .i64 0) :: some (.int .i64 wr) :: some (.int .i64 ew) :: some (.pointer (some ⟨a27, 0, none⟩)) :: some (.int .i64 0) :: none :: none :: o4 (o16 (o16 (o16 (o64 (o64 (some (.slice (some ⟨ga, 0, none⟩) 3 3) :: some (.int .i64 3) :: some (.int .i64 ((i : Nat) : Int)) :: o4 (o4 (o16 (o16 (o64 (o64 [])))))))))))))) t
set_option maxRecDepth 100000 in
set_option maxHeartbeats 4000000 in
theorem nt_loop {F : Fur} {QF : Nat → Fur} {V : World} {b4 b9 a18 a27 ga sS sC c23 : Nat} {most wr ew : Int} {w16 : Value} {A23 : Option Addr} (hva : F.va = true) (hF : F.At V) (hQ : ∀ i, i < 3 → (QF i).At V) (b1 : Box3 V b4 24 F.s0 F.s1 F.s2) (h9 : Boxed V b9 3 (.int .i64 ((F.l0.length : Nat) : Int)))
    (hg : ∀ i, i < 3 → V.cell? ⟨ga, i * 3, none⟩ = some (QF i).s0 ∧ V.cell? ⟨ga, i * 3 + 1, none⟩ = some (QF i).s1 ∧ V.cell? ⟨ga, i * 3 + 2, none⟩ = some (QF i).s2)
    (b18 : Box2 V a18 28 (bendV F.va F.pl).1.1 (bendV F.va F.pl).1.2) (b27 : Box2 V a27 28 (soilV F.va F).1.1 (soilV F.va F).1.2) (hs1 : sS = setN (worstS F.pl) (F.l0.length - 1)) (hs2 : sC = setN (worstC F.pl) (F.l0.length - 1))
    (hst : ∀ (Q : Fur) W, Q.At W → Q.va = true → Calls Try.prog 19 #[Q.val] W fun e w' => (∃ A c n, e = .returned (.tuple #[.slice A n c, .int .i64 0]) ∧ ∀ W2, Below w'.heap.size w' W2 → Calls Try.prog 33 #[.slice A n c] W2 fun e w' => e = .returned (.int .i64 ((leastN Q.pl : Nat) : Int)) ∧ Below W2.heap.size W2 w') ∧ Below W.heap.size W w')
    (hmo : ∀ W, Below V.heap.size V W → Calls Try.prog 33 #[.slice A23 F.l0.length c23] W fun e w' => e = .returned (.int .i64 ((leastN F.pl : Nat) : Int)) ∧ Below W.heap.size W w')
    (hw : wr = (wrongV F.va most F.pl).1 ∧ ew = (wrongV F.va most F.pl).2) (hwF : 0 ≤ most → IsWrong F.pl most (wrongN F.pl most)) (hT : ∀ i, i < 3 → (QF i).va = true → Told F (QF i) i most) (t : Array Value) (hSl : Slots (none :: some (.int .i64 most) :: none :: none :: some (.pointer (some ⟨b4, 0, none⟩)) :: o4 (some (.pointer (some ⟨b9, 0, none⟩)) :: none :: none :: o4 (some (w16) :: some (.func (.func 40) #[] #[.pointer (some ⟨b9, 0, none⟩)]) :: some (.pointer (some ⟨a18, 0, none⟩)) :: some (.int .i64 0) :: some (.int .i64 ((sS : Nat) : Int)) :: some (.int .i64 ((sC : Nat) : Int)) :: some (.int .i64 0) :: some (.slice A23 F.l0.length c23) :: some (.int .i64 0) :: some (.int .i64 wr) :: some (.int .i64 ew) :: some (.pointer (some ⟨a27, 0, none⟩)) :: some (.int .i64 0) :: none :: none :: o4 (o16 (o16 (o16 (o64 (o64 (some (.slice (some ⟨ga, 0, none⟩) 3 3) :: some (.int .i64 3) :: some (.int .i64 0) :: o4 (o4 (o16 (o16 (o64 (o64 [])))))))))))))) t) :
    Exec Try.prog none (sub (Try.f11.body.getD .skip) [1, 1, 1, 1, 1, 1, 1, 1, 1, 1, 1, 1, 1, 1, 0, 1]) t V (andThen (fun t' W' => Below V.heap.size V W' ∧ Slots (o4 (some (.pointer (some ⟨b4, 0, none⟩)) :: none :: none :: none :: o4 (o4 (some (w16) :: none :: o4 (o4 (o4 (o16 (o16 (o64 (o64 (o64 (o64 (o64 []))))))))))))) t') fun _ _ _ => False) := by
  have HS := Lib.hid (And.intro hs1 (And.intro hs2 hw))
  have HVA := Lib.hid hva
  have HG := Lib.hid hg
  have HST := Lib.hid hst
  have HMO := Lib.hid hmo
  have HWF := Lib.hid hwF
  have HT := Lib.hid hT
  have HQ := Lib.hid hQ
  clear hs1 hs2 hw hva hg hst hmo hwF hT hQ
  refine exec_block ?_
  refine exec_loop (NtI F V b4 b9 a18 a27 ga sS sC c23 most wr ew w16 A23) 3 ⟨0, by omega, by omega, Below.refl _ _, by simpa using hSl⟩ ?_
  clear hSl t
  rintro j t W ⟨i, hi, hj, hB, hSl⟩
  obtain ⟨x, hx⟩ := Slots.open_ hSl; simp only [fill, Nat.reduceAdd] at hx; subst hx; clear hSl
  refine exec_seq (exec_region_o fun ds => ?_)
  gi_wp2
  refine eq_mk (Keep.refl _) ?_
  show Exec _ _ _ _ _ _
  refine exec_seq (exec_cond (b := decide (i < 3)) (by first | rfl | (show Value.bool _ = _; congr 1; apply decide_eq_decide.2; omega)) (fun hp => ?_) (fun hp => ?_))
  · have hil : i < 3 := of_decide_eq_true hp
    refine exec_skip ?_
    show Exec _ _ _ _ _ _
    refine exec_cut (NtM F V b4 b9 a18 a27 ga sS sC c23 most wr ew w16 A23 i) ?_ ?_
    · obtain ⟨g0, g1, g2⟩ := HG.out i hil
      have G := fun {a : Addr} {u : Value} (hc : V.cell? a = some u) => (Grow.of_below (B := 0) hB).cell hc
      refine (ns_body (ii := i) (w16 := w16) (most := most) (wr := wr) (ew := ew) (sS := sS) (sC := sC) (c23 := c23) (A23 := A23) hil HVA.out (hF.below hB) ((HQ.out i hil).below hB) (box3_below hB b1) ((hB.block _ h9.lt).trans h9) (G g0) (G g1) (G g2) (box2_below hB b18) (box2_below hB b27) HS.out.1 HS.out.2.1 (fun W2 h2 hv => HST.out (QF i) W2 (((HQ.out i hil).below hB).below h2) hv) (fun W2 h2 => HMO.out W2 (hB.trans (h2.mono hB.size))) HS.out.2.2 HWF.out (HT.out i hil) _ (by simp only [Slots, Fits, and_self])).mono ?_
      intro e t' W2 h
      cases e with
      | normal => exact ⟨hB.trans (h.1.mono hB.size), h.2⟩
      | _ => exact h.elim
    · clear hB
      rintro t' W' ⟨hB, hSl⟩
      clear x
      obtain ⟨x, hx⟩ := Slots.open_ hSl; simp only [fill, Nat.reduceAdd] at hx; subst hx; clear hSl
      have hw : IntKind.i64.wrap ((i : Int) + 1) = ((i + 1 : Nat) : Int) := by rw [IntWalk.i64_in _ (by omega)]; norm_cast
      refine exec_region_o fun ds => ?_
      gi_wp2
      exact eq_mk (Keep.refl _) ⟨j - 1, by omega, i + 1, by omega, by omega, hB, by simp only [Slots, Fits, and_self]; simp⟩
  · refine exec_exit ?_
    show _ ∧ _
    exact ⟨hB, (by simp only [Slots, Fits, and_self])⟩
end Go.Proofs.Ytafmgmaelnpehaa
end

section
set_option linter.unusedVariables false
set_option linter.unusedSimpArgs false
namespace Go.Proofs.Ytafmgmaelnpehaa
open Go.RowKit Go.TL Go.Shelf Go.Fu
attribute [local go_sem] Oper.semAt_some
open PFurrowAsks Go.Proofs.YtafmgmaelnpehaaW.PrintWords
def kp0t : It := ⟨(Op.move (Operand.tmp 16)), some 370, 22, true, none⟩
def kp1t : It := ⟨(Op.move (Operand.tmp 48)), some 371, 3, true, none⟩
def kp2t : It := ⟨(Op.indexAddr 22 (Operand.tmp 370) (Operand.tmp 371)), some 372, 0, true, none⟩
def kp3t : It := ⟨(Op.load 28 (Operand.tmp 372)), some 373, 28, true, none⟩
def kp4t : It := ⟨(Op.fieldAddr 24 (Operand.tmp 4) 0), some 374, 0, true, none⟩
def kp5t : It := ⟨(Op.load 22 (Operand.tmp 374)), some 375, 22, true, none⟩
def kp6 : It := ⟨(Op.move (Operand.tmp 48)), some 376, 3, false, none⟩
def kp7 : It := ⟨(Op.indexAddr 22 (Operand.tmp 375) (Operand.tmp 376)), some 377, 0, false, none⟩
def kp8 : It := ⟨(Op.load 28 (Operand.tmp 377)), some 378, 28, false, none⟩
def kp9 : It := ⟨(Op.binOp BinOp.neq 28 (Operand.tmp 373) (Operand.tmp 378) 28), some 379, 4, false, none⟩
def NpI (F : Fur) (V : World) (b4 c16 : Nat) (ak : Addr) (j : Nat) (t : Array Value) (W : World) : Prop := ∃ s : Nat, s ≤ F.l0.length ∧ j = F.l0.length - s ∧ Below V.heap.size V W ∧ Slots (o4 (some (.pointer (some ⟨b4, 0, none⟩)) :: none :: none :: none :: o4 (o4 (some (.slice (some ak) F.l0.length c16) :: none :: o4 (o4 (o4 (o16 (o64 (o64 (o64 (o64 (o64 (some (.int .i64 ((F.l0.length : Nat) : Int)) :: some (.int .i64 ((s : Nat) : Int)) :: none :: none :: o4 (o4 (o4 []))))))))))))))) t
def NpM (F : Fur) (V : World) (b4 c16 : Nat) (ak : Addr) (s : Nat) (t : Array Value) (W : World) : Prop := Below V.heap.size V W ∧ Slots (o4 (some (.pointer (some ⟨b4, 0, none⟩)) :: none :: none :: none :: o4 (o4 (some (.slice (some ak) F.l0.length c16) :: none :: o4 (o4 (o4 (o16 (o64 (o64 (o64 (o64 (o64 (some (.int .i64 ((F.l0.length : Nat) : Int)) :: some (.int .i64 ((s : Nat) : Int)) :: none :: none :: o4 (o4 (o4 []))))))))))))))) t
set_option maxRecDepth 100000 in
set_option maxHeartbeats 4000000 in
theorem np_loop {F : Fur} {V : World} {b4 c16 : Nat} {ak : Addr} (hF : F.At V) (b1 : Box3 V b4 24 F.s0 F.s1 F.s2) (hk : Row V (some ak) F.l0) (h8 : F.l0.length ≤ 8) (t : Array Value) (hSl : Slots (o4 (some (.pointer (some ⟨b4, 0, none⟩)) :: none :: none :: none :: o4 (o4 (some (.slice (some ak) F.l0.length c16) :: none :: o4 (o4 (o4 (o16 (o64 (o64 (o64 (o64 (o64 (some (.int .i64 ((F.l0.length : Nat) : Int)) :: some (.int .i64 0) :: none :: none :: o4 (o4 (o4 []))))))))))))))) t) :
    Exec Try.prog none (sub (Try.f11.body.getD .skip) [1, 1, 1, 1, 1, 1, 1, 1, 1, 1, 1, 1, 1, 1, 1, 0, 1]) t V (andThen (fun t' W' => Below V.heap.size V W' ∧ Slots (none :: none :: o4 (o4 (o4 (o16 (o16 (o16 (o64 (o64 (o64 (o64 (o64 []))))))))))) t') fun _ _ _ => False) := by
  have hu22 := Try.underlying22
  have hu28 := Try.underlying28
  refine exec_block ?_
  refine exec_loop (NpI F V b4 c16 ak) F.l0.length ⟨0, by omega, by omega, Below.refl _ _, by simpa using hSl⟩ ?_
  clear hSl t
  rintro j t W ⟨s, hs, hj, hB, hSl⟩
  obtain ⟨x, hx⟩ := Slots.open_ hSl; simp only [fill, Nat.reduceAdd] at hx; subst hx; clear hSl
  refine exec_seq (exec_region_o fun ds => ?_)
  gi_wp2
  refine eq_mk (Keep.refl _) ?_
  show Exec _ _ _ _ _ _
  refine exec_seq (exec_cond (b := decide (s < F.l0.length)) rfl (fun hp => ?_) (fun hp => ?_))
  · have hsl : s < F.l0.length := of_decide_eq_true hp
    have hsI : (s : Int) < F.l0.length := by omega
    refine exec_skip ?_
    show Exec _ _ _ _ _ _
    refine exec_cut (NpM F V b4 c16 ak s) ?_ ?_
    · refine exec_block (exec_seq (exec_region_o fun ds => ?_))
      gi_wp2
      refine eq_mk (Keep.refl _) ?_
      show Exec _ _ _ _ _ _
      obtain ⟨af, eaf, d0, d1⟩ := at_T28 hF.r0 (s : Int) (by omega) (by omega)
      obtain ⟨ak', eak, d2, d3⟩ := at_T28 hk (s : Int) (by omega) (by omega)
      cases eak
      simp only [Int.toNat_natCast] at d0 d1 d2 d3
      obtain ⟨p, hp'⟩ : ∃ x, (rd_T28 F.l0 (s : Int)).f0 = x := ⟨_, rfl⟩
      obtain ⟨q, hq'⟩ : ∃ x, (rd_T28 F.l0 (s : Int)).f1 = x := ⟨_, rfl⟩
      rw [hp'] at d0 d2
      rw [hq'] at d1 d3
      have G := fun {a : Addr} {u : Value} (hc : V.cell? a = some u) => (Grow.of_below (B := 0) hB).cell hc
      have bW := box3_below hB b1
      have k0 : ∀ W', W' = W.drew → W'.cell? (ak.add (s * 2)) = some (.int .i64 p) := fun W' h => by rw [h]; exact G d2
      have k1 : ∀ W', W' = W.drew → W'.cell? ⟨(ak.add (s * 2)).block, (ak.add (s * 2)).off + 1, none⟩ = some (.int .i64 q) := fun W' h => by rw [h]; exact G d3
      have f0 : ∀ W', W' = W.drew → W'.cell? (af.add (s * 2)) = some (.int .i64 p) := fun W' h => by rw [h]; exact G d0
      have f1 : ∀ W', W' = W.drew → W'.cell? ⟨(af.add (s * 2)).block, (af.add (s * 2)).off + 1, none⟩ = some (.int .i64 q) := fun W' h => by rw [h]; exact G d1
      have kf : ∀ W', W' = W.drew → W'.cell? ⟨b4, 0, none⟩ = some (.slice (some af) F.l0.length F.c0) := fun W' h => by rw [h]; have a := bW.cell0; simp only [Fur.s0, eaf] at a; exact a
      have hKW : Keep W W.drew := (Keep.refl W).drew
      have hX : Below V.heap.size V W.drew := hB.drew
      clear d0 d1 d2 d3 bW
      refine exec_cut (fun t' W' => Below V.heap.size V W' ∧ Slots (o4 (some (.pointer (some ⟨b4, 0, none⟩)) :: none :: none :: none :: o4 (o4 (some (.slice (some ak) F.l0.length c16) :: none :: o4 (o4 (o4 (o16 (o64 (o64 (o64 (o64 (o64 (some (.int .i64 ((F.l0.length : Nat) : Int)) :: some (.int .i64 ((s : Nat) : Int)) :: none :: none :: none :: o4 (o4 (some (.bool false) :: none :: none :: []))))))))))))))) t') ?_ ?_
      · generalize hW : W = X at *
        refine region_tree (c := (sub (Try.f11.body.getD .skip) [1, 1, 1, 1, 1, 1, 1, 1, 1, 1, 1, 1, 1, 1, 1, 0, 1, 0, 0, 1, 1, 0, 0, 1, 0])) (id := 52) (.one 0 true (.one 1 true (.one 2 true (.one 3 true (.one 4 true (.one 5 true (.one 6 false (.one 7 false (.one 8 false (.one 9 false (.nil))))))))))) (Opq (regOps (sub (Try.f11.body.getD .skip) [1, 1, 1, 1, 1, 1, 1, 1, 1, 1, 1, 1, 1, 1, 1, 0, 1, 0, 0, 1, 1, 0, 0, 1, 0]))) rfl (by kernel_rfl) (by kernel_rfl) (by kernel_rfl) (by kernel_rfl) (by kernel_rfl) (by kernel_rfl) [0, 0, 3, 4, 0, 16, 0, 96, 128, 264] (by kernel_rfl) (by kernel_rfl) (fun W2 => W2 = X.drew) (fun _ _ _ => False) (fun _ _ _ h => h.elim) (fun _ _ _ _ _ _ _ _ h => h.elim) fun ds Q' hQn hQp => ?_
        refine tr_take kp0t (.slice (some ak) F.l0.length c16) (by kernel_rfl) rfl (by first | exact rfl | trivial) (fun wq hq => ?_) (rfl) ?_; (focus (exact rfl)); simp only [kp0t, put_eq, List.set_cons_succ, List.set_cons_zero]
        refine tr_take kp1t (.int .i64 ((s : Nat) : Int)) (by kernel_rfl) rfl (by first | exact rfl | trivial) (fun wq hq => ?_) (rfl) ?_; (focus (exact rfl)); simp only [kp1t, put_eq, List.set_cons_succ, List.set_cons_zero]
        refine tr_take kp2t (.pointer (some (ak.add (s * 2)))) (by kernel_rfl) rfl (by first | exact rfl | trivial) (fun wq hq => ?_) (rfl) ?_; (focus (simp [go_sem, mkO, kp2t, hu22, hsI]; done)); simp only [kp2t, put_eq, List.set_cons_succ, List.set_cons_zero]
        refine tr_take kp3t (.agg #[.int .i64 p, .int .i64 q]) (by kernel_rfl) rfl (by first | exact rfl | trivial) (fun wq hq => ?_) (rfl) ?_; (focus (simp [go_sem, mkO, kp3t, hu28, k0 wq hq, k1 wq hq]; done)); simp only [kp3t, put_eq, List.set_cons_succ, List.set_cons_zero]
        refine tr_take kp4t (.pointer (some ⟨b4, 0, none⟩)) (by kernel_rfl) rfl (by first | exact rfl | trivial) (fun wq hq => ?_) (rfl) ?_; (focus (simp [go_sem, mkO, kp4t]; done)); simp only [kp4t, put_eq, List.set_cons_succ, List.set_cons_zero]
        refine tr_take kp5t (.slice (some af) F.l0.length F.c0) (by kernel_rfl) rfl (by first | exact rfl | trivial) (fun wq hq => ?_) (rfl) ?_; (focus (simp [go_sem, mkO, kp5t, kf wq hq]; done)); simp only [kp5t, put_eq, List.set_cons_succ, List.set_cons_zero]
        refine tr_make kp6 (.int .i64 ((s : Nat) : Int)) _ (by kernel_rfl) rfl (by first | exact rfl | trivial) ?_ (rfl) ?_; (focus (exact rfl)); simp only [kp6, put_eq, List.set_cons_succ, List.set_cons_zero]
        refine tr_make kp7 (.pointer (some (af.add (s * 2)))) _ (by kernel_rfl) rfl (by first | exact rfl | trivial) ?_ (rfl) ?_; (focus (simp [go_sem, mkO, kp7, hu22, hsI]; done)); simp only [kp7, put_eq, List.set_cons_succ, List.set_cons_zero]
        refine tr_make kp8 (.agg #[.int .i64 p, .int .i64 q]) _ (by kernel_rfl) rfl (by first | exact rfl | trivial) ?_ (rfl) ?_; (focus (simp [go_sem, mkO, kp8, hu28, f0 _ (rfl), f1 _ (rfl)]; done)); simp only [kp8, put_eq, List.set_cons_succ, List.set_cons_zero]
        refine tr_make kp9 (.bool false) _ (by kernel_rfl) rfl (by first | exact rfl | trivial) ?_ (rfl) ?_; (focus (simp [go_sem, mkO, kp9, hu28]; done)); simp only [kp9, put_eq, List.set_cons_succ, List.set_cons_zero]
        exact hQn _ _ hKW ⟨hX, (by simp only [Slots, Fits, and_self])⟩
      rintro t' W' ⟨hB, hSl⟩
      clear x
      obtain ⟨x, hx⟩ := Slots.open_ hSl; simp only [fill, Nat.reduceAdd] at hx; subst hx; clear hSl
      refine exec_cond (b := false) rfl (fun h => by cases h) (fun _ => exec_skip ?_)
      exact ⟨hB, (by simp only [Slots, Fits, and_self])⟩
    · clear hB
      rintro t' W' ⟨hB, hSl⟩
      clear x
      obtain ⟨x, hx⟩ := Slots.open_ hSl; simp only [fill, Nat.reduceAdd] at hx; subst hx; clear hSl
      have hw : IntKind.i64.wrap ((s : Int) + 1) = ((s + 1 : Nat) : Int) := by rw [IntWalk.i64_in _ (by omega)]; norm_cast
      refine exec_region_o fun ds => ?_
      gi_wp2
      exact eq_mk (Keep.refl _) ⟨j - 1, by omega, s + 1, by omega, by omega, hB, by simp only [Slots, Fits, and_self]; simp⟩
  · refine exec_exit ?_
    show _ ∧ _
    exact ⟨hB, (by simp only [Slots, Fits, and_self])⟩
end Go.Proofs.Ytafmgmaelnpehaa
end

section
set_option linter.unusedVariables false
set_option linter.unusedSimpArgs false
namespace Go.Proofs.Ytafmgmaelnpehaa
open Go.RowKit Go.TL Go.Shelf Go.Fu
attribute [local go_sem] Oper.semAt_some
open PFurrowAsks Go.Proofs.YtafmgmaelnpehaaW.PrintWords
theorem row_cells {W : World} {ad : Addr} {l : List S28} (hr : Row W (some ad) l) : ∀ j u, (flat (l.map toP))[j]? = some u → W.cell? (ad.add j) = some u := by
  intro j u hj
  have hjl : j < l.length * 2 := by
    have := (List.getElem?_eq_some_iff.1 hj).1
    rw [flat_len, List.length_map] at this
    exact this
  have hi : j / 2 < l.length := by omega
  obtain ⟨ad', hA', d0, d1⟩ := at_T28 hr ((j / 2 : Nat) : Int) (by omega) (by omega)
  cases hA'
  rw [Int.toNat_natCast] at d0 d1
  have hg := flat_get (l.map toP) (j / 2) (by simpa using hi)
  have hrd : rd_T28 l ((j / 2 : Nat) : Int) = l[j / 2]'hi := by
    generalize j / 2 = i at hi ⊢
    simp [rd_T28, hi]
  rw [hrd] at d0 d1
  rcases (show j = j / 2 * 2 ∨ j = j / 2 * 2 + 1 by omega) with hh | hh
  · have h1 := hg.1
    rw [← hh, hj] at h1
    rw [← hh] at d0
    rw [d0, h1]
    simp [toP]
  · have h1 := hg.2
    rw [← hh, hj] at h1
    rw [← add_field _ _ 1 (by omega), ← hh] at d1
    rw [d1, h1]
    simp [toP]
theorem wpListIn_app {F : Fence} {nF : Nat} {P : Program} {ops : Array Oper} {rest : List Oper} {o : Oper} {a : Act} {Q : Exit → Act → World → Prop} {w : World} (hgd : o.guard = none) (s y : Operand) (t : TypeId) (ho : o.op = .call { callee := .builtin .append, args := #[s, y], argTypes := #[t, t] }) {v xv v' : Value} {w' : World} (hs : a.eval s = v) (hx : a.eval y = xv)
    (hr : (Builtin.append_ #[t, t] o.type #[v, xv]).run P w = .ok v' w') (h : wpListIn F nF P ops Q rest (a.put o.dst v') w') : wpListIn F nF P ops Q (o :: rest) a w := by
  refine wpListIn_plain hgd fun K hK => ?_
  unfold Oper.wpIn
  refine ⟨by simp [Oper.about, ho, resolve, Target.leads, Sem.run_pure], ?_⟩
  rw [Oper.semAt_plain F _ _ (by rw [ho]; intro c hc'; cases hc')]
  simp [execOp, ho, resolve, invoke, builtin, hs, hx, hr, Result.andThen]
  exact hK _ _ h
theorem flat_twom (l : List S28) (j : Nat) (p : S28) (h : l[j]? = some p) : ((flat (l.map toP)).drop (j * 2)).take 2 = [.int .i64 p.f0, .int .i64 p.f1] := by
  induction l generalizing j with
  | nil => simp at h
  | cons a l ih =>
    cases j with
    | zero =>
      simp only [List.getElem?_cons_zero, Option.some.injEq] at h
      subst h
      rfl
    | succ j =>
      have := ih j (by simpa using h)
      rw [show (j + 1) * 2 = j * 2 + 2 by omega]
      exact this
theorem own_R28m {w : World} {base : Nat} {v : Value} {l : List S28} (h : w.ownsRow base 28 2 v l.length (flat (l.map toP))) : Kd.R k28 28 w base (fun _ => True) v l := by
  refine ⟨fun _ _ => trivial, flat (l.map toP), h, ?_, fun j p hp => ?_⟩
  · show _ = l.length * 2
    rw [flat_len, List.length_map]
  · show k28.M _ _ _ p (((flat (l.map toP)).drop (j * 2)).take 2)
    rw [flat_twom l j p hp]
    exact k28_mkM _ _ _ _
theorem keep_app {W : World} {F : Fur} {ad : Addr} (h : F.At W) (hA : F.A0 = some ad) (h8 : F.l0.length ≤ 8) :
    ∃ ak c16 W', (Builtin.append_ #[22, 22] 22 #[.slice (some ⟨W.heap.size, 0, none⟩) 0 0, .slice (some ad) F.l0.length F.c0]).run Try.prog (W.alloc (.cells #[] 28)) = .ok (.slice (some ak) F.l0.length c16) W' ∧ Row W' (some ak) F.l0 ∧ Below W.heap.size W W' ∧ Keep W W' := by
  obtain ⟨i0, hi0, hz⟩ : ∃ i0, Try.prog.info? 28 = some i0 ∧ (i0.zero, i0.size, i0.bytes) = (some (.agg #[(.int .i64 0), (.int .i64 0)]), 2, 16) := by
    have := info28
    cases h : Try.prog.info? 28 with
    | none => rw [h] at this; cases this
    | some i0 => rw [h] at this; exact ⟨i0, rfl, Option.some.inj this⟩
  simp only [Prod.mk.injEq] at hz
  have hr : Row W (some ad) F.l0 := by have := h.r0; rw [hA] at this; exact this
  have ha := (Below.refl W.heap.size W).alloc (Nat.le_refl _) (.cells #[] 28)
  have hown : (W.alloc (.cells #[] 28)).ownsRow W.heap.size 28 2 (.slice (some ⟨W.heap.size, 0, none⟩) 0 0) 0 [] := World.ownsRow_made W #[] 0 (Nat.le_refl _) (by unfold maxLen; omega) rfl
  obtain ⟨v', W', hrun, ho, hg, hnil, _⟩ := run_append_own_at (P := Try.prog) (W.alloc (.cells #[] 28)) W.heap.size 22 22 28 i0 (.agg #[.int .i64 0, .int .i64 0]) 2 16 Try.underlying22 hi0 hz.1 hz.2.1 hz.2.2 rfl (by decide) (.slice (some ⟨W.heap.size, 0, none⟩) 0 0) 0 [] hown ad F.l0.length F.c0 (flat (F.l0.map toP)) (by rw [flat_len, List.length_map]) (fun j u hj => (Grow.of_below (B := 0) ha).cell (row_cells hr j u hj)) (flat_one _) (by unfold maxLen; omega) (by omega) ha.size
  rw [Nat.zero_add, List.nil_append] at ho
  obtain ⟨A', c', e, hc, hR⟩ := Kd.R_reads (own_R28m ho)
  subst e
  have hB : Below W.heap.size W W' := ha.grown hg (by simp) (fun q e => by simp only [Value.ownBlock, Option.some.injEq] at e; omega)
  have hK : Keep W W' := ((Keep.refl W).alloc (.cells #[] 28)).grown hg (fun j o hv ho => by
    simp only [Value.ownBlock, Option.some.injEq] at hv
    subst hv
    rw [World.alloc_heap_new] at ho
    cases ho
    rfl)
  cases A' with
  | none =>
    exfalso
    rcases ho.2 with ⟨e1, _⟩ | ⟨g, cap, cur, e1, _⟩
    · have := (hnil.1 e1).1
      cases this
    · cases e1
  | some ak => exact ⟨ak, c', W', hrun, hR, hB, hK⟩
end Go.Proofs.Ytafmgmaelnpehaa
end

section
namespace Go.Proofs.Ytafmgmaelnpehaa.PFurrowAsks
open Go.RowKit Go.Proofs.YtafmgmaelnpehaaW.PrintWords Go.Proofs.YtafmgmaelnpehaaW.PrintLast Go.Proofs.YtafmgmaelnpehaaW.PrintMore
attribute [local go_sem] max2_int min2_int max_two min_two max_three min_three max_four min_four   -- for this text's walks alone
set_option linter.unusedVariables false
set_option linter.unusedSimpArgs false

/-! ### furrowworksref04_bend: function 55 -/
def furrowworksref04_bend.f (l0 : List Int) (a1 : Int) : Option (Int) := if 0 ≤ a1 then (if a1 < (l0.length : Int) then (if 0 ≤ (wrap64 (a1 - 1)) then (if (wrap64 (a1 - 1)) < (l0.length : Int) then (if 0 ≤ (wrap64 (a1 + 1)) then (if (wrap64 (a1 + 1)) < (l0.length : Int) then (some (mx (wrap64 ((wrap64 ((wrap64 (2 * (rd l0 a1))) - (rd l0 (wrap64 (a1 - 1))))) - (rd l0 (wrap64 (a1 + 1))))) (wrap64 (-(wrap64 ((wrap64 ((wrap64 (2 * (rd l0 a1))) - (rd l0 (wrap64 (a1 - 1))))) - (rd l0 (wrap64 (a1 + 1))))))))) else (none)) else (none)) else (none)) else (none)) else (none)) else (none)
set_option maxHeartbeats 8000000 in
set_option maxRecDepth 100000 in
theorem furrowworksref04_bend.calls (A0 : Option Addr) (c0 : Nat) (l0 : List Int) (a1 : Int) (r : Int) (w : World) (hr0 : Kd.C (Kd.int .i64) w A0 l0.length l0) (hc0 : l0.length ≤ c0) (h : furrowworksref04_bend.f l0 a1 = some r) :
    Calls Try.prog 55 #[.slice A0 l0.length c0, .int .i64 a1] w fun e w' => e = .returned (.int .i64 r) ∧ Below w.heap.size w w' := by
  have HR0 := Aside0.mk hr0
  have HC0 := Aside0.mk hc0
  clear hr0 hc0
  have HB := Aside0.mk (Below.refl w.heap.size w)
  have H : (if 0 ≤ a1 then (if a1 < (l0.length : Int) then (if 0 ≤ (wrap64 (a1 - 1)) then (if (wrap64 (a1 - 1)) < (l0.length : Int) then (if 0 ≤ (wrap64 (a1 + 1)) then (if (wrap64 (a1 + 1)) < (l0.length : Int) then (some (mx (wrap64 ((wrap64 ((wrap64 (2 * (rd l0 a1))) - (rd l0 (wrap64 (a1 - 1))))) - (rd l0 (wrap64 (a1 + 1))))) (wrap64 (-(wrap64 ((wrap64 ((wrap64 (2 * (rd l0 a1))) - (rd l0 (wrap64 (a1 - 1))))) - (rd l0 (wrap64 (a1 + 1))))))))) else (none)) else (none)) else (none)) else (none)) else (none)) else (none)) = some r := h
  clear h
  by_cases c3 : 0 ≤ a1
  · rw [if_pos c3] at H
    have c3b0 : decide (0 ≤ a1) = true := decide_eq_true c3
    clear c3
    by_cases c4 : a1 < (l0.length : Int)
    · rw [if_pos c4] at H
      have c4b0 : decide (a1 < (l0.length : Int)) = true := decide_eq_true c4
      clear c4
      obtain ⟨ji5, hji5⟩ : ∃ j_ : Int, (wrap64 (a1 - 1)) = j_ := ⟨_, rfl⟩
      replace H : (if 0 ≤ (ji5) then (if (ji5) < (l0.length : Int) then (if 0 ≤ (wrap64 (a1 + 1)) then (if (wrap64 (a1 + 1)) < (l0.length : Int) then (some (mx (wrap64 ((wrap64 ((wrap64 (2 * (rd l0 a1))) - (rd l0 (ji5)))) - (rd l0 (wrap64 (a1 + 1))))) (wrap64 (-(wrap64 ((wrap64 ((wrap64 (2 * (rd l0 a1))) - (rd l0 (ji5)))) - (rd l0 (wrap64 (a1 + 1))))))))) else (none)) else (none)) else (none)) else (none)) = some r := by first | (rw [hji5] at H; exact H) | (simp only [hji5] at H ⊢; exact H)
      have hji5w : (IntKind.i64.wrap (a1 - 1)) = ji5 := (i64_w _).trans hji5
      by_cases c6 : 0 ≤ (ji5)
      · rw [if_pos c6] at H
        have c6b0 : decide (0 ≤ (ji5)) = true := decide_eq_true c6
        clear c6
        by_cases c7 : (ji5) < (l0.length : Int)
        · rw [if_pos c7] at H
          have c7b0 : decide ((ji5) < (l0.length : Int)) = true := decide_eq_true c7
          clear c7
          obtain ⟨ji8, hji8⟩ : ∃ j_ : Int, (wrap64 (a1 + 1)) = j_ := ⟨_, rfl⟩
          replace H : (if 0 ≤ (ji8) then (if (ji8) < (l0.length : Int) then (some (mx (wrap64 ((wrap64 ((wrap64 (2 * (rd l0 a1))) - (rd l0 (ji5)))) - (rd l0 (ji8)))) (wrap64 (-(wrap64 ((wrap64 ((wrap64 (2 * (rd l0 a1))) - (rd l0 (ji5)))) - (rd l0 (ji8)))))))) else (none)) else (none)) = some r := by first | (rw [hji8] at H; exact H) | (simp only [hji8] at H ⊢; exact H)
          have hji8w : (IntKind.i64.wrap (a1 + 1)) = ji8 := (i64_w _).trans hji8
          by_cases c9 : 0 ≤ (ji8)
          · rw [if_pos c9] at H
            have c9b0 : decide (0 ≤ (ji8)) = true := decide_eq_true c9
            clear c9
            by_cases c10 : (ji8) < (l0.length : Int)
            · rw [if_pos c10] at H
              have c10b0 : decide ((ji8) < (l0.length : Int)) = true := decide_eq_true c10
              clear c10
              obtain ⟨ji11, hji11⟩ : ∃ j_ : Int, (mx (wrap64 ((wrap64 ((wrap64 (2 * (rd l0 a1))) - (rd l0 (ji5)))) - (rd l0 (ji8)))) (wrap64 (-(wrap64 ((wrap64 ((wrap64 (2 * (rd l0 a1))) - (rd l0 (ji5)))) - (rd l0 (ji8))))))) = j_ := ⟨_, rfl⟩
              replace H : (some ji11) = some r := by first | (rw [hji11] at H; exact H) | (simp only [hji11] at H ⊢; exact H)
              have hji11_ : (if (wrap64 ((wrap64 ((wrap64 (2 * (rd l0 a1))) - (rd l0 (ji5)))) - (rd l0 (ji8)))) < (wrap64 (-(wrap64 ((wrap64 ((wrap64 (2 * (rd l0 a1))) - (rd l0 (ji5)))) - (rd l0 (ji8)))))) then (wrap64 (-(wrap64 ((wrap64 ((wrap64 (2 * (rd l0 a1))) - (rd l0 (ji5)))) - (rd l0 (ji8)))))) else (wrap64 ((wrap64 ((wrap64 (2 * (rd l0 a1))) - (rd l0 (ji5)))) - (rd l0 (ji8))))) = ji11 := hji11
              obtain rfl := Option.some.inj H
              have p164 : 0 ≤ (a1 : Int) := of_decide_eq_true (by first | (with_reducible assumption) | assumption)
              have q164 : a1 < (l0.length : Int) := of_decide_eq_true (by first | (with_reducible assumption) | assumption)
              obtain ⟨ad164, e164, hx164_0⟩ := Kd.at_int HR0.out a1 p164 q164
              cases e164
              replace p164 := eq_true p164
              replace q164 := eq_true q164
              have p165 : 0 ≤ ((ji5) : Int) := of_decide_eq_true (by first | (with_reducible assumption) | assumption)
              have q165 : (ji5) < (l0.length : Int) := of_decide_eq_true (by first | (with_reducible assumption) | assumption)
              obtain ⟨ad165, e165, hx165_0⟩ := Kd.at_int HR0.out (ji5) p165 q165
              obtain rfl : ad164 = ad165 := (by injection e165)
              replace p165 := eq_true p165
              replace q165 := eq_true q165
              have p166 : 0 ≤ ((ji8) : Int) := of_decide_eq_true (by first | (with_reducible assumption) | assumption)
              have q166 : (ji8) < (l0.length : Int) := of_decide_eq_true (by first | (with_reducible assumption) | assumption)
              obtain ⟨ad166, e166, hx166_0⟩ := Kd.at_int HR0.out (ji8) p166 q166
              obtain rfl : ad164 = ad166 := (by injection e166)
              replace p166 := eq_true p166
              replace q166 := eq_true q166
              go_enter Try.func55, Try.ntmps55
              go_wp2
              repeat (go_quiet (fail); try go_wp2)
              go_ret
              exact ⟨by first | rfl | (simp [errW_none, errW_some] <;> rfl) | (simp only [← hji5, ← hji8, ← hji11]; first | rfl | (simp [errW_none, errW_some] <;> rfl)) | (simp [*, errW_none, errW_some] <;> rfl), by repeat (first | (with_reducible first | exact HB.out | apply below_alloc | apply pw_below_drewN | apply below_drew1) | exact HB.out)⟩
            · rw [if_neg c10] at H
              exact absurd H (by simp)
          · rw [if_neg c9] at H
            exact absurd H (by simp)
        · rw [if_neg c7] at H
          exact absurd H (by simp)
      · rw [if_neg c6] at H
        exact absurd H (by simp)
    · rw [if_neg c4] at H
      exact absurd H (by simp)
  · rw [if_neg c3] at H
    exact absurd H (by simp)

end Go.Proofs.Ytafmgmaelnpehaa.PFurrowAsks
end

section
namespace Go.Proofs.Ytafmgmaelnpehaa.PFurrowAsks
open Go.RowKit Go.Proofs.YtafmgmaelnpehaaW.PrintWords Go.Proofs.YtafmgmaelnpehaaW.PrintLast Go.Proofs.YtafmgmaelnpehaaW.PrintMore
attribute [local go_sem] max2_int min2_int max_two min_two max_three min_three max_four min_four   -- for this text's walks alone
set_option linter.unusedVariables false
set_option linter.unusedSimpArgs false

/-! ### furrowworksref04_Most: function 33 -/
def furrowworksref04_Most.l0 : Nat → List Int → Int → Int → Option (Int)
  | 0, _, _, _ => none
  | k + 1, x0, x3, x4 => if (wrap64 (x4 + 1)) < (x0.length : Int) then ((furrowworksref04_bend.f x0 x4).bind fun t167 => (furrowworksref04_Most.l0 k x0 (mx x3 t167) (wrap64 (x4 + 1)))) else (some x3)
def furrowworksref04_Most.f (k : Nat) (l0 : List Int) : Option (Int) := furrowworksref04_Most.l0 k l0 0 1
theorem furrowworksref04_Most.mono_l : ∀ k, (∀ y0 y1 y2, LeO (furrowworksref04_Most.l0 k y0 y1 y2) (furrowworksref04_Most.l0 (k + 1) y0 y1 y2))
  | 0 => fun _ _ _ r h => by simp [furrowworksref04_Most.l0] at h
  | k + 1 => by
    have ih0 := furrowworksref04_Most.mono_l k
    · intro y0 y1 y2
      unfold furrowworksref04_Most.l0
      repeat' first
      | (with_reducible exact ih0 _ _ _)
      | (with_reducible exact LeO.refl _)
      | (with_reducible exact LeO.none _)
      | (with_reducible refine LeO.ite ?_ ?_)
      | (with_reducible refine LeO.bind ?_ (fun _ => ?_))
      | exact ih0 _ _ _
      | exact LeO.none _
      | refine LeO.ite ?_ ?_
      | refine LeO.bind ?_ (fun _ => ?_)
theorem furrowworksref04_Most.mono : ∀ a0 k, LeO (furrowworksref04_Most.f k a0) (furrowworksref04_Most.f (k + 1) a0) := by
  intro a0 k
  have ih0 := furrowworksref04_Most.mono_l k
  unfold furrowworksref04_Most.f
  repeat' first
      | (with_reducible exact ih0 _ _ _)
      | (with_reducible exact LeO.refl _)
      | (with_reducible exact LeO.none _)
      | (with_reducible refine LeO.ite ?_ ?_)
      | (with_reducible refine LeO.bind ?_ (fun _ => ?_))
      | exact ih0 _ _ _
      | exact LeO.none _
      | refine LeO.ite ?_ ?_
      | refine LeO.bind ?_ (fun _ => ?_)
set_option maxHeartbeats 8000000 in
set_option maxRecDepth 100000 in
theorem furrowworksref04_Most.calls (k : Nat) (A0 : Option Addr) (c0 : Nat) (l0 : List Int) (r : Int) (w : World) (hr0 : Kd.C (Kd.int .i64) w A0 l0.length l0) (hc0 : l0.length ≤ c0) (h : furrowworksref04_Most.f k l0 = some r) :
    Calls Try.prog 33 #[.slice A0 l0.length c0] w fun e w' => e = .returned (.int .i64 r) ∧ Below w.heap.size w w' := by
  have HR0 := Aside0.mk hr0
  have HC0 := Aside0.mk hc0
  clear hr0 hc0
  have HB := Aside0.mk (Below.refl w.heap.size w)
  have H : (furrowworksref04_Most.l0 k l0 0 1) = some r := h
  clear h
  have H' := Aside0.mk H
  clear H
  go_enter Try.func33, Try.ntmps33
  go_wp2
  go_loopg [3, 4] k (fun kq v3 v4 w' => ∃ (x3_1 : Int) (x4_1 : Int), v3 = .int .i64 x3_1 ∧ v4 = .int .i64 x4_1 ∧ Aside0 (furrowworksref04_Most.l0 kq l0 x3_1 x4_1 = some r) ∧ Aside0 (kq ≤ k) ∧ Aside0 (Below w.heap.size w w'))
  case atStart => exact ⟨(0), (1), (by first | rfl | (simp; done) | (simp [*]; done)), (by first | rfl | (simp; done) | (simp [*]; done)), H', ⟨Nat.le_refl _⟩, ⟨by repeat (first | (with_reducible first | exact HB.out | apply below_alloc | apply pw_below_drewN | apply below_drew1) | exact HB.out)⟩⟩
  case round =>
    clear H'
    obtain ⟨x3_1, x4_1, rfl, rfl, HA, HK1, HB⟩ := hrel
    cases gk with
    | zero => exact absurd HA.out (by simp [furrowworksref04_Most.l0])
    | succ k1 =>
      have H := HA.out
      clear HA
      simp only [furrowworksref04_Most.l0] at H
      by_cases c2 : (wrap64 (x4_1 + 1)) < (l0.length : Int)
      · rw [if_pos c2] at H
        have c2b0 : decide ((wrap64 (x4_1 + 1)) < (l0.length : Int)) = true := decide_eq_true c2
        clear c2
        replace H := Option.bind_eq_some_iff.mp H
        obtain ⟨t167, A30, H⟩ := H
        replace H : (furrowworksref04_Most.l0 k1 l0 (mx x3_1 t167) (wrap64 (x4_1 + 1))) = some r := H
        have A3 := Aside0.mk A30
        clear A30
        obtain ⟨ji4, hji4⟩ : ∃ j_ : Int, (mx x3_1 t167) = j_ := ⟨_, rfl⟩
        replace H : (furrowworksref04_Most.l0 k1 l0 ji4 (wrap64 (x4_1 + 1))) = some r := by first | (rw [hji4] at H; exact H) | (simp only [hji4] at H ⊢; exact H)
        (try rw [hji4] at A3)
        have hji4_ : (if x3_1 < t167 then t167 else x3_1) = ji4 := hji4
        have H' := Aside0.mk H
        clear H
        go_wp2_with (first | ((with_reducible refine gate_callee (f := 55) rfl ?_); refine goesL_ (some 15) rfl rfl Try.func55 (by kernel_rfl) rfl #[.slice A0 l0.length c0, .int .i64 x4_1] rfl (by (try simp only [List.map_toArray, List.map_cons, List.map_nil]); first | done | rfl | (simp only [List.length_drop, List.length_take]; rfl)) ?_; (with_reducible refine (furrowworksref04_bend.calls _ _ l0 x4_1 t167 _ ?side1 ?side2 A3.out).mono ?_); (case side1 => repeat (first | exact (Kd.C_below HR0.out HB.out) | (with_reducible refine Kd.C_alloc ?_ _) | (with_reducible refine Kd.C_drewN ?_ _) | (with_reducible refine Kd.C_drew ?_))); (case side2 => exact HC0.out); rintro e w5 ⟨rfl, hb⟩; refine ⟨_, rfl, ?_⟩; have n0_ := Aside0.mk (below_step (by repeat (first | (with_reducible first | exact HB.out | apply below_alloc | apply pw_below_drewN | apply below_drew1) | exact HB.out)) hb); clear HB; have HB := n0_; clear n0_; (try clear hb); (try clear hb2); (try clear hk); (try clear hi)))
        go_roundg k1
        case measure => have := HK1.out; omega
        case rel => exact ⟨(ji4), (wrap64 (x4_1 + 1)), (by first | rfl | (simp; done) | (simp only [← hji4] <;> (first | rfl | simp)) | (simp [*]; done)), (by first | rfl | (simp; done) | (simp [*]; done)), H', ⟨by have := HK1.out; omega⟩, ⟨by repeat (first | (with_reducible first | exact HB.out | apply below_alloc | apply pw_below_drewN | apply below_drew1) | exact HB.out)⟩⟩
      · rw [if_neg c2] at H
        have c2b0 : decide ((wrap64 (x4_1 + 1)) < (l0.length : Int)) = false := decide_eq_false c2
        clear c2
        obtain rfl := Option.some.inj H
        go_wp2
        go_ret
        exact ⟨by first | rfl | (simp [errW_none, errW_some] <;> rfl) | (simp [*, errW_none, errW_some] <;> rfl), by repeat (first | (with_reducible first | exact HB.out | apply below_alloc | apply pw_below_drewN | apply below_drew1) | exact HB.out)⟩

end Go.Proofs.Ytafmgmaelnpehaa.PFurrowAsks
end
