/- Proved: FurrowStraight returns true for all furrows and bytes, in whatever order Go evaluates what it leaves open; no condition. -/
import Derived.Test.YtafmgmaelnpehaaC3
import Derived.Test.YtafmgmaelnpehaaC1
import Derived.Maps.OwnIn
import Derived.Lib.Hide
import Derived.Test.YtafmgmaelnpehaaC2
import Derived.Deep.SlicePairs
import Derived.Lib.SmallJoins
import Derived.Carry
import Derived.ChangeArms
import Derived.ChangeOld
import Derived.WideShapes
import Derived.Test.YtafmgmaelnpehaaRows
import Derived.WalkKit
import Derived.ProofKit
import Derived.OpenShut
import Derived.ShutString
import Derived.Below
import Derived.SizedLaws
section
set_option linter.unusedVariables false
set_option linter.unusedSimpArgs false
namespace Go.Proofs.Ytafmgmaelnpehaa
open Go.RowKit Go.Fu PFurrowAsks Go.Proofs.YtafmgmaelnpehaaW.PrintWords
/-! ### Bits -/
theorem or_all : (List.range 8).all (fun k => (List.range (2 ^ k)).all fun s => bits .or .i64 (s : Int) (wrap64 (2 ^ k)) == ((s + 2 ^ k : Nat) : Int)) = true := by kernel_rfl
theorem or_is (k s : Nat) (hk : k < 8) (hs : s < 2 ^ k) : bits .or .i64 (s : Int) (wrap64 (2 ^ k)) = ((s + 2 ^ k : Nat) : Int) := by
  have h := List.all_eq_true.1 or_all k (List.mem_range.2 hk)
  have h2 := List.all_eq_true.1 h s (List.mem_range.2 hs)
  exact eq_of_beq h2
/-- A set of stations, as a number. -/
def setN (p : Nat → Bool) : Nat → Nat
  | 0 => 0
  | k + 1 => setN p k + if p k then 2 ^ k else 0
theorem setN_lt (p : Nat → Bool) : ∀ k, setN p k < 2 ^ k
  | 0 => by simp [setN]
  | k + 1 => by
    have := setN_lt p k
    unfold setN
    rw [Nat.pow_succ]
    split <;> omega
theorem shM_set (p : Nat → Bool) : ∀ k, k ≤ 8 → shM p k = ((setN p k : Nat) : Int)
  | 0, _ => rfl
  | k + 1, h => by
    unfold shM setN
    rw [shM_set p k (by omega)]
    split
    · rw [or_is k _ (by omega) (setN_lt p k)]
    · simp
theorem setN_bit (p : Nat → Bool) : ∀ (n i : Nat), setN p n / 2 ^ i % 2 = if i < n ∧ p i = true then 1 else 0
  | 0, i => by simp [setN]
  | n + 1, i => by
    have ih := setN_bit p n i
    have hlt := setN_lt p n
    unfold setN
    rcases Nat.lt_trichotomy i n with h | h | h
    · have e : (setN p n + if p n = true then 2 ^ n else 0) / 2 ^ i % 2 = setN p n / 2 ^ i % 2 := by
        split
        · have : 2 ^ n = 2 ^ i * (2 * 2 ^ (n - i - 1)) := by
            rw [← Nat.pow_succ', ← Nat.pow_add]
            congr 1
            omega
          rw [this, Nat.add_mul_div_left _ _ (Nat.two_pow_pos i), Nat.add_mul_mod_self_left]
        · simp
      rw [e, ih]
      congr 1
      apply propext
      constructor
      · rintro ⟨_, h2⟩; exact ⟨by omega, h2⟩
      · rintro ⟨_, h2⟩; exact ⟨h, h2⟩
    · subst h
      split
      · rename_i hp
        rw [Nat.add_div_right _ (Nat.two_pow_pos i), Nat.div_eq_of_lt hlt]
        simp [hp]
      · rename_i hp
        rw [Nat.add_zero, Nat.div_eq_of_lt hlt]
        simp [hp]
    · have : setN p n + (if p n = true then 2 ^ n else 0) < 2 ^ i := by
        have h1 : 2 ^ (n + 1) ≤ 2 ^ i := Nat.pow_le_pow_right (by omega) (by omega)
        rw [Nat.pow_succ] at h1
        split <;> omega
      rw [Nat.div_eq_of_lt this]
      simp
      intro h1
      omega
end Go.Proofs.Ytafmgmaelnpehaa
end

section
set_option linter.unusedVariables false
set_option linter.unusedSimpArgs false
namespace Go.Proofs.Ytafmgmaelnpehaa
open Go.RowKit Go.Fu
theorem bendI_nn (a b c : Int) : 0 ≤ bendI a b c := by unfold bendI; split <;> omega
theorem bnd_nn (x : Nat → Int) (n : Nat) : 0 ≤ bnd x n := bendI_nn _ _ _
def allBends (A B C : List Int) : List Int := A.flatMap fun a => B.flatMap fun b => C.map fun c => bendI a b c
theorem stA_eq (A B C : List Int) (st : Bool × Int × Int) : stA A B C st = (allBends A B C).foldl step1 st := by
  unfold stA allBends stB stC
  rw [List.foldl_flatMap]
  congr 1
  funext s a
  rw [List.foldl_flatMap]
  congr 1
  funext s b
  rw [List.foldl_map]
theorem step_fold : ∀ (L : List Int) (lo hi : Int), lo ≤ hi → ∃ lo' hi', L.foldl step1 (true, lo, hi) = (true, lo', hi') ∧ lo' ≤ lo ∧ hi ≤ hi' ∧ (lo' = lo ∨ lo' ∈ L) ∧ (hi' = hi ∨ hi' ∈ L) ∧ ∀ v ∈ L, lo' ≤ v ∧ v ≤ hi'
  | [], lo, hi, h => ⟨lo, hi, rfl, Int.le_refl _, Int.le_refl _, .inl rfl, .inl rfl, fun v hv => by cases hv⟩
  | v :: L, lo, hi, h => by
    obtain ⟨lo', hi', h1, h2, h3, h4, h5, h6⟩ := step_fold L (if v < lo then v else lo) (if hi < v then v else hi) (by split <;> split <;> omega)
    refine ⟨lo', hi', ?_, ?_, ?_, ?_, ?_, ?_⟩
    · rw [List.foldl_cons]; exact h1
    · split at h2 <;> omega
    · split at h3 <;> omega
    · rcases h4 with h4 | h4
      · split at h4
        · exact .inr (by rw [h4]; exact List.mem_cons_self)
        · exact .inl h4
      · exact .inr (List.mem_cons_of_mem _ h4)
    · rcases h5 with h5 | h5
      · split at h5
        · exact .inr (by rw [h5]; exact List.mem_cons_self)
        · exact .inl h5
      · exact .inr (List.mem_cons_of_mem _ h5)
    · intro u hu
      rcases List.mem_cons.1 hu with rfl | hu
      · constructor
        · split at h2 <;> omega
        · split at h3 <;> omega
      · exact h6 u hu
theorem fold_spec (L : List Int) (hL : L ≠ []) : ((L.foldl step1 (false, 0, 0)).2.1 ∈ L ∧ (L.foldl step1 (false, 0, 0)).2.2 ∈ L) ∧ ∀ v ∈ L, (L.foldl step1 (false, 0, 0)).2.1 ≤ v ∧ v ≤ (L.foldl step1 (false, 0, 0)).2.2 := by
  cases L with
  | nil => exact absurd rfl hL
  | cons v L =>
    have e : (v :: L).foldl step1 (false, 0, 0) = L.foldl step1 (true, v, v) := rfl
    obtain ⟨lo', hi', h1, h2, h3, h4, h5, h6⟩ := step_fold L v v (Int.le_refl _)
    rw [e, h1]
    refine ⟨⟨?_, ?_⟩, fun u hu => ?_⟩
    · rcases h4 with h4 | h4
      · show lo' ∈ _; rw [h4]; exact List.mem_cons_self
      · exact List.mem_cons_of_mem _ h4
    · rcases h5 with h5 | h5
      · show hi' ∈ _; rw [h5]; exact List.mem_cons_self
      · exact List.mem_cons_of_mem _ h5
    · rcases List.mem_cons.1 hu with rfl | hu
      · exact ⟨h2, h3⟩
      · exact h6 u hu
theorem mem_bends (A B C : List Int) (v : Int) : v ∈ allBends A B C ↔ ∃ a ∈ A, ∃ b ∈ B, ∃ c ∈ C, bendI a b c = v := by simp [allBends]
/-- Three offsets beside one another are those of some truth. -/
theorem truth_three {l : List (Int × Int)} (hok : ∀ x ∈ l, okSpan x) {n : Nat} (h1 : 1 ≤ n) (h2 : n + 1 < l.length) {a b c : Int} (ha : InS l (n - 1) a) (hb : InS l n b) (hc : InS l (n + 1) c) : ∃ x, Truth l x ∧ bnd x n = bendI a b c := by
  refine ⟨fun i => if i = n - 1 then a else if i = n then b else if i = n + 1 then c else (l.getD i (0, 0)).1, fun i hi => ?_, ?_⟩
  · simp only
    by_cases e1 : i = n - 1
    · rw [if_pos e1, e1]; exact ha
    · rw [if_neg e1]
      by_cases e2 : i = n
      · rw [if_pos e2, e2]; exact hb
      · rw [if_neg e2]
        by_cases e3 : i = n + 1
        · rw [if_pos e3, e3]; exact hc
        · rw [if_neg e3]; exact lo_in hok i hi
  · unfold bnd
    simp only
    simp only [if_true, show n ≠ n - 1 by omega, show n + 1 ≠ n - 1 by omega, show n + 1 ≠ n by omega, if_false]
structure AtSpec (l : List (Int × Int)) (n : Nat) (s : Int × Int) : Prop where
  all : ∀ x, Truth l x → s.1 ≤ bnd x n ∧ bnd x n ≤ s.2
  lo : ∃ x, Truth l x ∧ bnd x n = s.1
  hi : ∃ x, Truth l x ∧ bnd x n = s.2
theorem at_spec (l : List (Int × Int)) (n : Nat) (h1 : 1 ≤ n) (h2 : n + 1 < l.length) (hok : ∀ x ∈ l, okSpan x) : AtSpec l n (atF l n) := by
  have hm : ∀ v, v ∈ allBends (spanL (l.getD (n - 1) (0, 0))) (spanL (l.getD n (0, 0))) (spanL (l.getD (n + 1) (0, 0))) ↔ ∃ a, InS l (n - 1) a ∧ ∃ b, InS l n b ∧ ∃ c, InS l (n + 1) c ∧ bendI a b c = v := by
    intro v
    rw [mem_bends]
    simp only [mem_in]
  have he : atF l n = ((allBends (spanL (l.getD (n - 1) (0, 0))) (spanL (l.getD n (0, 0))) (spanL (l.getD (n + 1) (0, 0)))).foldl step1 (false, 0, 0)).2 := by
    unfold atF
    rw [stA_eq]
  have hne : allBends (spanL (l.getD (n - 1) (0, 0))) (spanL (l.getD n (0, 0))) (spanL (l.getD (n + 1) (0, 0))) ≠ [] := by
    intro e
    have := (hm (bendI (l.getD (n - 1) (0, 0)).1 (l.getD n (0, 0)).1 (l.getD (n + 1) (0, 0)).1)).2 ⟨_, lo_in hok _ (by omega), _, lo_in hok _ (by omega), _, lo_in hok _ (by omega), rfl⟩
    rw [e] at this
    cases this
  obtain ⟨⟨s1, s2⟩, s3⟩ := fold_spec _ hne
  rw [← he] at s1 s2 s3
  refine ⟨fun x hx => s3 _ ((hm _).2 ⟨_, hx _ (by omega), _, hx _ (by omega), _, hx _ h2, rfl⟩), ?_, ?_⟩
  · obtain ⟨a, ha, b, hb, c, hc, e⟩ := (hm _).1 s1
    obtain ⟨x, hx, hbx⟩ := truth_three hok h1 h2 ha hb hc
    exact ⟨x, hx, hbx.trans e⟩
  · obtain ⟨a, ha, b, hb, c, hc, e⟩ := (hm _).1 s2
    obtain ⟨x, hx, hbx⟩ := truth_three hok h1 h2 ha hb hc
    exact ⟨x, hx, hbx.trans e⟩
/-- The greatest bend at the stations 1 to k. -/
def mostF (x : Nat → Int) : Nat → Int
  | 0 => 0
  | k + 1 => if mostF x k < bnd x (k + 1) then bnd x (k + 1) else mostF x k
theorem mostF_nn (x : Nat → Int) : ∀ k, 0 ≤ mostF x k
  | 0 => Int.le_refl _
  | k + 1 => by have := mostF_nn x k; have := bnd_nn x (k + 1); unfold mostF; split <;> omega
theorem mostF_le (x : Nat → Int) (m : Int) (hm : 0 ≤ m) : ∀ k, mostF x k ≤ m ↔ ∀ n, 1 ≤ n → n ≤ k → bnd x n ≤ m
  | 0 => ⟨fun _ n h1 h2 => by omega, fun _ => hm⟩
  | k + 1 => by
    have ih := mostF_le x m hm k
    unfold mostF
    constructor
    · intro h n h1 h2
      by_cases e : n = k + 1
      · subst e; split at h <;> omega
      · exact ih.1 (by split at h <;> omega) n h1 (by omega)
    · intro h
      have h3 := h (k + 1) (by omega) (Nat.le_refl _)
      have h4 := ih.2 fun n h1 h2 => h n h1 (by omega)
      split <;> omega
theorem mostF_at (x : Nat → Int) : ∀ k, mostF x k = 0 ∨ ∃ n, 1 ≤ n ∧ n ≤ k ∧ bnd x n = mostF x k
  | 0 => .inl rfl
  | k + 1 => by
    unfold mostF
    split
    · exact .inr ⟨k + 1, by omega, Nat.le_refl _, rfl⟩
    · rcases mostF_at x k with h | ⟨n, h1, h2, h3⟩
      · exact .inl h
      · exact .inr ⟨n, h1, by omega, h3⟩
/-- The bend of the furrow that lies so. -/
def mostL (l : List (Int × Int)) (x : Nat → Int) : Int := mostF x (l.length - 2)
theorem mostL_le {l : List (Int × Int)} {x : Nat → Int} {m : Int} (hm : 0 ≤ m) : mostL l x ≤ m ↔ ∀ n, 1 ≤ n → n + 1 < l.length → bnd x n ≤ m := by
  unfold mostL
  rw [mostF_le x m hm]
  exact ⟨fun h n h1 h2 => h n h1 (by omega), fun h n h1 h2 => h n h1 (by omega)⟩
theorem bnd_le_most {l : List (Int × Int)} {x : Nat → Int} {n : Nat} (h1 : 1 ≤ n) (h2 : n + 1 < l.length) : bnd x n ≤ mostL l x := (mostL_le (mostF_nn x _)).1 (Int.le_refl _) n h1 h2
theorem canB_most {l : List (Int × Int)} (hok : ∀ x ∈ l, okSpan x) {m : Int} (hm : 0 ≤ m) : canB l (upP m) = true ↔ ∃ x, Truth l x ∧ mostL l x ≤ m := by
  rw [canB_iff l _ hok]
  constructor
  · rintro ⟨x, hx, h⟩
    exact ⟨x, hx, (mostL_le hm).2 fun n h1 h2 => of_decide_eq_true (h n h1 h2)⟩
  · rintro ⟨x, hx, h⟩
    exact ⟨x, hx, fun n h1 h2 => decide_eq_true ((mostL_le hm).1 h n h1 h2)⟩
theorem least_spec (l : List (Int × Int)) (hok : ∀ x ∈ l, okSpan x) : (∃ x, Truth l x ∧ mostL l x = leastN l) ∧ ∀ x, Truth l x → (leastN l : Int) ≤ mostL l x := by
  have hl := leastN_is l hok
  have hall : ∀ x, Truth l x → (leastN l : Int) ≤ mostL l x := by
    intro x hx
    refine Int.not_lt.1 fun hlt => ?_
    have h0 := mostF_nn x (l.length - 2)
    obtain ⟨k, hk⟩ : ∃ k : Nat, mostL l x = k := ⟨(mostL l x).toNat, by unfold mostL; omega⟩
    have h1 := hl.2 k (by omega)
    have h2 := (canB_most hok (m := (k : Int)) (by omega)).2 ⟨x, hx, by omega⟩
    rw [h1] at h2
    cases h2
  obtain ⟨x, hx, hm⟩ := (canB_most hok (m := ((leastN l : Nat) : Int)) (by omega)).1 hl.1
  exact ⟨⟨x, hx, by have := hall x hx; omega⟩, hall⟩
theorem lo_truth {l : List (Int × Int)} (hok : ∀ x ∈ l, okSpan x) : Truth l fun i => (l.getD i (0, 0)).1 := fun i hi => lo_in hok i hi
theorem hiF_all (l : List (Int × Int)) (hok : ∀ x ∈ l, okSpan x) : ∀ k, k + 2 ≤ l.length ∨ k = 0 → 0 ≤ hiF l k ∧ (∀ n, 1 ≤ n → n ≤ k → (atF l n).2 ≤ hiF l k) ∧ (hiF l k = 0 ∨ ∃ n, 1 ≤ n ∧ n ≤ k ∧ (atF l n).2 = hiF l k)
  | 0, _ => ⟨Int.le_refl _, fun n h1 h2 => by omega, .inl rfl⟩
  | k + 1, h => by
    obtain ⟨i1, i2, i3⟩ := hiF_all l hok k (by omega)
    unfold hiF
    refine ⟨by split <;> omega, fun n h1 h2 => ?_, ?_⟩
    · by_cases e : n = k + 1
      · subst e; split <;> omega
      · have := i2 n h1 (by omega); split <;> omega
    · split
      · exact .inr ⟨k + 1, by omega, Nat.le_refl _, rfl⟩
      · rcases i3 with i3 | ⟨n, h1, h2, h3⟩
        · exact .inl i3
        · exact .inr ⟨n, h1, by omega, h3⟩
theorem hi_spec (l : List (Int × Int)) (hok : ∀ x ∈ l, okSpan x) : (∃ x, Truth l x ∧ mostL l x = hiF l (l.length - 2)) ∧ ∀ x, Truth l x → mostL l x ≤ hiF l (l.length - 2) := by
  obtain ⟨i1, i2, i3⟩ := hiF_all l hok (l.length - 2) (by omega)
  have hall : ∀ x, Truth l x → mostL l x ≤ hiF l (l.length - 2) := fun x hx => (mostL_le i1).2 fun n h1 h2 => Int.le_trans ((at_spec l n h1 h2 hok).all x hx).2 (i2 n h1 (by omega))
  refine ⟨?_, hall⟩
  rcases i3 with i3 | ⟨n, h1, h2, h3⟩
  · refine ⟨_, lo_truth hok, ?_⟩
    have := hall _ (lo_truth hok)
    have := mostF_nn (fun i => (l.getD i (0, 0)).1) (l.length - 2)
    unfold mostL at *
    omega
  · obtain ⟨x, hx, hb⟩ := (at_spec l n h1 (by omega) hok).hi
    refine ⟨x, hx, ?_⟩
    have := hall x hx
    have := bnd_le_most (l := l) (x := x) h1 (by omega)
    omega
/-! ### Where it bends most -/
theorem worstC_iff (l : List (Int × Int)) (n : Nat) (h1 : 1 ≤ n) (h2 : n + 1 < l.length) (hok : ∀ x ∈ l, okSpan x) : worstC l n = true ↔ ∃ x, Truth l x ∧ ∀ i, 1 ≤ i → i + 1 < l.length → bnd x i ≤ bnd x n := by
  have hs := at_spec l n h1 h2 hok
  unfold worstC
  simp only [Bool.and_eq_true, decide_eq_true_eq, List.any_eq_true, h1, true_and]
  constructor
  · rintro ⟨own, ho, hc⟩
    obtain ⟨x, hx, hp⟩ := (canB_iff l _ hok).1 hc
    refine ⟨x, hx, fun i i1 i2 => ?_⟩
    have hn := hp n h1 h2
    have hi := hp i i1 i2
    unfold wp1 at hn hi
    simp only [Bool.or_eq_true, decide_eq_true_eq, Bool.and_eq_true, Bool.not_eq_true', decide_eq_false_iff_not] at hn hi
    rcases hn with hn | hn
    · rcases hi with hi | hi <;> omega
    · exact absurd trivial hn.2
  · rintro ⟨x, hx, hm⟩
    refine ⟨bnd x n, (mem_spanL _ _).2 (hs.all x hx), (canB_iff l _ hok).2 ⟨x, hx, fun i i1 i2 => ?_⟩⟩
    unfold wp1
    simp only [Bool.or_eq_true, decide_eq_true_eq, Bool.and_eq_true, Bool.not_eq_true', decide_eq_false_iff_not]
    have := hm i i1 i2
    by_cases e : bnd x i = bnd x n
    · exact .inl e
    · refine .inr ⟨by omega, fun e2 => e ?_⟩
      have : i = n := by exact_mod_cast e2
      rw [this]
theorem worstS_iff (l : List (Int × Int)) (n : Nat) (h1 : 1 ≤ n) (h2 : n + 1 < l.length) (hok : ∀ x ∈ l, okSpan x) : worstS l n = true ↔ ∀ x, Truth l x → ∀ i, 1 ≤ i → i + 1 < l.length → bnd x i ≤ bnd x n := by
  have hs := at_spec l n h1 h2 hok
  unfold worstS
  simp only [Bool.and_eq_true, decide_eq_true_eq, Bool.not_eq_true', h1, true_and, List.any_eq_false]
  constructor
  · intro h x hx i i1 i2
    refine Int.not_lt.1 fun hlt => ?_
    have hne : i ≠ n := by rintro rfl; omega
    refine h (bnd x n) ((mem_spanL _ _).2 (hs.all x hx)) ?_
    unfold lessO
    rw [List.any_eq_true]
    refine ⟨i, List.mem_range.2 (by omega), ?_⟩
    simp only [Bool.and_eq_true, decide_eq_true_eq, Bool.not_eq_true', decide_eq_false_iff_not]
    refine ⟨⟨i1, hne⟩, (canB_iff l _ hok).2 ⟨x, hx, fun m m1 m2 => ?_⟩⟩
    unfold wp2
    simp only [Bool.or_eq_true, decide_eq_true_eq, Bool.and_eq_true, Bool.not_eq_true', decide_eq_false_iff_not]
    constructor
    · by_cases e : m = n
      · exact .inr (by rw [e])
      · exact .inl (by omega)
    · by_cases e : m = i
      · exact .inr (by rw [e]; exact hlt)
      · exact .inl (by omega)
  · intro h own ho hl
    unfold lessO at hl
    rw [List.any_eq_true] at hl
    obtain ⟨i, hi, hc⟩ := hl
    simp only [Bool.and_eq_true, decide_eq_true_eq, Bool.not_eq_true', decide_eq_false_iff_not] at hc
    have hir := List.mem_range.1 hi
    obtain ⟨x, hx, hp⟩ := (canB_iff l _ hok).1 hc.2
    have a := hp n h1 h2
    have b := hp i hc.1.1 (by omega)
    unfold wp2 at a b
    simp only [Bool.or_eq_true, decide_eq_true_eq, Bool.and_eq_true, Bool.not_eq_true', decide_eq_false_iff_not] at a b
    have := h x hx i hc.1.1 (by omega)
    have ha : bnd x n = own := by rcases a.1 with a | a <;> first | exact a | exact absurd trivial a
    have hb : own < bnd x i := by rcases b.2 with b | b <;> first | exact b | exact absurd trivial b
    omega
end Go.Proofs.Ytafmgmaelnpehaa
end

section
namespace Go.Proofs.Ytafmgmaelnpehaa.PFurrowAsks
open Go.RowKit Go.Proofs.YtafmgmaelnpehaaW.PrintWords Go.Proofs.YtafmgmaelnpehaaW.PrintLast Go.Proofs.YtafmgmaelnpehaaW.PrintMore
attribute [local go_sem] max2_int min2_int max_two min_two max_three min_three max_four min_four   -- for this text's walks alone
set_option linter.unusedVariables false
set_option linter.unusedSimpArgs false

/-! ### furrowworksref04_power: function 63 -/
def furrowworksref04_power.l0 : Nat → Int → Int → Int → Option (Int)
  | 0, _, _, _ => none
  | k + 1, x0, x3, x4 => if x4 < x0 then (furrowworksref04_power.l0 k x0 (wrap64 (2 * x3)) (wrap64 (x4 + 1))) else (some x3)
def furrowworksref04_power.f (k : Nat) (a0 : Int) : Option (Int) := furrowworksref04_power.l0 k a0 1 0
theorem furrowworksref04_power.mono_l : ∀ k, (∀ y0 y1 y2, LeO (furrowworksref04_power.l0 k y0 y1 y2) (furrowworksref04_power.l0 (k + 1) y0 y1 y2))
  | 0 => fun _ _ _ r h => by simp [furrowworksref04_power.l0] at h
  | k + 1 => by
    have ih0 := furrowworksref04_power.mono_l k
    · intro y0 y1 y2
      unfold furrowworksref04_power.l0
      repeat' first
      | (with_reducible exact ih0 _ _ _)
      | (with_reducible exact LeO.refl _)
      | (with_reducible exact LeO.none _)
      | (with_reducible refine LeO.ite ?_ ?_)
      | (with_reducible refine LeO.bind ?_ (fun _ => ?_))
      | exact ih0 _ _ _
      | exact LeO.none _
      | refine LeO.ite ?_ ?_
      | refine LeO.bind ?_ (fun _ => ?_)
theorem furrowworksref04_power.mono : ∀ a0 k, LeO (furrowworksref04_power.f k a0) (furrowworksref04_power.f (k + 1) a0) := by
  intro a0 k
  have ih0 := furrowworksref04_power.mono_l k
  unfold furrowworksref04_power.f
  repeat' first
      | (with_reducible exact ih0 _ _ _)
      | (with_reducible exact LeO.refl _)
      | (with_reducible exact LeO.none _)
      | (with_reducible refine LeO.ite ?_ ?_)
      | (with_reducible refine LeO.bind ?_ (fun _ => ?_))
      | exact ih0 _ _ _
      | exact LeO.none _
      | refine LeO.ite ?_ ?_
      | refine LeO.bind ?_ (fun _ => ?_)
set_option maxHeartbeats 8000000 in
set_option maxRecDepth 100000 in
theorem furrowworksref04_power.calls (k : Nat) (a0 : Int) (r : Int) (w : World) (h : furrowworksref04_power.f k a0 = some r) :
    Calls Try.prog 63 #[.int .i64 a0] w fun e w' => e = .returned (.int .i64 r) ∧ Drawn0 w w' := by
  have H : (furrowworksref04_power.l0 k a0 1 0) = some r := h
  clear h
  have H' := Aside0.mk H
  clear H
  go_enter Try.func63, Try.ntmps63
  go_wp2
  go_loopg [3, 4] k (fun kq v3 v4 w' => ∃ (x3_1 : Int) (x4_1 : Int), v3 = .int .i64 x3_1 ∧ v4 = .int .i64 x4_1 ∧ Aside0 (furrowworksref04_power.l0 kq a0 x3_1 x4_1 = some r) ∧ Aside0 (kq ≤ k) ∧ Drawn0 w w')
  case atStart => exact ⟨(1), (0), (by first | rfl | (simp; done) | (simp [*]; done)), (by first | rfl | (simp; done) | (simp [*]; done)), H', ⟨Nat.le_refl _⟩, by repeat (first | exact Drawn0.refl _ | apply Drawn0.step)⟩
  case round =>
    clear H'
    obtain ⟨x3_1, x4_1, rfl, rfl, HA, HK1, ⟨m1, rfl⟩⟩ := hrel
    cases gk with
    | zero => exact absurd HA.out (by simp [furrowworksref04_power.l0])
    | succ k1 =>
      have H := HA.out
      clear HA
      simp only [furrowworksref04_power.l0] at H
      by_cases c2 : x4_1 < a0
      · rw [if_pos c2] at H
        have c2b0 : decide (x4_1 < a0) = true := decide_eq_true c2
        clear c2
        have H' := Aside0.mk H
        clear H
        go_wp2
        go_roundg k1
        case measure => have := HK1.out; omega
        case rel => exact ⟨(wrap64 (2 * x3_1)), (wrap64 (x4_1 + 1)), (by first | rfl | (simp; done) | (simp [*]; done)), (by first | rfl | (simp; done) | (simp [*]; done)), H', ⟨by have := HK1.out; omega⟩, by repeat (first | exact Drawn0.refl _ | apply Drawn0.step)⟩
      · rw [if_neg c2] at H
        have c2b0 : decide (x4_1 < a0) = false := decide_eq_false c2
        clear c2
        obtain rfl := Option.some.inj H
        go_wp2
        go_ret
        exact ⟨by first | rfl | (simp; done) | (simp [*]; done), by repeat (first | exact Drawn0.refl _ | apply Drawn0.step)⟩

end Go.Proofs.Ytafmgmaelnpehaa.PFurrowAsks
end

section
namespace Go.Proofs.Ytafmgmaelnpehaa.PFurrowAsks
open Go.RowKit Go.Proofs.YtafmgmaelnpehaaW.PrintWords Go.Proofs.YtafmgmaelnpehaaW.PrintLast Go.Proofs.YtafmgmaelnpehaaW.PrintMore
attribute [local go_sem] max2_int min2_int max_two min_two max_three min_three max_four min_four   -- for this text's walks alone
set_option linter.unusedVariables false
set_option linter.unusedSimpArgs false

/-! ### furrowworksref04_Size: function 37 -/
def furrowworksref04_Size.l0 : Nat → Int → Int → Option (Int)
  | 0, _, _ => none
  | k + 1, x0, x3 => if x0 > 0 then (furrowworksref04_Size.l0 k (wrap64 (Int.tdiv x0 2)) (wrap64 (x3 + (Int.tmod x0 2)))) else (some x3)
def furrowworksref04_Size.f (k : Nat) (a0 : Int) : Option (Int) := furrowworksref04_Size.l0 k a0 0
theorem furrowworksref04_Size.mono_l : ∀ k, (∀ y0 y1, LeO (furrowworksref04_Size.l0 k y0 y1) (furrowworksref04_Size.l0 (k + 1) y0 y1))
  | 0 => fun _ _ r h => by simp [furrowworksref04_Size.l0] at h
  | k + 1 => by
    have ih0 := furrowworksref04_Size.mono_l k
    · intro y0 y1
      unfold furrowworksref04_Size.l0
      repeat' first
      | (with_reducible exact ih0 _ _)
      | (with_reducible exact LeO.refl _)
      | (with_reducible exact LeO.none _)
      | (with_reducible refine LeO.ite ?_ ?_)
      | (with_reducible refine LeO.bind ?_ (fun _ => ?_))
      | exact ih0 _ _
      | exact LeO.none _
      | refine LeO.ite ?_ ?_
      | refine LeO.bind ?_ (fun _ => ?_)
theorem furrowworksref04_Size.mono : ∀ a0 k, LeO (furrowworksref04_Size.f k a0) (furrowworksref04_Size.f (k + 1) a0) := by
  intro a0 k
  have ih0 := furrowworksref04_Size.mono_l k
  unfold furrowworksref04_Size.f
  repeat' first
      | (with_reducible exact ih0 _ _)
      | (with_reducible exact LeO.refl _)
      | (with_reducible exact LeO.none _)
      | (with_reducible refine LeO.ite ?_ ?_)
      | (with_reducible refine LeO.bind ?_ (fun _ => ?_))
      | exact ih0 _ _
      | exact LeO.none _
      | refine LeO.ite ?_ ?_
      | refine LeO.bind ?_ (fun _ => ?_)
set_option maxHeartbeats 8000000 in
set_option maxRecDepth 100000 in
theorem furrowworksref04_Size.calls (k : Nat) (a0 : Int) (r : Int) (w : World) (h : furrowworksref04_Size.f k a0 = some r) :
    Calls Try.prog 37 #[.int .i64 a0] w fun e w' => e = .returned (.int .i64 r) ∧ Drawn0 w w' := by
  have H : (furrowworksref04_Size.l0 k a0 0) = some r := h
  clear h
  have H' := Aside0.mk H
  clear H
  go_enter Try.func37, Try.ntmps37
  go_wp2
  go_loopg [0, 3] k (fun kq v0 v3 w' => ∃ (x0_1 : Int) (x3_1 : Int), v0 = .int .i64 x0_1 ∧ v3 = .int .i64 x3_1 ∧ Aside0 (furrowworksref04_Size.l0 kq x0_1 x3_1 = some r) ∧ Aside0 (kq ≤ k) ∧ Drawn0 w w')
  case atStart => exact ⟨(a0), (0), (by first | rfl | (simp; done) | (simp [*]; done)), (by first | rfl | (simp; done) | (simp [*]; done)), H', ⟨Nat.le_refl _⟩, by repeat (first | exact Drawn0.refl _ | apply Drawn0.step)⟩
  case round =>
    clear H'
    obtain ⟨x0_1, x3_1, rfl, rfl, HA, HK1, ⟨m1, rfl⟩⟩ := hrel
    cases gk with
    | zero => exact absurd HA.out (by simp [furrowworksref04_Size.l0])
    | succ k1 =>
      have H := HA.out
      clear HA
      simp only [furrowworksref04_Size.l0] at H
      by_cases c2 : x0_1 > 0
      · rw [if_pos c2] at H
        have c2b0 : decide (0 < x0_1) = true := decide_eq_true c2
        clear c2
        have H' := Aside0.mk H
        clear H
        go_wp2
        go_roundg k1
        case measure => have := HK1.out; omega
        case rel => exact ⟨(wrap64 (Int.tdiv x0_1 2)), (wrap64 (x3_1 + (Int.tmod x0_1 2))), (by first | rfl | (simp; done) | (simp [*]; done)), (by first | rfl | (simp; done) | (simp [*]; done)), H', ⟨by have := HK1.out; omega⟩, by repeat (first | exact Drawn0.refl _ | apply Drawn0.step)⟩
      · rw [if_neg c2] at H
        have c2b0 : decide (0 < x0_1) = false := decide_eq_false c2
        clear c2
        obtain rfl := Option.some.inj H
        go_wp2
        go_ret
        exact ⟨by first | rfl | (simp; done) | (simp [*]; done), by repeat (first | exact Drawn0.refl _ | apply Drawn0.step)⟩

end Go.Proofs.Ytafmgmaelnpehaa.PFurrowAsks
end

section
namespace Go.Proofs.Ytafmgmaelnpehaa.PFurrowAsks
open Go.RowKit Go.Proofs.YtafmgmaelnpehaaW.PrintWords Go.Proofs.YtafmgmaelnpehaaW.PrintLast Go.Proofs.YtafmgmaelnpehaaW.PrintMore
attribute [local go_sem] max2_int min2_int max_two min_two max_three min_three max_four min_four   -- for this text's walks alone
set_option linter.unusedVariables false
set_option linter.unusedSimpArgs false

/-! ### furrowworksref04_bend: function 55 -/
def furrowworksref04_bend.f (l0 : List Int) (a1 : Int) : Option (Int) := if 0 ≤ a1 then (if a1 < (l0.length : Int) then (if 0 ≤ (wrap64 (a1 - 1)) then (if (wrap64 (a1 - 1)) < (l0.length : Int) then (if 0 ≤ (wrap64 (a1 + 1)) then (if (wrap64 (a1 + 1)) < (l0.length : Int) then (some (mx (wrap64 ((wrap64 ((wrap64 (2 * (rd l0 a1))) - (rd l0 (wrap64 (a1 - 1))))) - (rd l0 (wrap64 (a1 + 1))))) (wrap64 (-(wrap64 ((wrap64 ((wrap64 (2 * (rd l0 a1))) - (rd l0 (wrap64 (a1 - 1))))) - (rd l0 (wrap64 (a1 + 1))))))))) else (none)) else (none)) else (none)) else (none)) else (none)) else (none)
set_option maxHeartbeats 8000000 in
set_option maxRecDepth 100000 in
theorem furrowworksref04_bend.calls (A0 : Option Addr) (c0 : Nat) (l0 : List Int) (a1 : Int) (r : Int) (w : World) (hr0 : Kd.C (Kd.int .i64) w A0 l0.length l0) (hc0 : l0.length ≤ c0) (h : furrowworksref04_bend.f l0 a1 = some r) :
    Calls Try.prog 55 #[.slice A0 l0.length c0, .int .i64 a1] w fun e w' => e = .returned (.int .i64 r) ∧ Below w.heap.size w w' := by
  have HR0 := Aside0.mk hr0
  have HC0 := Aside0.mk hc0
  clear hr0 hc0
  have HB := Aside0.mk (Below.refl w.heap.size w)
  have H : (if 0 ≤ a1 then (if a1 < (l0.length : Int) then (if 0 ≤ (wrap64 (a1 - 1)) then (if (wrap64 (a1 - 1)) < (l0.length : Int) then (if 0 ≤ (wrap64 (a1 + 1)) then (if (wrap64 (a1 + 1)) < (l0.length : Int) then (some (mx (wrap64 ((wrap64 ((wrap64 (2 * (rd l0 a1))) - (rd l0 (wrap64 (a1 - 1))))) - (rd l0 (wrap64 (a1 + 1))))) (wrap64 (-(wrap64 ((wrap64 ((wrap64 (2 * (rd l0 a1))) - (rd l0 (wrap64 (a1 - 1))))) - (rd l0 (wrap64 (a1 + 1))))))))) else (none)) else (none)) else (none)) else (none)) else (none)) else (none)) = some r := h
  clear h
  by_cases c3 : 0 ≤ a1
  · rw [if_pos c3] at H
    have c3b0 : decide (0 ≤ a1) = true := decide_eq_true c3
    clear c3
    by_cases c4 : a1 < (l0.length : Int)
    · rw [if_pos c4] at H
      have c4b0 : decide (a1 < (l0.length : Int)) = true := decide_eq_true c4
      clear c4
      obtain ⟨ji5, hji5⟩ : ∃ j_ : Int, (wrap64 (a1 - 1)) = j_ := ⟨_, rfl⟩
      replace H : (if 0 ≤ (ji5) then (if (ji5) < (l0.length : Int) then (if 0 ≤ (wrap64 (a1 + 1)) then (if (wrap64 (a1 + 1)) < (l0.length : Int) then (some (mx (wrap64 ((wrap64 ((wrap64 (2 * (rd l0 a1))) - (rd l0 (ji5)))) - (rd l0 (wrap64 (a1 + 1))))) (wrap64 (-(wrap64 ((wrap64 ((wrap64 (2 * (rd l0 a1))) - (rd l0 (ji5)))) - (rd l0 (wrap64 (a1 + 1))))))))) else (none)) else (none)) else (none)) else (none)) = some r := by first | (rw [hji5] at H; exact H) | (simp only [hji5] at H ⊢; exact H)
      have hji5w : (IntKind.i64.wrap (a1 - 1)) = ji5 := (i64_w _).trans hji5
      by_cases c6 : 0 ≤ (ji5)
      · rw [if_pos c6] at H
        have c6b0 : decide (0 ≤ (ji5)) = true := decide_eq_true c6
        clear c6
        by_cases c7 : (ji5) < (l0.length : Int)
        · rw [if_pos c7] at H
          have c7b0 : decide ((ji5) < (l0.length : Int)) = true := decide_eq_true c7
          clear c7
          obtain ⟨ji8, hji8⟩ : ∃ j_ : Int, (wrap64 (a1 + 1)) = j_ := ⟨_, rfl⟩
          replace H : (if 0 ≤ (ji8) then (if (ji8) < (l0.length : Int) then (some (mx (wrap64 ((wrap64 ((wrap64 (2 * (rd l0 a1))) - (rd l0 (ji5)))) - (rd l0 (ji8)))) (wrap64 (-(wrap64 ((wrap64 ((wrap64 (2 * (rd l0 a1))) - (rd l0 (ji5)))) - (rd l0 (ji8)))))))) else (none)) else (none)) = some r := by first | (rw [hji8] at H; exact H) | (simp only [hji8] at H ⊢; exact H)
          have hji8w : (IntKind.i64.wrap (a1 + 1)) = ji8 := (i64_w _).trans hji8
          by_cases c9 : 0 ≤ (ji8)
          · rw [if_pos c9] at H
            have c9b0 : decide (0 ≤ (ji8)) = true := decide_eq_true c9
            clear c9
            by_cases c10 : (ji8) < (l0.length : Int)
            · rw [if_pos c10] at H
              have c10b0 : decide ((ji8) < (l0.length : Int)) = true := decide_eq_true c10
              clear c10
              obtain ⟨ji11, hji11⟩ : ∃ j_ : Int, (mx (wrap64 ((wrap64 ((wrap64 (2 * (rd l0 a1))) - (rd l0 (ji5)))) - (rd l0 (ji8)))) (wrap64 (-(wrap64 ((wrap64 ((wrap64 (2 * (rd l0 a1))) - (rd l0 (ji5)))) - (rd l0 (ji8))))))) = j_ := ⟨_, rfl⟩
              replace H : (some ji11) = some r := by first | (rw [hji11] at H; exact H) | (simp only [hji11] at H ⊢; exact H)
              have hji11_ : (if (wrap64 ((wrap64 ((wrap64 (2 * (rd l0 a1))) - (rd l0 (ji5)))) - (rd l0 (ji8)))) < (wrap64 (-(wrap64 ((wrap64 ((wrap64 (2 * (rd l0 a1))) - (rd l0 (ji5)))) - (rd l0 (ji8)))))) then (wrap64 (-(wrap64 ((wrap64 ((wrap64 (2 * (rd l0 a1))) - (rd l0 (ji5)))) - (rd l0 (ji8)))))) else (wrap64 ((wrap64 ((wrap64 (2 * (rd l0 a1))) - (rd l0 (ji5)))) - (rd l0 (ji8))))) = ji11 := hji11
              obtain rfl := Option.some.inj H
              have p164 : 0 ≤ (a1 : Int) := of_decide_eq_true (by first | (with_reducible assumption) | assumption)
              have q164 : a1 < (l0.length : Int) := of_decide_eq_true (by first | (with_reducible assumption) | assumption)
              obtain ⟨ad164, e164, hx164_0⟩ := Kd.at_int HR0.out a1 p164 q164
              cases e164
              replace p164 := eq_true p164
              replace q164 := eq_true q164
              have p165 : 0 ≤ ((ji5) : Int) := of_decide_eq_true (by first | (with_reducible assumption) | assumption)
              have q165 : (ji5) < (l0.length : Int) := of_decide_eq_true (by first | (with_reducible assumption) | assumption)
              obtain ⟨ad165, e165, hx165_0⟩ := Kd.at_int HR0.out (ji5) p165 q165
              obtain rfl : ad164 = ad165 := (by injection e165)
              replace p165 := eq_true p165
              replace q165 := eq_true q165
              have p166 : 0 ≤ ((ji8) : Int) := of_decide_eq_true (by first | (with_reducible assumption) | assumption)
              have q166 : (ji8) < (l0.length : Int) := of_decide_eq_true (by first | (with_reducible assumption) | assumption)
              obtain ⟨ad166, e166, hx166_0⟩ := Kd.at_int HR0.out (ji8) p166 q166
              obtain rfl : ad164 = ad166 := (by injection e166)
              replace p166 := eq_true p166
              replace q166 := eq_true q166
              go_enter Try.func55, Try.ntmps55
              go_wp2
              repeat (go_quiet (fail); try go_wp2)
              go_ret
              exact ⟨by first | rfl | (simp [errW_none, errW_some] <;> rfl) | (simp only [← hji5, ← hji8, ← hji11]; first | rfl | (simp [errW_none, errW_some] <;> rfl)) | (simp [*, errW_none, errW_some] <;> rfl), by repeat (first | (with_reducible first | exact HB.out | apply below_alloc | apply pw_below_drewN | apply below_drew1) | exact HB.out)⟩
            · rw [if_neg c10] at H
              exact absurd H (by simp)
          · rw [if_neg c9] at H
            exact absurd H (by simp)
        · rw [if_neg c7] at H
          exact absurd H (by simp)
      · rw [if_neg c6] at H
        exact absurd H (by simp)
    · rw [if_neg c4] at H
      exact absurd H (by simp)
  · rw [if_neg c3] at H
    exact absurd H (by simp)

end Go.Proofs.Ytafmgmaelnpehaa.PFurrowAsks
end

section
set_option linter.unusedVariables false
set_option linter.unusedSimpArgs false
namespace Go.Proofs.Ytafmgmaelnpehaa
open Go.RowKit Go.Fu PFurrowAsks Go.Proofs.YtafmgmaelnpehaaW.PrintWords
theorem wrap_id {a : Int} (h1 : -1000000000 ≤ a) (h2 : a ≤ 1000000000) : wrap64 a = a := by unfold wrap64; omega
theorem power_l (n : Nat) (hn : n ≤ 20) : ∀ (d i : Nat), i + d = n → Ev (fun k => furrowworksref04_power.l0 k n ((2 : Int) ^ i) i) ((2 : Int) ^ n)
  | 0, i, h => by
    refine ⟨1, fun k hk => ?_⟩
    obtain ⟨k, rfl⟩ : ∃ m, k = m + 1 := ⟨k - 1, by omega⟩
    simp only [furrowworksref04_power.l0]
    rw [if_neg (by omega), show i = n by omega]
  | d + 1, i, h => by
    refine Ev.step (f := fun k => furrowworksref04_power.l0 k n ((2 : Int) ^ (i + 1)) ((i + 1 : Nat) : Int)) (fun k => ?_) (power_l n hn d (i + 1) (by omega))
    have hp : (2 : Int) ^ i ≤ 1048576 := by
      have : (2 : Nat) ^ i ≤ 2 ^ 20 := Nat.pow_le_pow_right (by omega) (by omega)
      have h2 : ((2 ^ i : Nat) : Int) ≤ ((2 ^ 20 : Nat) : Int) := by exact_mod_cast this
      simpa using h2
    have h0 : 0 ≤ (2 : Int) ^ i := Int.pow_nonneg (by omega)
    simp only [furrowworksref04_power.l0]
    rw [if_pos (by omega), wrap_id (a := 2 * 2 ^ i) (by omega) (by omega), wrap_id (a := (i : Int) + 1) (by omega) (by omega), Int.pow_succ, Int.mul_comm]
    norm_cast
theorem power_ev (n : Nat) (hn : n ≤ 20) : Ev (fun k => furrowworksref04_power.f k n) ((2 : Int) ^ n) := power_l n hn n 0 (by omega)
theorem size_l : ∀ (j s c : Nat), s < 2 ^ j → j ≤ 8 → c + j ≤ 100 → Ev (fun k => furrowworksref04_Size.l0 k s c) (((c + ones j s : Nat) : Int))
  | 0, s, c, h, _, _ => by
    obtain rfl : s = 0 := by simpa using h
    refine ⟨1, fun k hk => ?_⟩
    obtain ⟨k, rfl⟩ : ∃ m, k = m + 1 := ⟨k - 1, by omega⟩
    simp only [furrowworksref04_Size.l0]
    rw [if_neg (by omega)]
    simp [ones]
  | j + 1, s, c, h, hj, hc => by
    have hs : s < 256 := Nat.lt_of_lt_of_le h (Nat.pow_le_pow_right (by omega) hj : 2 ^ (j + 1) ≤ 2 ^ 8)
    by_cases h0 : s = 0
    · subst h0
      have : ∀ j, ones j 0 = 0 := fun j => by induction j with
        | zero => rfl
        | succ j ih => simp [ones, ih]
      refine ⟨1, fun k hk => ?_⟩
      obtain ⟨k, rfl⟩ : ∃ m, k = m + 1 := ⟨k - 1, by omega⟩
      simp only [furrowworksref04_Size.l0]
      rw [if_neg (by omega), this]
      rfl
    · have ih := size_l j (s / 2) (c + s % 2) (by rw [Nat.pow_succ] at h; omega) (by omega) (by omega)
      refine Ev.step (f := fun k => furrowworksref04_Size.l0 k ((s / 2 : Nat) : Int) ((c + s % 2 : Nat) : Int)) (fun k => ?_) (by simpa [ones, Nat.add_assoc] using ih)
      simp only [furrowworksref04_Size.l0]
      have e1 : Int.tdiv (s : Int) 2 = ((s / 2 : Nat) : Int) := by rw [Int.tdiv_eq_ediv_of_nonneg (by omega)]; omega
      have e2 : Int.tmod (s : Int) 2 = ((s % 2 : Nat) : Int) := by rw [Int.tmod_eq_emod_of_nonneg (by omega)]; omega
      rw [if_pos (by omega), e1, e2, wrap_id (by omega) (by omega), wrap_id (by omega) (by omega)]
      norm_cast
theorem ones_le8 (j s : Nat) (h : s < 2 ^ j) (hj : j ≤ 8) : ones j s = ones 8 s := by
  have : ∀ (k j s : Nat), s < 2 ^ j → ones (j + k) s = ones j s := by
    intro k j
    induction j with
    | zero =>
      intro s h
      obtain rfl : s = 0 := by simpa using h
      have : ∀ j, ones j 0 = 0 := fun j => by induction j with
        | zero => rfl
        | succ j ih => simp [ones, ih]
      rw [this, this]
    | succ j ih =>
      intro s h
      rw [show j + 1 + k = (j + k) + 1 by omega]
      simp only [ones]
      rw [ih (s / 2) (by rw [Nat.pow_succ] at h; omega)]
  have := this (8 - j) j s h
  rw [show j + (8 - j) = 8 by omega] at this
  exact this.symm
theorem size_ev (s : Nat) (hs : s < 256) : Ev (fun k => furrowworksref04_Size.f k s) ((ones 8 s : Nat) : Int) := by
  have := size_l 8 s 0 hs (by omega) (by omega)
  rw [Nat.zero_add] at this
  exact this
/-- A bend of three offsets. -/
theorem bend_is (l : List Int) (n : Nat) (hl : l.length ≤ 100) (h1 : 1 ≤ n) (h2 : n + 1 < l.length) (hb : ∀ x ∈ l, -1000 ≤ x ∧ x ≤ 1000) : furrowworksref04_bend.f l n = some (bendI (l.getD (n - 1) 0) (l.getD n 0) (l.getD (n + 1) 0)) := by
  have g : ∀ i, i < l.length → -1000 ≤ l.getD i 0 ∧ l.getD i 0 ≤ 1000 := fun i hi => by
    rw [List.getD_eq_getElem?_getD, List.getElem?_eq_getElem hi]
    exact hb _ (List.getElem_mem hi)
  have a1 := g (n - 1) (by omega)
  have a2 := g n (by omega)
  have a3 := g (n + 1) (by omega)
  have n1 : wrap64 ((n : Int) - 1) = ((n - 1 : Nat) : Int) := by unfold wrap64; omega
  have n2 : wrap64 ((n : Int) + 1) = ((n + 1 : Nat) : Int) := by unfold wrap64; omega
  have r : ∀ i : Nat, rd l (i : Int) = l.getD i 0 := fun i => by unfold rd; rw [Int.toNat_natCast]
  unfold furrowworksref04_bend.f
  rw [n1, n2, r, r, r]
  generalize l.getD (n - 1) 0 = a at *
  generalize l.getD n 0 = b at *
  generalize l.getD (n + 1) 0 = c at *
  rw [if_pos (by omega), if_pos (by omega), if_pos (by omega), if_pos (by omega), if_pos (by omega), if_pos (by omega)]
  congr 1
  unfold mx bendI wrap64
  split <;> split <;> omega
end Go.Proofs.Ytafmgmaelnpehaa
end

section
namespace Go.Proofs.Ytafmgmaelnpehaa.PFurrowAsks
open Go.RowKit Go.Proofs.YtafmgmaelnpehaaW.PrintWords Go.Proofs.YtafmgmaelnpehaaW.PrintLast Go.Proofs.YtafmgmaelnpehaaW.PrintMore
attribute [local go_sem] max2_int min2_int max_two min_two max_three min_three max_four min_four   -- for this text's walks alone
set_option linter.unusedVariables false
set_option linter.unusedSimpArgs false

/-! ### furrowworksref04_Most: function 33 -/
def furrowworksref04_Most.l0 : Nat → List Int → Int → Int → Option (Int)
  | 0, _, _, _ => none
  | k + 1, x0, x3, x4 => if (wrap64 (x4 + 1)) < (x0.length : Int) then ((furrowworksref04_bend.f x0 x4).bind fun t167 => (furrowworksref04_Most.l0 k x0 (mx x3 t167) (wrap64 (x4 + 1)))) else (some x3)
def furrowworksref04_Most.f (k : Nat) (l0 : List Int) : Option (Int) := furrowworksref04_Most.l0 k l0 0 1
theorem furrowworksref04_Most.mono_l : ∀ k, (∀ y0 y1 y2, LeO (furrowworksref04_Most.l0 k y0 y1 y2) (furrowworksref04_Most.l0 (k + 1) y0 y1 y2))
  | 0 => fun _ _ _ r h => by simp [furrowworksref04_Most.l0] at h
  | k + 1 => by
    have ih0 := furrowworksref04_Most.mono_l k
    · intro y0 y1 y2
      unfold furrowworksref04_Most.l0
      repeat' first
      | (with_reducible exact ih0 _ _ _)
      | (with_reducible exact LeO.refl _)
      | (with_reducible exact LeO.none _)
      | (with_reducible refine LeO.ite ?_ ?_)
      | (with_reducible refine LeO.bind ?_ (fun _ => ?_))
      | exact ih0 _ _ _
      | exact LeO.none _
      | refine LeO.ite ?_ ?_
      | refine LeO.bind ?_ (fun _ => ?_)
theorem furrowworksref04_Most.mono : ∀ a0 k, LeO (furrowworksref04_Most.f k a0) (furrowworksref04_Most.f (k + 1) a0) := by
  intro a0 k
  have ih0 := furrowworksref04_Most.mono_l k
  unfold furrowworksref04_Most.f
  repeat' first
      | (with_reducible exact ih0 _ _ _)
      | (with_reducible exact LeO.refl _)
      | (with_reducible exact LeO.none _)
      | (with_reducible refine LeO.ite ?_ ?_)
      | (with_reducible refine LeO.bind ?_ (fun _ => ?_))
      | exact ih0 _ _ _
      | exact LeO.none _
      | refine LeO.ite ?_ ?_
      | refine LeO.bind ?_ (fun _ => ?_)
set_option maxHeartbeats 8000000 in
set_option maxRecDepth 100000 in
theorem furrowworksref04_Most.calls (k : Nat) (A0 : Option Addr) (c0 : Nat) (l0 : List Int) (r : Int) (w : World) (hr0 : Kd.C (Kd.int .i64) w A0 l0.length l0) (hc0 : l0.length ≤ c0) (h : furrowworksref04_Most.f k l0 = some r) :
    Calls Try.prog 33 #[.slice A0 l0.length c0] w fun e w' => e = .returned (.int .i64 r) ∧ Below w.heap.size w w' := by
  have HR0 := Aside0.mk hr0
  have HC0 := Aside0.mk hc0
  clear hr0 hc0
  have HB := Aside0.mk (Below.refl w.heap.size w)
  have H : (furrowworksref04_Most.l0 k l0 0 1) = some r := h
  clear h
  have H' := Aside0.mk H
  clear H
  go_enter Try.func33, Try.ntmps33
  go_wp2
  go_loopg [3, 4] k (fun kq v3 v4 w' => ∃ (x3_1 : Int) (x4_1 : Int), v3 = .int .i64 x3_1 ∧ v4 = .int .i64 x4_1 ∧ Aside0 (furrowworksref04_Most.l0 kq l0 x3_1 x4_1 = some r) ∧ Aside0 (kq ≤ k) ∧ Aside0 (Below w.heap.size w w'))
  case atStart => exact ⟨(0), (1), (by first | rfl | (simp; done) | (simp [*]; done)), (by first | rfl | (simp; done) | (simp [*]; done)), H', ⟨Nat.le_refl _⟩, ⟨by repeat (first | (with_reducible first | exact HB.out | apply below_alloc | apply pw_below_drewN | apply below_drew1) | exact HB.out)⟩⟩
  case round =>
    clear H'
    obtain ⟨x3_1, x4_1, rfl, rfl, HA, HK1, HB⟩ := hrel
    cases gk with
    | zero => exact absurd HA.out (by simp [furrowworksref04_Most.l0])
    | succ k1 =>
      have H := HA.out
      clear HA
      simp only [furrowworksref04_Most.l0] at H
      by_cases c2 : (wrap64 (x4_1 + 1)) < (l0.length : Int)
      · rw [if_pos c2] at H
        have c2b0 : decide ((wrap64 (x4_1 + 1)) < (l0.length : Int)) = true := decide_eq_true c2
        clear c2
        replace H := Option.bind_eq_some_iff.mp H
        obtain ⟨t167, A30, H⟩ := H
        replace H : (furrowworksref04_Most.l0 k1 l0 (mx x3_1 t167) (wrap64 (x4_1 + 1))) = some r := H
        have A3 := Aside0.mk A30
        clear A30
        obtain ⟨ji4, hji4⟩ : ∃ j_ : Int, (mx x3_1 t167) = j_ := ⟨_, rfl⟩
        replace H : (furrowworksref04_Most.l0 k1 l0 ji4 (wrap64 (x4_1 + 1))) = some r := by first | (rw [hji4] at H; exact H) | (simp only [hji4] at H ⊢; exact H)
        (try rw [hji4] at A3)
        have hji4_ : (if x3_1 < t167 then t167 else x3_1) = ji4 := hji4
        have H' := Aside0.mk H
        clear H
        go_wp2_with (first | ((with_reducible refine gate_callee (f := 55) rfl ?_); refine goesL_ (some 15) rfl rfl Try.func55 (by kernel_rfl) rfl #[.slice A0 l0.length c0, .int .i64 x4_1] rfl (by (try simp only [List.map_toArray, List.map_cons, List.map_nil]); first | done | rfl | (simp only [List.length_drop, List.length_take]; rfl)) ?_; (with_reducible refine (furrowworksref04_bend.calls _ _ l0 x4_1 t167 _ ?side1 ?side2 A3.out).mono ?_); (case side1 => repeat (first | exact (Kd.C_below HR0.out HB.out) | (with_reducible refine Kd.C_alloc ?_ _) | (with_reducible refine Kd.C_drewN ?_ _) | (with_reducible refine Kd.C_drew ?_))); (case side2 => exact HC0.out); rintro e w5 ⟨rfl, hb⟩; refine ⟨_, rfl, ?_⟩; have n0_ := Aside0.mk (below_step (by repeat (first | (with_reducible first | exact HB.out | apply below_alloc | apply pw_below_drewN | apply below_drew1) | exact HB.out)) hb); clear HB; have HB := n0_; clear n0_; (try clear hb); (try clear hb2); (try clear hk); (try clear hi)))
        go_roundg k1
        case measure => have := HK1.out; omega
        case rel => exact ⟨(ji4), (wrap64 (x4_1 + 1)), (by first | rfl | (simp; done) | (simp only [← hji4] <;> (first | rfl | simp)) | (simp [*]; done)), (by first | rfl | (simp; done) | (simp [*]; done)), H', ⟨by have := HK1.out; omega⟩, ⟨by repeat (first | (with_reducible first | exact HB.out | apply below_alloc | apply pw_below_drewN | apply below_drew1) | exact HB.out)⟩⟩
      · rw [if_neg c2] at H
        have c2b0 : decide ((wrap64 (x4_1 + 1)) < (l0.length : Int)) = false := decide_eq_false c2
        clear c2
        obtain rfl := Option.some.inj H
        go_wp2
        go_ret
        exact ⟨by first | rfl | (simp [errW_none, errW_some] <;> rfl) | (simp [*, errW_none, errW_some] <;> rfl), by repeat (first | (with_reducible first | exact HB.out | apply below_alloc | apply pw_below_drewN | apply below_drew1) | exact HB.out)⟩

end Go.Proofs.Ytafmgmaelnpehaa.PFurrowAsks
end

section
namespace Go.Proofs.Ytafmgmaelnpehaa.PFurrowAsks
open Go.RowKit Go.Proofs.YtafmgmaelnpehaaW.PrintWords Go.Proofs.YtafmgmaelnpehaaW.PrintLast Go.Proofs.YtafmgmaelnpehaaW.PrintMore
attribute [local go_sem] max2_int min2_int max_two min_two max_three min_three max_four min_four   -- for this text's walks alone
set_option linter.unusedVariables false
set_option linter.unusedSimpArgs false

/-! ### furrowworkslaw04_inside: function 34 -/
def furrowworkslaw04_inside.f (a0 : Int) (a1_0 : Int) (a1_1 : Int) : Option (Bool) := if a1_0 ≤ a0 then (some (decide (a0 ≤ a1_1))) else (some false)
set_option maxHeartbeats 8000000 in
set_option maxRecDepth 100000 in
theorem furrowworkslaw04_inside.calls (a0 : Int) (a1_0 : Int) (a1_1 : Int) (r : Bool) (w : World) (h : furrowworkslaw04_inside.f a0 a1_0 a1_1 = some r) :
    Calls Try.prog 34 #[.int .i64 a0, .agg #[.int .i64 a1_0, .int .i64 a1_1]] w fun e w' => e = .returned (.bool r) ∧ Below w.heap.size w w' := by
  have hu28 := Try.underlying28
  have HB := Aside0.mk (Below.refl w.heap.size w)
  have H : (if a1_0 ≤ a0 then (some (decide (a0 ≤ a1_1))) else (some false)) = some r := h
  clear h
  by_cases c3 : a1_0 ≤ a0
  · rw [if_pos c3] at H
    have c3b0 : decide (a1_0 ≤ a0) = true := decide_eq_true c3
    clear c3
    obtain rfl := Option.some.inj H
    go_enter Try.func34, Try.ntmps34
    go_wp2_with (first | ((with_reducible refine gate_dst (N := 3) rfl ?_); refine box_event ?hg (N := 3) ?hd (cs := #[.int .i64 a1_0, .int .i64 a1_1]) (t := 28) ?hr ?_; (case hd => rfl); (case hg => rfl); (case hr => first | (go_simp; done) | (go_simp; rfl)); intro gb359 hg w4 hbox hb; have n0_ := Aside0.mk (below_step (by repeat (first | (with_reducible first | exact HB.out | apply below_alloc | apply pw_below_drewN | apply below_drew1) | exact HB.out)) hb); have n1_ := Aside0.mk (hbox); have n2_ := Aside0.mk ((by rw [hg]; exact (below_size (by repeat (first | (with_reducible first | exact HB.out | apply below_alloc | apply pw_below_drewN | apply below_drew1) | exact HB.out))) : w.heap.size ≤ gb359)); have n3_ := Aside0.mk ((by rw [hg]; exact (below_size (by repeat (first | (with_reducible first | exact HB.out | apply below_alloc | apply pw_below_drewN | apply below_drew1) | exact HB.out))) : w.heap.size ≤ gb359)); clear HB; have HB := n0_; have BK359 := n1_; have GW359 := n2_; have GE359 := n3_; clear n0_ n1_ n2_ n3_; clear hb hbox hg; have hcz5_0 : w4.cell? ⟨gb359, 0, none⟩ = some (.int .i64 a1_0) := (blk_cell BK359.out 0).trans rfl; have hcz5_1 : w4.cell? ⟨gb359, 1, none⟩ = some (.int .i64 a1_1) := (blk_cell BK359.out 1).trans rfl; have hfz5_0 := blk_frozen BK359.out 0; have hfz5_1 := blk_frozen BK359.out 1))
    go_ret
    exact ⟨by first | rfl | (simp [errW_none, errW_some] <;> rfl) | (simp [*, errW_none, errW_some] <;> rfl), by repeat (first | (with_reducible first | exact HB.out | apply below_alloc | apply pw_below_drewN | apply below_drew1 | refine below_set ?_ GE359.out) | exact HB.out)⟩
  · rw [if_neg c3] at H
    have c3b0 : decide (a1_0 ≤ a0) = false := decide_eq_false c3
    clear c3
    obtain rfl := Option.some.inj H
    go_enter Try.func34, Try.ntmps34
    go_wp2_with (first | ((with_reducible refine gate_dst (N := 3) rfl ?_); refine box_event ?hg (N := 3) ?hd (cs := #[.int .i64 a1_0, .int .i64 a1_1]) (t := 28) ?hr ?_; (case hd => rfl); (case hg => rfl); (case hr => first | (go_simp; done) | (go_simp; rfl)); intro gb359 hg w6 hbox hb; have n0_ := Aside0.mk (below_step (by repeat (first | (with_reducible first | exact HB.out | apply below_alloc | apply pw_below_drewN | apply below_drew1) | exact HB.out)) hb); have n1_ := Aside0.mk (hbox); have n2_ := Aside0.mk ((by rw [hg]; exact (below_size (by repeat (first | (with_reducible first | exact HB.out | apply below_alloc | apply pw_below_drewN | apply below_drew1) | exact HB.out))) : w.heap.size ≤ gb359)); have n3_ := Aside0.mk ((by rw [hg]; exact (below_size (by repeat (first | (with_reducible first | exact HB.out | apply below_alloc | apply pw_below_drewN | apply below_drew1) | exact HB.out))) : w.heap.size ≤ gb359)); clear HB; have HB := n0_; have BK359 := n1_; have GW359 := n2_; have GE359 := n3_; clear n0_ n1_ n2_ n3_; clear hb hbox hg; have hcz7_0 : w6.cell? ⟨gb359, 0, none⟩ = some (.int .i64 a1_0) := (blk_cell BK359.out 0).trans rfl; have hcz7_1 : w6.cell? ⟨gb359, 1, none⟩ = some (.int .i64 a1_1) := (blk_cell BK359.out 1).trans rfl; have hfz7_0 := blk_frozen BK359.out 0; have hfz7_1 := blk_frozen BK359.out 1))
    go_ret
    exact ⟨by first | rfl | (simp [errW_none, errW_some] <;> rfl) | (simp [*, errW_none, errW_some] <;> rfl), by repeat (first | (with_reducible first | exact HB.out | apply below_alloc | apply pw_below_drewN | apply below_drew1 | refine below_set ?_ GE359.out) | exact HB.out)⟩

end Go.Proofs.Ytafmgmaelnpehaa.PFurrowAsks
end

section
namespace Go.Proofs.Ytafmgmaelnpehaa.PFurrowAsks
open Go.RowKit Go.Proofs.YtafmgmaelnpehaaW.PrintWords Go.Proofs.YtafmgmaelnpehaaW.PrintLast Go.Proofs.YtafmgmaelnpehaaW.PrintMore
attribute [local go_sem] max2_int min2_int max_two min_two max_three min_three max_four min_four   -- for this text's walks alone
set_option linter.unusedVariables false
set_option linter.unusedSimpArgs false

/-! ### furrowworksref04_Bent: function 35 -/
def furrowworksref04_Bent.f (l0 : List Int) (a1 : Int) : Option (Int) := (furrowworksref04_bend.f l0 a1).bind fun t360 => (some t360)
set_option maxHeartbeats 8000000 in
set_option maxRecDepth 100000 in
theorem furrowworksref04_Bent.calls (A0 : Option Addr) (c0 : Nat) (l0 : List Int) (a1 : Int) (r : Int) (w : World) (hr0 : Kd.C (Kd.int .i64) w A0 l0.length l0) (hc0 : l0.length ≤ c0) (h : furrowworksref04_Bent.f l0 a1 = some r) :
    Calls Try.prog 35 #[.slice A0 l0.length c0, .int .i64 a1] w fun e w' => e = .returned (.int .i64 r) ∧ Below w.heap.size w w' := by
  have HR0 := Aside0.mk hr0
  have HC0 := Aside0.mk hc0
  clear hr0 hc0
  have HB := Aside0.mk (Below.refl w.heap.size w)
  have H : ((furrowworksref04_bend.f l0 a1).bind fun t360 => (some t360)) = some r := h
  clear h
  replace H := Option.bind_eq_some_iff.mp H
  obtain ⟨t360, A30, H⟩ := H
  replace H : (some t360) = some r := H
  have A3 := Aside0.mk A30
  clear A30
  obtain rfl := Option.some.inj H
  go_enter Try.func35, Try.ntmps35
  go_wp2_with (first | ((with_reducible refine gate_callee (f := 55) rfl ?_); refine goesL_ (some 7) rfl rfl Try.func55 (by kernel_rfl) rfl #[.slice A0 l0.length c0, .int .i64 a1] rfl (by (try simp only [List.map_toArray, List.map_cons, List.map_nil]); first | done | rfl | (simp only [List.length_drop, List.length_take]; rfl)) ?_; (with_reducible refine (furrowworksref04_bend.calls _ _ l0 a1 t360 _ ?side1 ?side2 A3.out).mono ?_); (case side1 => repeat (first | exact HR0.out | (with_reducible refine Kd.C_alloc ?_ _) | (with_reducible refine Kd.C_drewN ?_ _) | (with_reducible refine Kd.C_drew ?_))); (case side2 => exact HC0.out); rintro e w4 ⟨rfl, hb⟩; refine ⟨_, rfl, ?_⟩; have n0_ := Aside0.mk (below_step (by repeat (first | (with_reducible first | exact HB.out | apply below_alloc | apply pw_below_drewN | apply below_drew1) | exact HB.out)) hb); clear HB; have HB := n0_; clear n0_; (try clear hb); (try clear hb2); (try clear hk); (try clear hi)))
  go_ret
  exact ⟨by first | rfl | (simp [errW_none, errW_some] <;> rfl) | (simp [*, errW_none, errW_some] <;> rfl), by repeat (first | (with_reducible first | exact HB.out | apply below_alloc | apply pw_below_drewN | apply below_drew1) | exact HB.out)⟩

end Go.Proofs.Ytafmgmaelnpehaa.PFurrowAsks
end

section
set_option linter.unusedVariables false
set_option linter.unusedSimpArgs false
namespace Go.Proofs.Ytafmgmaelnpehaa
open Go.RowKit Go.Fu PFurrowAsks Go.Proofs.YtafmgmaelnpehaaW.PrintWords
/-- A list of offsets, as a function of the station. -/
def fnOf (l : List Int) (i : Nat) : Int := l.getD i 0
theorem bend_fn (l : List Int) (n : Nat) (hl : l.length ≤ 100) (h1 : 1 ≤ n) (h2 : n + 1 < l.length) (hb : ∀ x ∈ l, -1000 ≤ x ∧ x ≤ 1000) : furrowworksref04_bend.f l n = some (bnd (fnOf l) n) := bend_is l n hl h1 h2 hb
theorem bent_is (l : List Int) (n : Nat) (hl : l.length ≤ 100) (h1 : 1 ≤ n) (h2 : n + 1 < l.length) (hb : ∀ x ∈ l, -1000 ≤ x ∧ x ≤ 1000) : furrowworksref04_Bent.f l n = some (bnd (fnOf l) n) := by
  unfold furrowworksref04_Bent.f
  rw [bend_fn l n hl h1 h2 hb]
  rfl
theorem most_l (l : List Int) (hl : l.length ≤ 100) (hb : ∀ x ∈ l, -1000 ≤ x ∧ x ≤ 1000) : ∀ (d i : Nat), i + d = l.length - 2 → Ev (fun k => furrowworksref04_Most.l0 k l (mostF (fnOf l) i) ((i + 1 : Nat) : Int)) (mostF (fnOf l) (l.length - 2))
  | 0, i, hd => by
    refine ⟨1, fun k hk => ?_⟩
    obtain ⟨m, rfl⟩ : ∃ m, k = m + 1 := ⟨k - 1, by omega⟩
    simp only [furrowworksref04_Most.l0]
    have hw : wrap64 (((i + 1 : Nat) : Int) + 1) = ((i + 2 : Nat) : Int) := by unfold wrap64; omega
    rw [hw, if_neg (by omega), show i = l.length - 2 by omega]
  | d + 1, i, hd => by
    have ih := most_l l hl hb d (i + 1) (by omega)
    refine Ev.step (fun k => ?_) ih
    simp only [furrowworksref04_Most.l0]
    have hw : wrap64 (((i + 1 : Nat) : Int) + 1) = ((i + 2 : Nat) : Int) := by unfold wrap64; omega
    rw [hw, if_pos (by omega), bend_fn l (i + 1) hl (by omega) (by omega) hb]
    have e : mx (mostF (fnOf l) i) (bnd (fnOf l) (i + 1)) = mostF (fnOf l) (i + 1) := by
      show mx _ _ = (if mostF (fnOf l) i < bnd (fnOf l) (i + 1) then bnd (fnOf l) (i + 1) else mostF (fnOf l) i)
      unfold mx
      split <;> (try split) <;> omega
    rw [Option.bind_some, e]
theorem most_is (l : List Int) (hl : l.length ≤ 100) (hb : ∀ x ∈ l, -1000 ≤ x ∧ x ≤ 1000) : ∃ k, furrowworksref04_Most.f k l = some (mostF (fnOf l) (l.length - 2)) := (most_l l hl hb (l.length - 2) 0 (by omega)).rounds
theorem inside_is (n a b : Int) : furrowworkslaw04_inside.f n a b = some (decide (a ≤ n) && decide (n ≤ b)) := by
  unfold furrowworkslaw04_inside.f
  by_cases h1 : a ≤ n <;> simp [h1]
/-! ### Bits -/
theorem andb_all : (List.range 256).all (fun s => (List.range 8).all fun k => bits .and .i64 ((s : Int) / 2 ^ k) 1 == ((s / 2 ^ k % 2 : Nat) : Int)) = true := by kernel_rfl
theorem andb_is (s k : Nat) (hs : s < 256) (hk : k < 8) : bits .and .i64 ((s : Int) / 2 ^ k) 1 = ((s / 2 ^ k % 2 : Nat) : Int) := by
  have h := List.all_eq_true.1 andb_all s (List.mem_range.2 hs)
  have h2 := List.all_eq_true.1 h k (List.mem_range.2 hk)
  exact eq_of_beq h2
theorem andn_all : (List.range 128).all (fun a => (List.range 128).all fun b => bits .andNot .i64 (a : Int) (b : Int) == 0 || (List.range 7).any fun i => a / 2 ^ i % 2 == 1 && b / 2 ^ i % 2 == 0) = true := by kernel_rfl
theorem andn_is (a b : Nat) (ha : a < 128) (hb : b < 128) (h : ∀ i, i < 7 → a / 2 ^ i % 2 = 1 → b / 2 ^ i % 2 = 1) : bits .andNot .i64 (a : Int) (b : Int) = 0 := by
  have h1 := List.all_eq_true.1 andn_all a (List.mem_range.2 ha)
  have h2 := List.all_eq_true.1 h1 b (List.mem_range.2 hb)
  rcases Bool.or_eq_true_iff.1 h2 with h3 | h3
  · exact eq_of_beq h3
  · obtain ⟨i, hi, h4⟩ := List.any_eq_true.1 h3
    rw [Bool.and_eq_true, beq_iff_eq, beq_iff_eq] at h4
    have := h i (List.mem_range.1 hi) h4.1
    omega
theorem set_sub {p q : Nat → Bool} {n : Nat} (h : ∀ i, i < n → p i = true → q i = true) (i : Nat) (hi : setN p n / 2 ^ i % 2 = 1) : setN q n / 2 ^ i % 2 = 1 := by
  rw [setN_bit] at hi ⊢
  split at hi
  · rename_i hc
    rw [if_pos ⟨hc.1, h i hc.1 hc.2⟩]
  · cases hi
/-! ### Other offsets, by numbers -/
def byAt (bs : List Int) (k : Nat) : Int := if bs.length = 0 then 0 else bs.getD (k % bs.length) 0
def oneX (l : List (Int × Int)) (bs : List Int) (k : Nat) : Int := (l.getD k (0, 0)).1 + (if bs.length = 0 then 0 else bs.getD (k % bs.length) 0 % ((l.getD k (0, 0)).2 - (l.getD k (0, 0)).1 + 1))
def oneL (l : List (Int × Int)) (bs : List Int) (n k : Nat) : List Int := (List.range n).map fun i => if i < k then oneX l bs i else 0
theorem oneL_len (l : List (Int × Int)) (bs : List Int) (n k : Nat) : (oneL l bs n k).length = n := by simp [oneL]
theorem oneL_zero (l : List (Int × Int)) (bs : List Int) (n : Nat) : oneL l bs n 0 = List.replicate n 0 := by
  apply List.ext_getElem
  · simp [oneL]
  · intro i h1 h2; simp [oneL]
theorem oneL_set (l : List (Int × Int)) (bs : List Int) (n k : Nat) (h : k < n) : (oneL l bs n k).set k (oneX l bs k) = oneL l bs n (k + 1) := by
  apply List.ext_getElem
  · simp [oneL]
  · intro i h1 h2
    rw [List.getElem_set]
    simp only [oneL, List.getElem_map, List.getElem_range]
    by_cases e : k = i
    · subst e; simp
    · rw [if_neg e]
      by_cases e2 : i < k
      · rw [if_pos e2, if_pos (by omega)]
      · rw [if_neg e2, if_neg (by omega)]
theorem oneX_in {l : List (Int × Int)} (hok : ∀ x ∈ l, okSpan x) {bs : List Int} (hbs : ∀ b ∈ bs, 0 ≤ b ∧ b ≤ 255) (k : Nat) (hk : k < l.length) : InS l k (oneX l bs k) := by
  obtain ⟨h1, h2, h3⟩ := hok _ (getD_mem l k hk)
  unfold InS oneX
  split
  · omega
  · have := Int.emod_nonneg (bs.getD (k % bs.length) 0) (show (l.getD k (0, 0)).2 - (l.getD k (0, 0)).1 + 1 ≠ 0 by omega)
    have := Int.emod_lt_of_pos (bs.getD (k % bs.length) 0) (show 0 < (l.getD k (0, 0)).2 - (l.getD k (0, 0)).1 + 1 by omega)
    omega
theorem one_truth {l : List (Int × Int)} (hok : ∀ x ∈ l, okSpan x) {bs : List Int} (hbs : ∀ b ∈ bs, 0 ≤ b ∧ b ≤ 255) : Truth l (fnOf (oneL l bs l.length l.length)) := by
  intro i hi
  have : fnOf (oneL l bs l.length l.length) i = oneX l bs i := by simp [fnOf, oneL, List.getD_eq_getElem?_getD, hi]
  rw [this]
  exact oneX_in hok hbs i hi
theorem truth_bd {l : List (Int × Int)} (hok : ∀ x ∈ l, okSpan x) {xs : List Int} (hx : xs.length = l.length) (ht : Truth l (fnOf xs)) : ∀ x ∈ xs, -1000 ≤ x ∧ x ≤ 1000 := by
  intro x hxm
  obtain ⟨i, hi, rfl⟩ := List.getElem_of_mem hxm
  have h1 := ht i (by omega)
  obtain ⟨h2, h3, h4⟩ := hok _ (getD_mem l i (by omega))
  unfold fnOf at h1
  rw [show xs.getD i 0 = xs[i] by simp [List.getD_eq_getElem?_getD, hi]] at h1
  obtain ⟨h5, h6⟩ := h1
  omega
end Go.Proofs.Ytafmgmaelnpehaa
end

section
set_option linter.unusedVariables false
set_option linter.unusedSimpArgs false
namespace Go.Proofs.Ytafmgmaelnpehaa
open Go.RowKit Go.TL Go.Shelf Go.Fu
attribute [local go_sem] Oper.semAt_some
open PFurrowAsks Go.Proofs.YtafmgmaelnpehaaW.PrintWords
abbrev RowB (w : World) (A : Option Addr) (l : List Int) : Prop := ReadsInt w .u8 A l.length l
theorem ints_set (l : List Int) (k : Nat) (v : Int) : (l.map (Value.int .i64)).set k (.int .i64 v) = (l.set k v).map (Value.int .i64) := by rw [List.map_set]
theorem own_book {w : World} {base n : Nat} {e : TypeId} {sz : Nat} {v : Value} {xs : List Value} (h : w.ownsRow base e sz v n xs) : ∀ j o, v.ownBlock = some j → w.heap[j]? = some o → book o = false := by
  intro j o hv ho
  rcases h.2 with ⟨rfl, _⟩ | ⟨g', cap', cur, rfl, _, hg', _⟩
  · simp [Value.ownBlock] at hv
  · simp only [Value.ownBlock, Option.some.injEq] at hv
    subst hv
    rw [hg'] at ho
    cases ho
    rfl
/-- What the loop keeps. -/
structure OneK (F : Fur) (V : World) (nb : Nat) (Ab : Option Addr) (bs : List Int) : Prop where
  at_ : F.At V
  box : Box3 V nb 24 F.s0 F.s1 F.s2
  by_ : RowB V Ab bs
  le : F.l0.length ≤ 8
  ok : ∀ x ∈ F.pl, ok12 x
  bs_ : ∀ b ∈ bs, 0 ≤ b ∧ b ≤ 255
theorem cell_off {X : World} {b g o k : Nat} {u : Value} (h : b ≠ g) : (X.setCell ⟨g, k, none⟩ u).cell? ⟨b, o, none⟩ = X.cell? ⟨b, o, none⟩ := by
  unfold World.cell?
  rw [show (X.setCell ⟨g, k, none⟩ u).heap[b]? = X.heap[b]? from Below.heap_setCell X ⟨g, k, none⟩ u b h]
theorem oneX_is {F : Fur} {bs : List Int} {k : Nat} {x y : Int} (hk : F.pl.getD k (0, 0) = (x, y)) : oneX F.pl bs k = x + (if bs.length = 0 then 0 else bs.getD (k % bs.length) 0 % (y - x + 1)) := by unfold oneX; rw [hk]
end Go.Proofs.Ytafmgmaelnpehaa
end

section
set_option linter.unusedVariables false
set_option linter.unusedSimpArgs false
namespace Go.Proofs.Ytafmgmaelnpehaa
open Go.RowKit Go.TL Go.Shelf Go.Fu
open PFurrowAsks Go.Proofs.YtafmgmaelnpehaaW.PrintWords
theorem refFurrow_c (F : Fur) (w : World) (h : F.At w) : Calls Try.prog 36 #[F.val] w fun e w' => e = .returned (.bool F.va) ∧ Below w.heap.size w w' :=
  furrowworksref04_Furrow.calls 20 F.A0 F.c0 F.l0 F.A1 F.c1 F.l1 F.A2 F.c2 F.l2 _ w h.r0 h.h0 h.r1 h.h1 h.r2 h.h2 (refFurrow_is _ _ _)
theorem most_c {A : Option Addr} {c : Nat} {l : List Int} {w : World} (hr : RowI w A l) (hc : l.length ≤ c) (hl : l.length ≤ 100) (hb : ∀ x ∈ l, -1000 ≤ x ∧ x ≤ 1000) :
    Calls Try.prog 33 #[.slice A l.length c] w fun e w' => e = .returned (.int .i64 (mostF (fnOf l) (l.length - 2))) ∧ Below w.heap.size w w' := by
  obtain ⟨k, hk⟩ := most_is l hl hb
  exact furrowworksref04_Most.calls k A c l _ w hr hc hk
theorem bent_c {A : Option Addr} {c : Nat} {l : List Int} {w : World} (hr : RowI w A l) (hc : l.length ≤ c) (hl : l.length ≤ 100) (hb : ∀ x ∈ l, -1000 ≤ x ∧ x ≤ 1000) {n : Nat} (h1 : 1 ≤ n) (h2 : n + 1 < l.length) :
    Calls Try.prog 35 #[.slice A l.length c, .int .i64 n] w fun e w' => e = .returned (.int .i64 (bnd (fnOf l) n)) ∧ Below w.heap.size w w' :=
  furrowworksref04_Bent.calls A c l n _ w hr hc (bent_is l n hl h1 h2 hb)
theorem inside_c (n a b : Int) (w : World) : Calls Try.prog 34 #[.int .i64 n, .agg #[.int .i64 a, .int .i64 b]] w fun e w' => e = .returned (.bool (decide (a ≤ n) && decide (n ≤ b))) ∧ Below w.heap.size w w' :=
  furrowworkslaw04_inside.calls n a b _ w (inside_is n a b)
theorem size_c (s : Nat) (hs : s < 256) (w : World) : Calls Try.prog 37 #[.int .i64 s] w fun e w' => e = .returned (.int .i64 ((ones 8 s : Nat) : Int)) ∧ Below w.heap.size w w' := by
  obtain ⟨k, hk⟩ := (size_ev s hs).rounds
  exact (furrowworksref04_Size.calls k s _ w hk).mono fun e w' ⟨a, b⟩ => ⟨a, b.below⟩
/-! ### The stations that bend most -/
theorem worstS_pos {l : List (Int × Int)} {n : Nat} (h : worstS l n = true) : 1 ≤ n := by
  unfold worstS at h
  simp only [Bool.and_eq_true, decide_eq_true_eq] at h
  exact h.1
theorem worstC_pos {l : List (Int × Int)} {n : Nat} (h : worstC l n = true) : 1 ≤ n := by
  unfold worstC at h
  simp only [Bool.and_eq_true, decide_eq_true_eq] at h
  exact h.1
theorem worst_sub {l : List (Int × Int)} (hok : ∀ x ∈ l, okSpan x) {i : Nat} (h : worstS l i = true) (h2 : i + 1 < l.length) : worstC l i = true :=
  (worstC_iff l i (worstS_pos h) h2 hok).2 ⟨_, lo_truth hok, (worstS_iff l i (worstS_pos h) h2 hok).1 h _ (lo_truth hok)⟩
def innerB (i : Nat) : Bool := decide (1 ≤ i)
theorem setN_zero {p : Nat → Bool} : ∀ n, (∀ i, i < n → p i = false) → setN p n = 0
  | 0, _ => rfl
  | n + 1, h => by
    have := setN_zero n fun i hi => h i (by omega)
    unfold setN
    rw [h n (by omega), this]
    rfl
theorem setN_nz {p : Nat → Bool} {n i : Nat} (hi : i < n) (h : p i = true) : setN p n ≠ 0 := by
  intro e
  have := setN_bit p n i
  rw [e, if_pos ⟨hi, h⟩] at this
  simp at this
theorem some_most {l : List (Int × Int)} (h3 : 3 ≤ l.length) (x : Nat → Int) : ∃ m, 1 ≤ m ∧ m + 1 < l.length ∧ bnd x m = mostL l x := by
  rcases mostF_at x (l.length - 2) with h | ⟨n, h1, h2, h4⟩
  · refine ⟨1, by omega, by omega, ?_⟩
    have a := bnd_le_most (l := l) (x := x) (n := 1) (by omega) (by omega)
    have b := bnd_nn x 1
    unfold mostL at *
    omega
  · exact ⟨n, h1, by omega, h4⟩
theorem lt128 {p : Nat → Bool} {n : Nat} (h : n ≤ 8) : setN p (n - 1) < 128 := Nat.lt_of_lt_of_le (setN_lt p (n - 1)) (show 2 ^ (n - 1) ≤ 2 ^ 7 from Nat.pow_le_pow_right (by omega) (by omega))
theorem wset1 {l : List (Int × Int)} (hok : ∀ x ∈ l, okSpan x) (h8 : l.length ≤ 8) : bits .andNot .i64 ((setN (worstS l) (l.length - 1) : Nat) : Int) ((setN (worstC l) (l.length - 1) : Nat) : Int) = 0 :=
  andn_is _ _ (lt128 h8) (lt128 h8) fun i _ h => set_sub (fun j hj hp => worst_sub hok hp (by omega)) i h
theorem wset2 {l : List (Int × Int)} (h8 : l.length ≤ 8) : bits .andNot .i64 ((setN (worstC l) (l.length - 1) : Nat) : Int) ((setN innerB (l.length - 1) : Nat) : Int) = 0 :=
  andn_is _ _ (lt128 h8) (lt128 h8) fun i _ h => set_sub (fun j hj hp => decide_eq_true (worstC_pos hp)) i h
theorem inner_zero : ∀ n, n < 3 → setN innerB (n - 1) = 0 := by decide
theorem inner_three : ∀ n, n ≤ 8 → ones 8 (setN innerB (n - 1)) = 1 → n = 3 := by decide +kernel
theorem wset3 {l : List (Int × Int)} (hok : ∀ x ∈ l, okSpan x) (h8 : l.length ≤ 8) : setN (worstC l) (l.length - 1) = 0 ↔ setN innerB (l.length - 1) = 0 := by
  by_cases h3 : 3 ≤ l.length
  · obtain ⟨m, h1, h2, hm⟩ := some_most h3 fun i => (l.getD i (0, 0)).1
    have hw : worstC l m = true := (worstC_iff l m h1 h2 hok).2 ⟨_, lo_truth hok, fun i i1 i2 => by have := bnd_le_most (l := l) (x := fun i => (l.getD i (0, 0)).1) i1 i2; omega⟩
    exact ⟨fun e => absurd e (setN_nz (by omega) hw), fun e => absurd e (setN_nz (i := m) (by omega) (decide_eq_true h1))⟩
  · refine ⟨fun _ => inner_zero _ (by omega), fun _ => setN_zero _ fun i hi => ?_⟩
    cases h : worstC l i with
    | false => rfl
    | true => have := worstC_pos h; omega
theorem wset4 {l : List (Int × Int)} (hok : ∀ x ∈ l, okSpan x) (h8 : l.length ≤ 8) (h : ones 8 (setN innerB (l.length - 1)) = 1) : setN (worstS l) (l.length - 1) = setN innerB (l.length - 1) := by
  have h3 := inner_three _ h8 h
  have h1 : worstS l 1 = true := (worstS_iff l 1 (by omega) (by omega) hok).2 fun x hx i i1 i2 => by rw [show i = 1 by omega]; exact Int.le_refl _
  have h0 : worstS l 0 = false := by
    cases e : worstS l 0 with
    | false => rfl
    | true => have := worstS_pos e; omega
  rw [h3]
  simp [setN, h1, h0, innerB]
theorem hi_le {l : List (Int × Int)} (hok : ∀ x ∈ l, okSpan x) {i : Nat} (h1 : 1 ≤ i) (h2 : i + 1 < l.length) : (atF l i).2 ≤ hiF l (l.length - 2) := (hiF_all l hok (l.length - 2) (by omega)).2.1 i h1 (by omega)
structure Sta (l : List (Int × Int)) (x : Nat → Int) (i : Nat) : Prop where
  a : bnd x i = mostL l x → worstC l i = true
  b : worstS l i = true → bnd x i = mostL l x
  c : worstS l i = true → (atF l i).2 = hiF l (l.length - 2)
  d : (atF l i).2 = hiF l (l.length - 2) → worstC l i = true
  e : bnd x i ≤ mostL l x
  f : (atF l i).1 ≤ bnd x i
  g : bnd x i ≤ (atF l i).2
  h : (atF l i).2 ≤ hiF l (l.length - 2)
theorem sta_is {l : List (Int × Int)} (hok : ∀ x ∈ l, okSpan x) {x : Nat → Int} (hx : Truth l x) {i : Nat} (h1 : 1 ≤ i) (h2 : i + 1 < l.length) : Sta l x i := by
  have hs := at_spec l i h1 h2 hok
  have hC := worstC_iff l i h1 h2 hok
  have hS := worstS_iff l i h1 h2 hok
  refine ⟨fun e => hC.2 ⟨x, hx, fun j j1 j2 => by rw [e]; exact bnd_le_most j1 j2⟩, fun e => ?_, fun e => ?_, fun e => ?_, bnd_le_most h1 h2, (hs.all x hx).1, (hs.all x hx).2, hi_le hok h1 h2⟩
  · have a := bnd_le_most (l := l) (x := x) h1 h2
    have b := (mostL_le (bnd_nn x i)).2 (hS.1 e x hx)
    omega
  · obtain ⟨⟨y, hy, hm⟩, _⟩ := hi_spec l hok
    have b := (mostL_le (bnd_nn y i)).2 (hS.1 e y hy)
    have c := (hs.all y hy).2
    have d := hi_le hok h1 h2
    omega
  · obtain ⟨y, hy, hb⟩ := hs.hi
    refine hC.2 ⟨y, hy, fun j j1 j2 => ?_⟩
    have := (hi_spec l hok).2 y hy
    have := bnd_le_most (l := l) (x := y) j1 j2
    omega
/-- A station below k may bend as much as the furrow. -/
noncomputable def anyH (l : List (Int × Int)) : Nat → Bool
  | 0 => false
  | k + 1 => anyH l k || decide ((atF l (k + 1)).2 = hiF l (l.length - 2))
theorem anyH_of {l : List (Int × Int)} : ∀ k n, 1 ≤ n → n ≤ k → (atF l n).2 = hiF l (l.length - 2) → anyH l k = true
  | 0, n, h1, h2, _ => by omega
  | k + 1, n, h1, h2, h => by
    unfold anyH
    by_cases e : n = k + 1
    · subst e; rw [h]; simp
    · rw [anyH_of k n h1 (by omega) h]; rfl
theorem anyH_all {l : List (Int × Int)} (hok : ∀ x ∈ l, okSpan x) (h : setN innerB (l.length - 1) ≠ 0) : anyH l (l.length - 2) = true := by
  have h3 : 3 ≤ l.length := by
    refine Nat.not_lt.1 fun hl => h (inner_zero _ hl)
  obtain ⟨i1, i2, i3⟩ := hiF_all l hok (l.length - 2) (by omega)
  rcases i3 with i3 | ⟨n, h1, h2, h4⟩
  · refine anyH_of _ 1 (by omega) (by omega) ?_
    have a := i2 1 (by omega) (by omega)
    have b := (at_spec l 1 (by omega) (by omega) hok).all _ (lo_truth hok)
    have c := bnd_nn (fun i => (l.getD i (0, 0)).1) 1
    omega
  · exact anyH_of _ n h1 h2 h4
theorem bit_of {p : Nat → Bool} {n i : Nat} (h8 : n ≤ 8) (hi : i + 1 < n) : bits .and .i64 (((setN p (n - 1) : Nat) : Int) / 2 ^ i) 1 = if p i then 1 else 0 := by
  rw [andb_is _ _ (Nat.lt_trans (lt128 h8) (by omega)) (by omega), setN_bit]
  by_cases h : p i = true
  · rw [if_pos ⟨by omega, h⟩, if_pos h]; rfl
  · rw [if_neg (fun c => h c.2), if_neg h]; rfl
end Go.Proofs.Ytafmgmaelnpehaa
end

section
set_option linter.unusedVariables false
set_option linter.unusedSimpArgs false
namespace Go.Proofs.Ytafmgmaelnpehaa
open Go.RowKit Go.Fu
theorem strF_succ (m : Nat) (l : List (Int × Int)) (k : Nat) : strF m l (k + 1) = strStep m (strF m l k) k := by
  unfold strF
  rw [List.range_succ, List.foldl_append]
  rfl
structure StrInv (l : List (Int × Int)) (m k : Nat) (s : List (Int × Int) × List Int) : Prop where
  a : s.2.length = k
  b : s.1.length = l.length
  c : ∀ i, i < l.length → s.1.getD i (0, 0) = if i < k then (s.2.getD i 0, s.2.getD i 0) else l.getD i (0, 0)
  d : ∀ i, i < k → InS l i (s.2.getD i 0)
  e : canB s.1 (upP m) = true
  f : ∀ x, Truth l x → mostL l x ≤ m → ∀ i, i < k → (∀ j, j < i → x j = s.2.getD j 0) → x i ≠ s.2.getD i 0 → s.2.getD i 0 < x i
theorem find_first (lo hi : Int) (p : Int → Bool) (o : Int) (h : (spanL (lo, hi)).find? p = some o) : p o = true ∧ lo ≤ o ∧ o ≤ hi ∧ ∀ a, lo ≤ a → a < o → p a = false := by
  have h1 := List.find?_some h
  have h2 := (mem_spanL (lo, hi) o).1 (List.mem_of_find?_eq_some h)
  refine ⟨h1, h2.1, h2.2, fun a ha hlt => ?_⟩
  obtain ⟨_, i, hil, he, hall⟩ := List.find?_eq_some_iff_getElem.1 h
  have hg : ∀ j (hj : j < (spanL (lo, hi)).length), (spanL (lo, hi))[j] = lo + j := by
    intro j hj
    unfold spanL at hj ⊢
    exact ints_get _ _ _ _
  rw [hg] at he
  have := hall (a - lo).toNat (by omega)
  rw [hg] at this
  rw [show lo + (((a - lo).toNat : Nat) : Int) = a by omega] at this
  simpa using this
theorem str_step {l : List (Int × Int)} (hok : ∀ x ∈ l, okSpan x) {m k : Nat} (hk : k < l.length) {s : List (Int × Int) × List Int} (h : StrInv l m k s) : StrInv l m (k + 1) (strStep m s k) := by
  have hl : ∀ i, i < l.length → okSpan (l.getD i (0, 0)) := fun i hi => hok _ (getD_mem l i hi)
  have okset : ∀ o, InS l k o → ∀ x ∈ s.1.set k (o, o), okSpan x := by
    intro o ho x hx
    obtain ⟨i, hi, rfl⟩ := List.getElem_of_mem hx
    have hi' : i < l.length := by rw [List.length_set, h.b] at hi; exact hi
    have e : (s.1.set k (o, o))[i]'hi = (s.1.set k (o, o)).getD i (0, 0) := by rw [List.getD_eq_getElem?_getD, List.getElem?_eq_getElem hi]; rfl
    rw [e, getD_set _ _ _ _ _ (by rw [h.b]; exact hk), h.c i hi']
    obtain ⟨a1, a2, a3⟩ := hl i hi'
    by_cases e1 : i = k
    · subst e1
      rw [if_pos rfl]
      obtain ⟨b1, b2⟩ := ho
      exact ⟨by show _ ≤ o; omega, Int.le_refl _, by show o ≤ _; omega⟩
    · rw [if_neg e1]
      by_cases e2 : i < k
      · rw [if_pos e2]
        obtain ⟨b1, b2⟩ := h.d i e2
        exact ⟨by show _ ≤ s.2.getD i 0; omega, Int.le_refl _, by show s.2.getD i 0 ≤ _; omega⟩
      · rw [if_neg e2]; exact hl i hi'
  have oks : ∀ x ∈ s.1, okSpan x := by
    intro x hx
    obtain ⟨i, hi, rfl⟩ := List.getElem_of_mem hx
    have hi' : i < l.length := by rw [h.b] at hi; exact hi
    have e : s.1[i]'hi = s.1.getD i (0, 0) := by rw [List.getD_eq_getElem?_getD, List.getElem?_eq_getElem hi]; rfl
    rw [e, h.c i hi']
    obtain ⟨a1, a2, a3⟩ := hl i hi'
    by_cases e2 : i < k
    · rw [if_pos e2]
      obtain ⟨b1, b2⟩ := h.d i e2
      exact ⟨by show _ ≤ s.2.getD i 0; omega, Int.le_refl _, by show s.2.getD i 0 ≤ _; omega⟩
    · rw [if_neg e2]; exact hl i hi'
  have hset : ∀ o i, i < l.length → (s.1.set k (o, o)).getD i (0, 0) = if i = k then (o, o) else if i < k then (s.2.getD i 0, s.2.getD i 0) else l.getD i (0, 0) := fun o i hi => by
    rw [getD_set _ _ _ _ _ (by rw [h.b]; exact hk), h.c i hi]
  -- a truth that goes so far with it shows that its next offset will do
  have works : ∀ x, Truth l x → mostL l x ≤ m → (∀ j, j < k → x j = s.2.getD j 0) → canB (s.1.set k (x k, x k)) (upP m) = true := by
    intro x hx hm hj
    refine (canB_most (okset (x k) (hx k hk)) (m := (m : Int)) (by omega)).2 ⟨x, fun i hi => ?_, ?_⟩
    · have hi' : i < l.length := by rw [List.length_set, h.b] at hi; exact hi
      unfold InS
      rw [hset _ i hi']
      by_cases e1 : i = k
      · subst e1; rw [if_pos rfl]; exact ⟨Int.le_refl _, Int.le_refl _⟩
      · rw [if_neg e1]
        by_cases e2 : i < k
        · rw [if_pos e2, hj i e2]; exact ⟨Int.le_refl _, Int.le_refl _⟩
        · rw [if_neg e2]; exact hx i hi'
    · unfold mostL at *
      rw [List.length_set, h.b]
      exact hm
  obtain ⟨y, hy, hym⟩ := (canB_most oks (m := (m : Int)) (by omega)).1 h.e
  have hyt : Truth l y := by
    intro i hi
    have h1 := hy i (by rw [h.b]; exact hi)
    unfold InS at h1
    rw [h.c i hi] at h1
    by_cases e2 : i < k
    · rw [if_pos e2] at h1
      rw [show y i = s.2.getD i 0 from Int.le_antisymm h1.2 h1.1]
      exact h.d i e2
    · rw [if_neg e2] at h1; exact h1
  have hyj : ∀ j, j < k → y j = s.2.getD j 0 := by
    intro j hj
    have h1 := hy j (by rw [h.b]; omega)
    unfold InS at h1
    rw [h.c j (by omega), if_pos hj] at h1
    exact Int.le_antisymm h1.2 h1.1
  have hyl : mostL l y ≤ m := by unfold mostL at *; rw [h.b] at hym; exact hym
  have hw := works y hyt hyl hyj
  have hck : s.1.getD k (0, 0) = l.getD k (0, 0) := by rw [h.c k hk, if_neg (Nat.lt_irrefl _)]
  unfold strStep
  rw [hck]
  obtain ⟨lo, hi, hlh⟩ : ∃ lo hi, l.getD k (0, 0) = (lo, hi) := ⟨_, _, rfl⟩
  rw [hlh]
  cases hf : (spanL (lo, hi)).find? (fun o => canB (s.1.set k (o, o)) (upP m)) with
  | none =>
    have := List.find?_eq_none.1 hf (y k) ((mem_spanL (lo, hi) (y k)).2 (by have := hyt k hk; unfold InS at this; rw [hlh] at this; exact this))
    exact absurd hw this
  | some o =>
    obtain ⟨h1, h2, h3, h4⟩ := find_first lo hi _ o hf
    have hoI : InS l k o := by unfold InS; rw [hlh]; exact ⟨h2, h3⟩
    have happ : ∀ i, i < k → (s.2 ++ [o]).getD i 0 = s.2.getD i 0 := fun i hi => by simp [List.getD_eq_getElem?_getD, h.a, hi, List.getElem?_append]
    have happk : (s.2 ++ [o]).getD k 0 = o := by simp [List.getD_eq_getElem?_getD, h.a, List.getElem?_append]
    refine ⟨by simp [h.a], by simp [h.b], fun i hi => ?_, fun i hi => ?_, h1, fun x hx hm i hi hj hne => ?_⟩
    · show (s.1.set k (o, o)).getD i (0, 0) = _
      rw [hset o i hi]
      by_cases e1 : i = k
      · subst e1; rw [if_pos rfl, if_pos (by omega)]; show _ = ((s.2 ++ [o]).getD i 0, (s.2 ++ [o]).getD i 0); rw [happk]
      · rw [if_neg e1]
        by_cases e2 : i < k
        · rw [if_pos e2, if_pos (by omega)]; show _ = ((s.2 ++ [o]).getD i 0, (s.2 ++ [o]).getD i 0); rw [happ i e2]
        · rw [if_neg e2, if_neg (by omega)]
    · show InS l i ((s.2 ++ [o]).getD i 0)
      by_cases e1 : i = k
      · subst e1; rw [happk]; exact hoI
      · rw [happ i (by omega)]; exact h.d i (by omega)
    · have hj' : ∀ j, j < i → x j = (s.2 ++ [o]).getD j 0 := hj
      have hne' : x i ≠ (s.2 ++ [o]).getD i 0 := hne
      show (s.2 ++ [o]).getD i 0 < x i
      by_cases e1 : i = k
      · subst e1
        rw [happk] at hne' ⊢
        refine Int.not_le.1 fun hle => ?_
        have hxl := hx i hk
        unfold InS at hxl
        rw [hlh] at hxl
        have := h4 (x i) hxl.1 (by omega)
        rw [works x hx hm fun j hj2 => by rw [hj' j hj2, happ j hj2]] at this
        cases this
      · rw [happ i (by omega)] at hne' ⊢
        exact h.f x hx hm i (by omega) (fun j hj2 => by rw [hj' j hj2, happ j (by omega)]) hne'
theorem str_inv {l : List (Int × Int)} (hok : ∀ x ∈ l, okSpan x) : ∀ k, k ≤ l.length → StrInv l (leastN l) k (strF (leastN l) l k)
  | 0, _ => ⟨rfl, rfl, fun i hi => by rw [if_neg (by omega)]; rfl, fun i hi => by omega, (leastN_is l hok).1, fun x hx hm i hi => by omega⟩
  | k + 1, hk => by
    rw [strF_succ]
    exact str_step hok (by omega) (str_inv hok k (by omega))
structure StrSpec (l : List (Int × Int)) (o : List Int) : Prop where
  len : o.length = l.length
  tr : Truth l (fnOf o)
  most : mostL l (fnOf o) = leastN l
  first : ∀ x, Truth l x → mostL l x ≤ leastN l → ∀ i, i < l.length → (∀ j, j < i → x j = fnOf o j) → x i ≠ fnOf o i → fnOf o i < x i
theorem str_spec {l : List (Int × Int)} (hok : ∀ x ∈ l, okSpan x) : StrSpec l (strF (leastN l) l l.length).2 := by
  have h := str_inv hok l.length (Nat.le_refl _)
  generalize strF (leastN l) l l.length = s at *
  have ht : Truth l (fnOf s.2) := fun i hi => h.d i hi
  refine ⟨h.a, ht, ?_, fun x hx hm i hi hj hne => h.f x hx hm i hi hj hne⟩
  have oks : ∀ x ∈ s.1, okSpan x := by
    intro x hx
    obtain ⟨i, hi, rfl⟩ := List.getElem_of_mem hx
    have hi' : i < l.length := by rw [h.b] at hi; exact hi
    have e : s.1[i]'hi = s.1.getD i (0, 0) := by rw [List.getD_eq_getElem?_getD, List.getElem?_eq_getElem hi]; rfl
    rw [e, h.c i hi', if_pos hi']
    obtain ⟨a1, a2, a3⟩ := hok _ (getD_mem l i hi')
    obtain ⟨b1, b2⟩ := h.d i hi'
    exact ⟨by show _ ≤ s.2.getD i 0; omega, Int.le_refl _, by show s.2.getD i 0 ≤ _; omega⟩
  obtain ⟨y, hy, hym⟩ := (canB_most oks (m := ((leastN l : Nat) : Int)) (by omega)).1 h.e
  have hyj : ∀ j, j < l.length → y j = fnOf s.2 j := by
    intro j hj
    have h1 := hy j (by rw [h.b]; exact hj)
    unfold InS at h1
    rw [h.c j hj, if_pos hj] at h1
    exact Int.le_antisymm h1.2 h1.1
  have hle : mostL l (fnOf s.2) ≤ leastN l := by
    refine (mostL_le (by omega)).2 fun n h1 h2 => ?_
    rw [bnd_congr (y := y) (hyj _ (by omega)).symm (hyj _ (by omega)).symm (hyj _ (by omega)).symm]
    exact (mostL_le (l := s.1) (by omega)).1 hym n h1 (by rw [h.b]; exact h2)
  have := (least_spec l hok).2 _ ht
  omega
end Go.Proofs.Ytafmgmaelnpehaa
end

section
set_option linter.unusedVariables false
set_option linter.unusedSimpArgs false
namespace Go.Proofs.Ytafmgmaelnpehaa
open Go.RowKit Go.TL Go.Fu
open PFurrowAsks Go.Proofs.YtafmgmaelnpehaaW.PrintWords
theorem freeS_zero (l : List (Int × Int)) : freeS 0 l = l := by
  apply List.ext_getElem
  · exact freeS_len 0 l
  · intro i h1 h2
    have e1 : (freeS 0 l)[i]'h1 = (freeS 0 l).getD i (0, 0) := by rw [List.getD_eq_getElem?_getD, List.getElem?_eq_getElem h1]; rfl
    have e2 : l[i]'h2 = l.getD i (0, 0) := by rw [List.getD_eq_getElem?_getD, List.getElem?_eq_getElem h2]; rfl
    rw [e1, e2, freeS_get _ _ _ h2, if_neg (by simp)]
theorem wrong_least {l : List (Int × Int)} (hok : ∀ x ∈ l, okSpan x) : IsWrong l (leastN l) 0 :=
  ⟨Nat.two_pow_pos _, by rw [freeS_zero]; exact (leastN_is l hok).1, fun s _ _ => ⟨by rw [show ones 8 0 = 0 from rfl]; omega, fun _ => Nat.zero_le _⟩⟩
theorem wrongV_least {l : List (Int × Int)} (hok : ∀ x ∈ l, okSpan x) : wrongV true (leastN l) l = (0, 0) := by
  unfold wrongV
  rw [if_pos rfl, if_pos (by omega), wrongN_eq (wrong_least hok)]
  rfl
theorem wrong_under {l : List (Int × Int)} (hok : ∀ x ∈ l, okSpan x) (h1 : 1 ≤ leastN l) (h : IsWrong l ((leastN l : Int) - 1) (wrongN l ((leastN l : Int) - 1))) : wrongN l ((leastN l : Int) - 1) ≠ 0 := by
  intro e
  have h2 := h.can
  rw [e, freeS_zero] at h2
  have h3 := (leastN_is l hok).2 (leastN l - 1) (by omega)
  rw [show (((leastN l - 1 : Nat)) : Int) = (leastN l : Int) - 1 by omega] at h3
  rw [h3] at h2
  cases h2
/-- 'Wrong' at the least bend finds nothing wrong. -/
theorem wrong_c0 {F : Fur} (hv : F.va = true) (w : World) (h : F.At w) :
    Calls Try.prog 24 #[F.val, .int .i64 (leastN F.pl)] w fun e w' => e = .returned (.tuple #[.int .i64 0, .int .i64 0]) ∧ Below w.heap.size w w' :=
  (Wrong_c F (leastN F.pl) w h).mono fun e w' ⟨⟨he, _⟩, hb⟩ => by
    rw [hv, wrongV_least (Fur.okS hv)] at he
    exact ⟨he, hb⟩
/-- One less, and something is. -/
theorem wrong_c1 {F : Fur} (hv : F.va = true) (h1 : 1 ≤ leastN F.pl) (w : World) (h : F.At w) :
    Calls Try.prog 24 #[F.val, .int .i64 ((leastN F.pl : Int) - 1)] w fun e w' => (∃ n : Int, n ≠ 0 ∧ e = .returned (.tuple #[.int .i64 n, .int .i64 0])) ∧ Below w.heap.size w w' :=
  (Wrong_c F ((leastN F.pl : Int) - 1) w h).mono fun e w' ⟨⟨he, hw⟩, hb⟩ => by
    have hn := wrong_under (Fur.okS hv) h1 (hw hv (by omega))
    refine ⟨⟨(wrongN F.pl ((leastN F.pl : Int) - 1) : Int), by omega, ?_⟩, hb⟩
    unfold wrongV at he
    rw [hv, if_pos rfl, if_pos (by omega)] at he
    exact he
end Go.Proofs.Ytafmgmaelnpehaa
end

section
set_option linter.unusedVariables false
set_option linter.unusedSimpArgs false
namespace Go.Proofs.Ytafmgmaelnpehaa
open Go.RowKit Go.TL Go.Shelf Go.Fu
attribute [local go_sem] Oper.semAt_some
open PFurrowAsks Go.Proofs.YtafmgmaelnpehaaW.PrintWords
def OsI (F : Fur) (V : World) (nb : Nat) (Ab : Option Addr) (cb : Nat) (bs : List Int) (A5 : Option Addr) (c5 a7 g : Nat) (j : Nat) (t : Array Value) (W : World) : Prop :=
  ∃ k : Nat, k ≤ F.l0.length ∧ j = F.l0.length - k ∧ Below V.heap.size V W ∧ W.ownsRow V.heap.size 3 1 (.slice (some ⟨g, 0, none⟩) F.l0.length F.l0.length) F.l0.length ((oneL F.pl bs F.l0.length k).map (Value.int .i64)) ∧
    Slots [none, some (.slice Ab bs.length cb), some (.pointer (some ⟨nb, 0, none⟩)), none, none, some (.slice A5 F.l0.length c5), none, some (.pointer (some ⟨a7, 0, none⟩)), none, some (.slice (some ⟨g, 0, none⟩) F.l0.length F.l0.length), none, none, none, none, none, none, none, none, none, none, none, none, none, none, none, none, none, none, none, none, none, none, none, none, none, none, none, none, none, none, none, none, none, none, none, none, none, none, none, none, none, none, none, none, none, none, none, none, none, none, none, none, none, none, none, none, none, none, none, none, none, none, none, none, none, none, none, none, none, none, none, none, none, none, none, none, none, none, none, none, none, none, none, none, none, some (.slice A5 F.l0.length c5), some (.int .i64 F.l0.length), some (.int .i64 k), none, none, none, none, none, none, none, none, none, none, none, none, none, none, none, none, none, none, none, none, none, none, none, none, none, none, none, none, none, none, none, none, none, none, none, none, none, none, none, none, none, none, none, none, none, none, none, none, none, none, none, none, none, none, none, none, none, none, none, none, none, none, none, none, none, none, none, none, none, none, none, none, none, none, none, none, none, none, none, none, none, none, none, none, none, none, none, none, none, none, none, none, none, none, none, none, none, none, none, none, none, none, none, none, none, none, none, none, none, none, none, none, none, none, none, none, none, none, none, none, none, none, none, none, none, none, none, none] t
def OsM (F : Fur) (V : World) (nb : Nat) (Ab : Option Addr) (cb : Nat) (bs : List Int) (A5 : Option Addr) (c5 a7 g k : Nat) (t : Array Value) (W : World) : Prop :=
  Below V.heap.size V W ∧ W.ownsRow V.heap.size 3 1 (.slice (some ⟨g, 0, none⟩) F.l0.length F.l0.length) F.l0.length ((oneL F.pl bs F.l0.length (k + 1)).map (Value.int .i64)) ∧
    Slots [none, some (.slice Ab bs.length cb), some (.pointer (some ⟨nb, 0, none⟩)), none, none, some (.slice A5 F.l0.length c5), none, some (.pointer (some ⟨a7, 0, none⟩)), none, some (.slice (some ⟨g, 0, none⟩) F.l0.length F.l0.length), none, none, none, none, none, none, none, none, none, none, none, none, none, none, none, none, none, none, none, none, none, none, none, none, none, none, none, none, none, none, none, none, none, none, none, none, none, none, none, none, none, none, none, none, none, none, none, none, none, none, none, none, none, none, none, none, none, none, none, none, none, none, none, none, none, none, none, none, none, none, none, none, none, none, none, none, none, none, none, none, none, none, none, none, none, some (.slice A5 F.l0.length c5), some (.int .i64 F.l0.length), some (.int .i64 k), none, none, none, none, none, none, none, none, none, none, none, none, none, none, none, none, none, none, none, none, none, none, none, none, none, none, none, none, none, none, none, none, none, none, none, none, none, none, none, none, none, none, none, none, none, none, none, none, none, none, none, none, none, none, none, none, none, none, none, none, none, none, none, none, none, none, none, none, none, none, none, none, none, none, none, none, none, none, none, none, none, none, none, none, none, none, none, none, none, none, none, none, none, none, none, none, none, none, none, none, none, none, none, none, none, none, none, none, none, none, none, none, none, none, none, none, none, none, none, none, none, none, none, none, none, none, none, none] t
def OsF (F : Fur) (V : World) (nb : Nat) (Ab : Option Addr) (cb : Nat) (bs : List Int) (A5 : Option Addr) (c5 a7 g : Nat) (t : Array Value) (W : World) : Prop :=
  Below V.heap.size V W ∧ W.ownsRow V.heap.size 3 1 (.slice (some ⟨g, 0, none⟩) F.l0.length F.l0.length) F.l0.length ((oneL F.pl bs F.l0.length F.l0.length).map (Value.int .i64)) ∧
    Slots [none, some (.slice Ab bs.length cb), some (.pointer (some ⟨nb, 0, none⟩)), none, none, some (.slice A5 F.l0.length c5), none, some (.pointer (some ⟨a7, 0, none⟩)), none, some (.slice (some ⟨g, 0, none⟩) F.l0.length F.l0.length), none, none, none, none, none, none, none, none, none, none, none, none, none, none, none, none, none, none, none, none, none, none, none, none, none, none, none, none, none, none, none, none, none, none, none, none, none, none, none, none, none, none, none, none, none, none, none, none, none, none, none, none, none, none, none, none, none, none, none, none, none, none, none, none, none, none, none, none, none, none, none, none, none, none, none, none, none, none, none, none, none, none, none, none, none, none, none, none, none, none, none, none, none, none, none, none, none, none, none, none, none, none, none, none, none, none, none, none, none, none, none, none, none, none, none, none, none, none, none, none, none, none, none, none, none, none, none, none, none, none, none, none, none, none, none, none, none, none, none, none, none, none, none, none, none, none, none, none, none, none, none, none, none, none, none, none, none, none, none, none, none, none, none, none, none, none, none, none, none, none, none, none, none, none, none, none, none, none, none, none, none, none, none, none, none, none, none, none, none, none, none, none, none, none, none, none, none, none, none, none, none, none, none, none, none, none, none, none, none, none, none, none, none, none, none, none] t
set_option maxRecDepth 100000 in
set_option maxHeartbeats 1000000 in
/-- The number is added. -/
theorem ws_add {F : Fur} {V W : World} {nb : Nat} {Ab : Option Addr} {cb : Nat} {bs : List Int} {A5 : Option Addr} {c5 a7 g k : Nat} {lo hi : Int} {ad : Addr} (hK : OneK F V nb Ab bs) (hk : k < F.l0.length) (hpk : F.pl.getD k (0, 0) = (lo, hi)) (hB : Below V.heap.size V W) (hpos : 0 < bs.length)
    (hown : W.ownsRow V.heap.size 3 1 (.slice (some ⟨g, 0, none⟩) F.l0.length F.l0.length) F.l0.length (((oneL F.pl bs F.l0.length k).set k lo).map (Value.int .i64))) (hb0 : V.cell? ⟨nb, 0, none⟩ = some (.slice (some ad) F.l0.length F.c0)) (hc0 : V.cell? (ad.add (k * 2)) = some (.int .i64 lo)) (hc1 : V.cell? ⟨(ad.add (k * 2)).block, (ad.add (k * 2)).off + 1, none⟩ = some (.int .i64 hi)) (t : Array Value)
    (hSl : Slots [none, some (.slice Ab bs.length cb), some (.pointer (some ⟨nb, 0, none⟩)), none, none, some (.slice A5 F.l0.length c5), none, some (.pointer (some ⟨a7, 0, none⟩)), none, some (.slice (some ⟨g, 0, none⟩) F.l0.length F.l0.length), some (.int .i64 k), none, none, none, none, none, none, none, none, none, none, none, none, none, none, none, none, none, none, none, none, none, none, none, none, none, none, none, none, none, none, none, none, none, none, none, none, none, none, none, none, none, none, none, none, none, none, none, none, none, none, none, none, none, none, none, none, none, none, none, none, none, none, none, none, none, none, none, none, none, none, none, none, none, none, none, none, none, none, none, none, none, none, none, none, some (.slice A5 F.l0.length c5), some (.int .i64 F.l0.length), some (.int .i64 k), none, none, none, none, none, none, none, none, none, none, none, none, none, none, none, none, none, none, none, none, none, none, none, none, none, none, none, none, none, none, none, none, none, none, none, none, none, none, none, none, none, none, none, none, none, none, none, none, none, none, none, none, none, none, none, none, none, none, none, none, none, none, none, none, none, none, none, none, none, none, none, none, none, none, none, none, none, none, none, none, none, none, none, none, none, none, none, none, none, none, none, none, none, none, none, none, none, none, none, none, none, none, none, none, none, none, none, none, none, none, none, none, none, none, none, none, none, none, none, none, none, none, none, none, none, none, none, none] t) :
    Exec Try.prog none (sub (Try.f7.body.getD .skip) [1, 1, 1, 1, 1, 1, 1, 0, 1, 0, 0, 1, 1, 0, 0, 1, 1, 1, 1, 0]) t W (andThen (OsM F V nb Ab cb bs A5 c5 a7 g k) fun _ _ _ => False) := by
  obtain ⟨x, hx⟩ := Slots.open_ hSl; simp only [fill, Nat.reduceAdd] at hx; subst hx; clear hSl
  obtain ⟨_, _, hby, hle, hok, hbs⟩ := hK
  have hxy : ok12 (lo, hi) := by
    have := getD_mem F.pl k (by rw [F.pl_len]; exact hk)
    rw [hpk] at this
    exact hok _ this
  obtain ⟨o1, o2, o3, o4⟩ := hxy
  simp only at o1 o2 o3 o4
  have hbl : bs.length ≤ 9223372036854775807 := hby.2.1
  have hm : k % bs.length < bs.length := Nat.mod_lt _ hpos
  obtain ⟨ab, hab, hcb⟩ := ReadsInt.at_ hby ((k % bs.length : Nat) : Int) (by omega) (by omega)
  rw [Int.toNat_natCast] at hcb
  have hrb : rd bs ((k % bs.length : Nat) : Int) = bs.getD (k % bs.length) 0 := by unfold rd; rw [Int.toNat_natCast]
  rw [hrb] at hcb
  have hbv : 0 ≤ bs.getD (k % bs.length) 0 ∧ bs.getD (k % bs.length) 0 ≤ 255 := by
    rw [List.getD_eq_getElem?_getD, List.getElem?_eq_getElem hm]
    exact hbs _ (List.getElem_mem hm)
  obtain ⟨v, hv⟩ : ∃ v, bs.getD (k % bs.length) 0 = v := ⟨_, rfl⟩
  rw [hv] at hcb hbv
  have hox : oneX F.pl bs k = lo + v % (hi - lo + 1) := by rw [oneX_is hpk, if_neg (by omega), hv]
  have hr1 := Int.emod_nonneg v (show hi - lo + 1 ≠ 0 by omega)
  have hr2 := Int.emod_lt_of_pos v (show 0 < hi - lo + 1 by omega)
  subst hab
  have hcb' : W.cell? (ab.add (k % bs.length)) = some (.int .u8 v) := (Grow.of_below (B := 0) hB).cell hcb
  have cg := hown.cellAt k (by omega)
  have cf := hown.frozenAt k
  have hgk : ((((oneL F.pl bs F.l0.length k).set k lo).map (Value.int .i64))[k]?) = some (.int .i64 lo) := by simp [oneL_len, hk]
  rw [hgk] at cg
  have hne : bs ≠ [] := fun e => by rw [e] at hpos; cases hpos
  have hga : (⟨g, 0, none⟩ : Addr).add k = ⟨g, k, none⟩ := by
    unfold Addr.add
    split
    · rename_i h; rw [h]
    · simp
  have hu33 := Try.underlying33
  have hu52 := Try.underlying52
  have hu28 := Try.underlying28
  have e1 : Int.tmod (k : Int) (bs.length : Int) = ((k % bs.length : Nat) : Int) := by rw [Int.tmod_eq_emod_of_nonneg (by omega)]; norm_cast
  have e2 : IntKind.i64.wrap (hi - lo) = hi - lo := IntWalk.i64_in _ (by omega)
  have e3 : IntKind.i64.wrap (hi - lo + 1) = hi - lo + 1 := IntWalk.i64_in _ (by omega)
  have e4 : Int.tmod v (hi - lo + 1) = v % (hi - lo + 1) := Int.tmod_eq_emod_of_nonneg hbv.1
  have e5 : IntKind.i64.wrap (lo + v % (hi - lo + 1)) = lo + v % (hi - lo + 1) := IntWalk.i64_in _ (by omega)
  generalize hmm : k % bs.length = m at *
  have hg0 := (hown.lt g rfl).1
  have S0 : ∀ W', Below V.heap.size V W' → W'.cell? (ab.add m) = some (.int .u8 v) := fun W' h => (Grow.of_below (B := 0) h).cell hcb
  have S1 : ∀ W', Below V.heap.size V W' → W'.cell? ⟨nb, 0, none⟩ = some (.slice (some ad) F.l0.length F.c0) := fun W' h => (Grow.of_below (B := 0) h).cell hb0
  have S2 : ∀ W', Below V.heap.size V W' → W'.cell? (ad.add (k * 2)) = some (.int .i64 lo) := fun W' h => (Grow.of_below (B := 0) h).cell hc0
  have S3 : ∀ W', Below V.heap.size V W' → W'.cell? ⟨(ad.add (k * 2)).block, (ad.add (k * 2)).off + 1, none⟩ = some (.int .i64 hi) := fun W' h => (Grow.of_below (B := 0) h).cell hc1
  have hu22 := Try.underlying22
  have hu24 := Try.underlying24
  have e7 : hi - lo + 1 ≠ 0 := by omega
  have e6 : IntKind.i64.wrap v = v := IntWalk.i64_in _ (by omega)
  refine region_tree (c := (sub (Try.f7.body.getD .skip) [1, 1, 1, 1, 1, 1, 1, 0, 1, 0, 0, 1, 1, 0, 0, 1, 1, 1, 1, 0])) (id := 17) (.one 0 true (.one 1 true (.one 4 true (.one 5 true (.one 6 true (.one 7 true (.one 8 true (.one 9 true (.one 10 true (.one 11 true (.one 12 true (.one 13 true (.one 14 true (.one 15 true (.one 16 true (.one 17 true (.one 18 true (.one 19 true (.one 20 true (.one 21 true (.one 22 true (.one 23 true (.one 24 true (.one 25 true (.one 26 true (.one 2 false (.one 3 false (.one 27 false (.one 28 false (.one 29 false (.nil))))))))))))))))))))))))))))))) (Opq (regOps (sub (Try.f7.body.getD .skip) [1, 1, 1, 1, 1, 1, 1, 0, 1, 0, 0, 1, 1, 0, 0, 1, 1, 1, 1, 0]))) rfl (by kernel_rfl) (by kernel_rfl) (by kernel_rfl) (by kernel_rfl) (by kernel_rfl) (by kernel_rfl) [0, 0, 3, 4, 0, 0, 0, 64, 160, 272, 512, 1024, 0, 4096, 0, 24576, 32768, 65536, 0, 262144, 0, 1572864, 2097152, 4194304, 8519680, 16777216, 33556480, 67108872, 268435455, 536870911] (by kernel_rfl) (by kernel_rfl) (fun W' => Below V.heap.size V W') (fun _ _ _ => False) (fun _ _ _ h => h.elim) (fun _ _ _ _ _ _ _ _ h => h.elim) fun ds Q' hQn hQp => ?_
  have hS : Below V.heap.size V W.drew := hB.drew
  have hKW : Keep W W.drew := (Keep.refl W).drew
  have hown2 := hown.drew
  have cg2 : W.drew.cell? ⟨g, k, none⟩ = some (.int .i64 lo) := cg
  have cf2 : W.drew.frozen? ⟨g, k, none⟩ = false := cf
  clear hcb' cg cf hown hB hcb hb0 hc0 hc1 hby hgk
  generalize W.drew = X at *
  refine tr_take ⟨(Op.move (Operand.tmp 9)), some 122, 33, true, none⟩ (.slice (some ⟨g, 0, none⟩) F.l0.length F.l0.length) (by kernel_rfl) rfl (by first | exact rfl | trivial) (fun wq hq => ?_) hS ?_; (focus (exact rfl)); simp only [Act.put, Array.getInternal_eq_getElem, List.getElem_toArray, List.getElem_cons_succ, List.getElem_cons_zero, List.setIfInBounds_toArray, List.set_cons_succ, List.set_cons_zero]
  refine tr_take ⟨(Op.move (Operand.tmp 10)), some 123, 3, true, none⟩ (.int .i64 k) (by kernel_rfl) rfl (by first | exact rfl | trivial) (fun wq hq => ?_) hS ?_; (focus (exact rfl)); simp only [Act.put, Array.getInternal_eq_getElem, List.getElem_toArray, List.getElem_cons_succ, List.getElem_cons_zero, List.setIfInBounds_toArray, List.set_cons_succ, List.set_cons_zero]
  refine tr_take ⟨(Op.move (Operand.tmp 1)), some 126, 52, true, none⟩ (.slice (some ab) bs.length cb) (by kernel_rfl) rfl (by first | exact rfl | trivial) (fun wq hq => ?_) hS ?_; (focus (exact rfl)); simp only [Act.put, Array.getInternal_eq_getElem, List.getElem_toArray, List.getElem_cons_succ, List.getElem_cons_zero, List.setIfInBounds_toArray, List.set_cons_succ, List.set_cons_zero]
  refine tr_take ⟨(Op.move (Operand.tmp 10)), some 127, 3, true, none⟩ (.int .i64 k) (by kernel_rfl) rfl (by first | exact rfl | trivial) (fun wq hq => ?_) hS ?_; (focus (exact rfl)); simp only [Act.put, Array.getInternal_eq_getElem, List.getElem_toArray, List.getElem_cons_succ, List.getElem_cons_zero, List.setIfInBounds_toArray, List.set_cons_succ, List.set_cons_zero]
  refine tr_take ⟨(Op.move (Operand.tmp 1)), some 128, 52, true, none⟩ (.slice (some ab) bs.length cb) (by kernel_rfl) rfl (by first | exact rfl | trivial) (fun wq hq => ?_) hS ?_; (focus (exact rfl)); simp only [Act.put, Array.getInternal_eq_getElem, List.getElem_toArray, List.getElem_cons_succ, List.getElem_cons_zero, List.setIfInBounds_toArray, List.set_cons_succ, List.set_cons_zero]
  refine tr_take ⟨(Op.call { callee := (Callee.builtin Builtin.len), args := #[(Operand.tmp 128)], argTypes := #[52] }), some 129, 3, true, none⟩ (.int .i64 bs.length) (by kernel_rfl) rfl (by first | exact rfl | trivial) (fun wq hq => ?_) hS ?_; (focus (simp [go_sem, mkO]; done)); simp only [Act.put, Array.getInternal_eq_getElem, List.getElem_toArray, List.getElem_cons_succ, List.getElem_cons_zero, List.setIfInBounds_toArray, List.set_cons_succ, List.set_cons_zero]
  refine tr_take ⟨(Op.binOp BinOp.rem 3 (Operand.tmp 127) (Operand.tmp 129) 3), some 130, 3, true, none⟩ (.int .i64 (m : Int)) (by kernel_rfl) rfl (by first | exact rfl | trivial) (fun wq hq => ?_) hS ?_; (focus (simp [go_sem, mkO, e1, hpos, hne]; done)); simp only [Act.put, Array.getInternal_eq_getElem, List.getElem_toArray, List.getElem_cons_succ, List.getElem_cons_zero, List.setIfInBounds_toArray, List.set_cons_succ, List.set_cons_zero]
  refine tr_take ⟨(Op.indexAddr 52 (Operand.tmp 126) (Operand.tmp 130)), some 131, 0, true, none⟩ (.pointer (some (ab.add m))) (by kernel_rfl) rfl (by first | exact rfl | trivial) (fun wq hq => ?_) hS ?_; (focus (simp [go_sem, mkO, hu52, hm]; done)); simp only [Act.put, Array.getInternal_eq_getElem, List.getElem_toArray, List.getElem_cons_succ, List.getElem_cons_zero, List.setIfInBounds_toArray, List.set_cons_succ, List.set_cons_zero]
  refine tr_take ⟨(Op.load 5 (Operand.tmp 131)), some 132, 5, true, none⟩ (.int .u8 v) (by kernel_rfl) rfl (by first | exact rfl | trivial) (fun wq hq => ?_) hS ?_; (focus (simp [go_sem, mkO, S0 wq hq]; done)); simp only [Act.put, Array.getInternal_eq_getElem, List.getElem_toArray, List.getElem_cons_succ, List.getElem_cons_zero, List.setIfInBounds_toArray, List.set_cons_succ, List.set_cons_zero]
  refine tr_take ⟨(Op.convert 5 3 (Operand.tmp 132)), some 133, 3, true, none⟩ (.int .i64 v) (by kernel_rfl) rfl (by first | exact rfl | trivial) (fun wq hq => ?_) hS ?_; (focus (simp [go_sem, mkO, e6]; done)); simp only [Act.put, Array.getInternal_eq_getElem, List.getElem_toArray, List.getElem_cons_succ, List.getElem_cons_zero, List.setIfInBounds_toArray, List.set_cons_succ, List.set_cons_zero]
  refine tr_take ⟨(Op.fieldAddr 24 (Operand.tmp 2) 0), some 134, 0, true, none⟩ (.pointer (some ⟨nb, 0, none⟩)) (by kernel_rfl) rfl (by first | exact rfl | trivial) (fun wq hq => ?_) hS ?_; (focus (simp [go_sem, mkO]; done)); simp only [Act.put, Array.getInternal_eq_getElem, List.getElem_toArray, List.getElem_cons_succ, List.getElem_cons_zero, List.setIfInBounds_toArray, List.set_cons_succ, List.set_cons_zero]
  refine tr_take ⟨(Op.load 22 (Operand.tmp 134)), some 135, 22, true, none⟩ (.slice (some ad) F.l0.length F.c0) (by kernel_rfl) rfl (by first | exact rfl | trivial) (fun wq hq => ?_) hS ?_; (focus (simp [go_sem, mkO, S1 wq hq]; done)); simp only [Act.put, Array.getInternal_eq_getElem, List.getElem_toArray, List.getElem_cons_succ, List.getElem_cons_zero, List.setIfInBounds_toArray, List.set_cons_succ, List.set_cons_zero]
  refine tr_take ⟨(Op.move (Operand.tmp 10)), some 136, 3, true, none⟩ (.int .i64 k) (by kernel_rfl) rfl (by first | exact rfl | trivial) (fun wq hq => ?_) hS ?_; (focus (exact rfl)); simp only [Act.put, Array.getInternal_eq_getElem, List.getElem_toArray, List.getElem_cons_succ, List.getElem_cons_zero, List.setIfInBounds_toArray, List.set_cons_succ, List.set_cons_zero]
  refine tr_take ⟨(Op.indexAddr 22 (Operand.tmp 135) (Operand.tmp 136)), some 137, 0, true, none⟩ (.pointer (some (ad.add (k * 2)))) (by kernel_rfl) rfl (by first | exact rfl | trivial) (fun wq hq => ?_) hS ?_; (focus (simp [go_sem, mkO, hu22, hk]; done)); simp only [Act.put, Array.getInternal_eq_getElem, List.getElem_toArray, List.getElem_cons_succ, List.getElem_cons_zero, List.setIfInBounds_toArray, List.set_cons_succ, List.set_cons_zero]
  refine tr_take ⟨(Op.fieldAddr 28 (Operand.tmp 137) 1), some 138, 0, true, none⟩ (.pointer (some ⟨(ad.add (k * 2)).block, (ad.add (k * 2)).off + 1, none⟩)) (by kernel_rfl) rfl (by first | exact rfl | trivial) (fun wq hq => ?_) hS ?_; (focus (simp [go_sem, mkO]; done)); simp only [Act.put, Array.getInternal_eq_getElem, List.getElem_toArray, List.getElem_cons_succ, List.getElem_cons_zero, List.setIfInBounds_toArray, List.set_cons_succ, List.set_cons_zero]
  refine tr_take ⟨(Op.load 3 (Operand.tmp 138)), some 139, 3, true, none⟩ (.int .i64 hi) (by kernel_rfl) rfl (by first | exact rfl | trivial) (fun wq hq => ?_) hS ?_; (focus (simp [go_sem, mkO, S3 wq hq]; done)); simp only [Act.put, Array.getInternal_eq_getElem, List.getElem_toArray, List.getElem_cons_succ, List.getElem_cons_zero, List.setIfInBounds_toArray, List.set_cons_succ, List.set_cons_zero]
  refine tr_take ⟨(Op.fieldAddr 24 (Operand.tmp 2) 0), some 140, 0, true, none⟩ (.pointer (some ⟨nb, 0, none⟩)) (by kernel_rfl) rfl (by first | exact rfl | trivial) (fun wq hq => ?_) hS ?_; (focus (simp [go_sem, mkO]; done)); simp only [Act.put, Array.getInternal_eq_getElem, List.getElem_toArray, List.getElem_cons_succ, List.getElem_cons_zero, List.setIfInBounds_toArray, List.set_cons_succ, List.set_cons_zero]
  refine tr_take ⟨(Op.load 22 (Operand.tmp 140)), some 141, 22, true, none⟩ (.slice (some ad) F.l0.length F.c0) (by kernel_rfl) rfl (by first | exact rfl | trivial) (fun wq hq => ?_) hS ?_; (focus (simp [go_sem, mkO, S1 wq hq]; done)); simp only [Act.put, Array.getInternal_eq_getElem, List.getElem_toArray, List.getElem_cons_succ, List.getElem_cons_zero, List.setIfInBounds_toArray, List.set_cons_succ, List.set_cons_zero]
  refine tr_take ⟨(Op.move (Operand.tmp 10)), some 142, 3, true, none⟩ (.int .i64 k) (by kernel_rfl) rfl (by first | exact rfl | trivial) (fun wq hq => ?_) hS ?_; (focus (exact rfl)); simp only [Act.put, Array.getInternal_eq_getElem, List.getElem_toArray, List.getElem_cons_succ, List.getElem_cons_zero, List.setIfInBounds_toArray, List.set_cons_succ, List.set_cons_zero]
  refine tr_take ⟨(Op.indexAddr 22 (Operand.tmp 141) (Operand.tmp 142)), some 143, 0, true, none⟩ (.pointer (some (ad.add (k * 2)))) (by kernel_rfl) rfl (by first | exact rfl | trivial) (fun wq hq => ?_) hS ?_; (focus (simp [go_sem, mkO, hu22, hk]; done)); simp only [Act.put, Array.getInternal_eq_getElem, List.getElem_toArray, List.getElem_cons_succ, List.getElem_cons_zero, List.setIfInBounds_toArray, List.set_cons_succ, List.set_cons_zero]
  refine tr_take ⟨(Op.fieldAddr 28 (Operand.tmp 143) 0), some 144, 0, true, none⟩ (.pointer (some (ad.add (k * 2)))) (by kernel_rfl) rfl (by first | exact rfl | trivial) (fun wq hq => ?_) hS ?_; (focus (simp [go_sem, mkO]; done)); simp only [Act.put, Array.getInternal_eq_getElem, List.getElem_toArray, List.getElem_cons_succ, List.getElem_cons_zero, List.setIfInBounds_toArray, List.set_cons_succ, List.set_cons_zero]
  refine tr_take ⟨(Op.load 3 (Operand.tmp 144)), some 145, 3, true, none⟩ (.int .i64 lo) (by kernel_rfl) rfl (by first | exact rfl | trivial) (fun wq hq => ?_) hS ?_; (focus (simp [go_sem, mkO, S2 wq hq]; done)); simp only [Act.put, Array.getInternal_eq_getElem, List.getElem_toArray, List.getElem_cons_succ, List.getElem_cons_zero, List.setIfInBounds_toArray, List.set_cons_succ, List.set_cons_zero]
  refine tr_take ⟨(Op.binOp BinOp.sub 3 (Operand.tmp 139) (Operand.tmp 145) 3), some 146, 3, true, none⟩ (.int .i64 (hi - lo)) (by kernel_rfl) rfl (by first | exact rfl | trivial) (fun wq hq => ?_) hS ?_; (focus (simp [go_sem, mkO, e2]; done)); simp only [Act.put, Array.getInternal_eq_getElem, List.getElem_toArray, List.getElem_cons_succ, List.getElem_cons_zero, List.setIfInBounds_toArray, List.set_cons_succ, List.set_cons_zero]
  refine tr_take ⟨(Op.binOp BinOp.add 3 (Operand.tmp 146) (Operand.const (Value.int IntKind.i64 1)) 3), some 147, 3, true, none⟩ (.int .i64 (hi - lo + 1)) (by kernel_rfl) rfl (by first | exact rfl | trivial) (fun wq hq => ?_) hS ?_; (focus (simp [go_sem, mkO, e3]; done)); simp only [Act.put, Array.getInternal_eq_getElem, List.getElem_toArray, List.getElem_cons_succ, List.getElem_cons_zero, List.setIfInBounds_toArray, List.set_cons_succ, List.set_cons_zero]
  refine tr_take ⟨(Op.binOp BinOp.rem 3 (Operand.tmp 133) (Operand.tmp 147) 3), some 148, 3, true, none⟩ (.int .i64 (v % (hi - lo + 1))) (by kernel_rfl) rfl (by first | exact rfl | trivial) (fun wq hq => ?_) hS ?_; (focus (simp [go_sem, mkO, e4, e7]; done)); simp only [Act.put, Array.getInternal_eq_getElem, List.getElem_toArray, List.getElem_cons_succ, List.getElem_cons_zero, List.setIfInBounds_toArray, List.set_cons_succ, List.set_cons_zero]
  refine tr_make ⟨(Op.indexAddr 33 (Operand.tmp 122) (Operand.tmp 123)), some 124, 0, false, none⟩ (.pointer (some ⟨g, k, none⟩)) _ (by kernel_rfl) rfl (by first | exact rfl | trivial) ?_ hS ?_; (focus (simp [go_sem, mkO, hu33, hk, hga]; done)); simp only [Act.put, Array.getInternal_eq_getElem, List.getElem_toArray, List.getElem_cons_succ, List.getElem_cons_zero, List.setIfInBounds_toArray, List.set_cons_succ, List.set_cons_zero]
  refine tr_make ⟨(Op.load 3 (Operand.tmp 124)), some 125, 3, false, none⟩ (.int .i64 lo) _ (by kernel_rfl) rfl (by first | exact rfl | trivial) ?_ hS ?_; (focus (simp [go_sem, mkO, cg2]; done)); simp only [Act.put, Array.getInternal_eq_getElem, List.getElem_toArray, List.getElem_cons_succ, List.getElem_cons_zero, List.setIfInBounds_toArray, List.set_cons_succ, List.set_cons_zero]
  refine tr_make ⟨(Op.binOp BinOp.add 3 (Operand.tmp 125) (Operand.tmp 148) 3), some 149, 3, false, none⟩ (.int .i64 (lo + v % (hi - lo + 1))) _ (by kernel_rfl) rfl (by first | exact rfl | trivial) ?_ hS ?_; (focus (simp [go_sem, mkO, e5]; done)); simp only [Act.put, Array.getInternal_eq_getElem, List.getElem_toArray, List.getElem_cons_succ, List.getElem_cons_zero, List.setIfInBounds_toArray, List.set_cons_succ, List.set_cons_zero]
  refine tr_make ⟨(Op.indexAddr 33 (Operand.tmp 122) (Operand.tmp 123)), some 150, 0, false, none⟩ (.pointer (some ⟨g, k, none⟩)) _ (by kernel_rfl) rfl (by first | exact rfl | trivial) ?_ hS ?_; (focus (simp [go_sem, mkO, hu33, hk, hga]; done)); simp only [Act.put, Array.getInternal_eq_getElem, List.getElem_toArray, List.getElem_cons_succ, List.getElem_cons_zero, List.setIfInBounds_toArray, List.set_cons_succ, List.set_cons_zero]
  obtain ⟨hn1, hn2⟩ := hown2.stored k (.int .i64 (lo + v % (hi - lo + 1)))
  refine tr_store ⟨(Op.store 3 (Operand.tmp 150) (Operand.tmp 149)), none, 0, false, none⟩ (X.setCell ⟨g, k, none⟩ (.int .i64 (lo + v % (hi - lo + 1)))) (by kernel_rfl) rfl (by first | exact rfl | trivial) (by simp [go_sem, mkO, cg2, cf2]) (hS.setCell (by exact hg0) _) ?_; simp only [Act.put, Array.getInternal_eq_getElem, List.getElem_toArray, List.getElem_cons_succ, List.getElem_cons_zero, List.setIfInBounds_toArray, List.set_cons_succ, List.set_cons_zero]
  refine hQn _ _ (hKW.setCell _ _) ⟨hS.setCell (by exact hg0) _, ?_, (by simp only [Slots, Fits, and_self])⟩
  have hos := oneL_set F.pl bs F.l0.length k hk
  rw [hox] at hos
  rw [ints_set, List.set_set, hos] at hn1
  exact hn1
end Go.Proofs.Ytafmgmaelnpehaa
end

section
set_option linter.unusedVariables false
set_option linter.unusedSimpArgs false
namespace Go.Proofs.Ytafmgmaelnpehaa
open Go.RowKit Go.TL Go.Shelf Go.Fu
attribute [local go_sem] Oper.semAt_some
open PFurrowAsks Go.Proofs.YtafmgmaelnpehaaW.PrintWords
set_option maxRecDepth 100000 in
set_option maxHeartbeats 2000000 in
theorem ws_fill {F : Fur} {V W : World} {nb : Nat} {Ab : Option Addr} {cb : Nat} {bs : List Int} {A5 : Option Addr} {c5 a7 g : Nat} {so : List Int} (hK : OneK F V nb Ab bs) (hso : RowI V A5 so) (hlen : so.length = F.l0.length) (htr : Truth F.pl (fnOf so)) (hB : Below V.heap.size V W)
    (hown : W.ownsRow V.heap.size 3 1 (.slice (some ⟨g, 0, none⟩) F.l0.length F.l0.length) F.l0.length ((oneL F.pl bs F.l0.length 0).map (Value.int .i64))) (t : Array Value)
    (hSl : Slots [none, some (.slice Ab bs.length cb), some (.pointer (some ⟨nb, 0, none⟩)), none, none, some (.slice A5 F.l0.length c5), none, some (.pointer (some ⟨a7, 0, none⟩)), none, some (.slice (some ⟨g, 0, none⟩) F.l0.length F.l0.length), none, none, none, none, none, none, none, none, none, none, none, none, none, none, none, none, none, none, none, none, none, none, none, none, none, none, none, none, none, none, none, none, none, none, none, none, none, none, none, none, none, none, none, none, none, none, none, none, none, none, none, none, none, none, none, none, none, none, none, none, none, none, none, none, none, none, none, none, none, none, none, none, none, none, none, none, none, none, none, none, none, none, none, none, none, some (.slice A5 F.l0.length c5), some (.int .i64 F.l0.length), some (.int .i64 0), none, none, none, none, none, none, none, none, none, none, none, none, none, none, none, none, none, none, none, none, none, none, none, none, none, none, none, none, none, none, none, none, none, none, none, none, none, none, none, none, none, none, none, none, none, none, none, none, none, none, none, none, none, none, none, none, none, none, none, none, none, none, none, none, none, none, none, none, none, none, none, none, none, none, none, none, none, none, none, none, none, none, none, none, none, none, none, none, none, none, none, none, none, none, none, none, none, none, none, none, none, none, none, none, none, none, none, none, none, none, none, none, none, none, none, none, none, none, none, none, none, none, none, none, none, none, none, none] t) :
    Exec Try.prog none (sub (Try.f7.body.getD .skip) [1, 1, 1, 1, 1, 1, 1, 0, 1]) t W (andThen (OsF F V nb Ab cb bs A5 c5 a7 g) fun _ _ _ => False) := by
  have hu33 := Try.underlying33
  have hu22 := Try.underlying22
  have hpl := F.pl_len
  refine exec_block ?_
  refine exec_loop (OsI F V nb Ab cb bs A5 c5 a7 g) F.l0.length ⟨0, by omega, by omega, hB, hown, hSl⟩ ?_
  clear hSl hown hB
  clear W t
  rintro j t W ⟨k, hk, hj, hB, hown, hSl⟩
  obtain ⟨x, hx⟩ := Slots.open_ hSl; simp only [fill, Nat.reduceAdd] at hx; subst hx; clear hSl
  refine exec_seq (exec_region_o fun ds => ?_)
  gi_wp2
  refine eq_mk (Keep.refl _) ?_
  show Exec _ _ _ _ _ _
  refine exec_seq (exec_cond (b := decide (k < F.l0.length)) rfl (fun hp => ?_) (fun hp => ?_))
  · have hkl : k < F.l0.length := of_decide_eq_true hp
    refine exec_skip ?_
    show Exec _ _ _ _ _ _
    obtain ⟨ad, hA, hc0, hc1⟩ := at_T28 hK.at_.r0 (k : Int) (by omega) (by omega)
    have hrd : rd_T28 F.l0 (k : Int) = F.l0[k]'hkl := by simp [rd_T28, hkl]
    rw [hrd] at hc0 hc1
    simp only [Int.toNat_natCast] at hc0 hc1
    have hpk : F.pl.getD k (0, 0) = toP (F.l0[k]'hkl) := by simp [Fur.pl, List.getD_eq_getElem?_getD, hkl]
    generalize F.l0[k]'hkl = y at *
    obtain ⟨y0, y1⟩ := y
    simp only at hc0 hc1
    have hpk2 : F.pl.getD k (0, 0) = (y0, y1) := hpk
    clear hpk
    obtain ⟨a5, hA5, hs⟩ := Kd.at_int hso (k : Int) (by omega) (by omega)
    rw [Int.toNat_natCast] at hs
    have hrs : rd so (k : Int) = fnOf so k := by unfold rd fnOf; rw [Int.toNat_natCast]
    rw [hrs] at hs
    have hin := htr k (by omega)
    unfold InS at hin
    rw [hpk2] at hin
    obtain ⟨on, hon⟩ : ∃ v, fnOf so k = v := ⟨_, rfl⟩
    rw [hon] at hs hin
    have hkI : (k : Int) < F.l0.length := by omega
    have hle := hK.le
    have hb0 := hK.box.cell0
    simp only [Fur.s0, hA] at hb0
    have G := fun {W' : World} (h : Below V.heap.size V W') {a : Addr} {u : Value} (hc : V.cell? a = some u) => (Grow.of_below (B := 0) h).cell hc
    have d0 := G hB hc0
    have d1 := G hB hc1
    have ds' := G hB hs
    have db := G hB hb0
    have hin2 : (decide (y0 ≤ on) && decide (on ≤ y1)) = true := by simp [hin.1, hin.2]
    refine exec_cut (OsM F V nb Ab cb bs A5 c5 a7 g k) ?_ ?_
    · clear hon hrs hso htr
      subst hA5
      refine exec_block (exec_seq (exec_region_o fun ds => ?_))
      gi_wp2
      refine eq_mk (Keep.refl _) ?_
      show Exec _ _ _ _ _ _
      refine exec_seq (exec_seq (exec_region_o fun ds => ?_))
      gi_wp2_with fail
      refine ⟨trivial, rfl, (callsIn_wide.2 (inside_c on y0 y1 W)).mono ?_⟩
      rintro e X ⟨rfl, hx⟩
      rw [hin2]
      have hKx := Keep.of_below hx
      replace hB := hB.trans (hx.mono hB.size)
      replace hown := own_grow hown (Grow.of_below (B := V.heap.size) hx)
      clear hx d0 d1 ds' db hin2 hin
      gi_wp2
      refine eq_mk hKx ?_
      show Exec _ _ _ _ _ _
      clear hKx
      clear W
      refine exec_cond (b := false) rfl (fun h => by cases h) (fun _ => exec_skip ?_)
      show Exec _ _ _ _ _ _
      have d0 := G hB hc0
      have db := G hB hb0
      have cg := hown.cellAt k (by omega)
      have cf := hown.frozenAt k
      have hgk : (((oneL F.pl bs F.l0.length k).map (Value.int .i64))[k]?) = some (.int .i64 0) := by simp [oneL, hkl]
      rw [hgk] at cg
      have hlt := hown.lt g rfl
      obtain ⟨hn1, hn2⟩ := hown.stored k (.int .i64 y0)
      refine exec_seq (exec_region_o fun ds => ?_)
      gi_wp2
      refine eq_mk ((Keep.refl _).setCell _ _) ?_
      show Exec _ _ _ _ _ _
      have hB2 := hB.setCell (p := ⟨g, k, none⟩) hlt.1 (.int .i64 y0)
      rw [ints_set] at hn1
      clear hB cg cf hn2 hown hgk d0 db hlt
      generalize X.setCell ⟨g, k, none⟩ (.int .i64 y0) = W2 at *
      clear X
      refine exec_seq (exec_region_o fun ds => ?_)
      gi_wp2
      refine eq_mk (Keep.refl _) ?_
      show Exec _ _ _ _ _ _
      refine exec_cond (b := decide (0 < bs.length)) (by first | rfl | (show Value.bool _ = _; simp)) (fun hq => ?_) (fun hq => ?_)
      · refine (ws_add (cb := cb) (A5 := some a5) (c5 := c5) (a7 := a7) hK hkl hpk2 hB2 (of_decide_eq_true hq) hn1 hb0 hc0 hc1 _ (by simp only [Slots, Fits, and_self])).mono ?_
        intro e t' W' hQ
        cases e with
        | normal => exact hQ
        | _ => exact hQ.elim
      · refine exec_skip ?_
        have hb0 : bs.length = 0 := by have := of_decide_eq_false hq; omega
        show OsM F V nb Ab cb bs (some a5) c5 a7 g k _ _
        refine ⟨hB2, ?_, (by simp only [Slots, Fits, and_self])⟩
        have hos := oneL_set F.pl bs F.l0.length k hkl
        rw [show oneX F.pl bs k = y0 by rw [oneX_is hpk2, if_pos hb0]; omega] at hos
        rw [hos] at hn1
        exact hn1
    · clear hB hown d0 d1 ds' db
      intro t' W' ⟨hB, hown, hSl⟩
      obtain ⟨x, hx⟩ := Slots.open_ hSl; simp only [fill, Nat.reduceAdd] at hx; subst hx; clear hSl
      refine exec_region_o fun ds => ?_
      gi_wp2
      refine eq_mk (Keep.refl _) ⟨j - 1, by omega, k + 1, by omega, by omega, hB, hown, by simp only [Slots, Fits, and_self]; simp⟩
  · have hkl : k = F.l0.length := by have := of_decide_eq_false hp; omega
    subst hkl
    refine exec_exit ?_
    show OsF F V nb Ab cb bs A5 c5 a7 g _ _
    exact ⟨hB, hown, (by simp only [Slots, Fits, and_self])⟩
end Go.Proofs.Ytafmgmaelnpehaa
end

section
set_option linter.unusedVariables false
set_option linter.unusedSimpArgs false
namespace Go.Proofs.Ytafmgmaelnpehaa
open Go.RowKit Go.TL Go.Shelf Go.Fu
attribute [local go_sem] Oper.semAt_some
open PFurrowAsks Go.Proofs.YtafmgmaelnpehaaW.PrintWords
def CmQ (w : World) (e : Exit) (t : Array Value) (W : World) : Prop := Below w.heap.size w W ∧ ((e = .normal ∧ Slots [none, none, none, none, none, none, none, none, none, none, none, none, none, none, none, none, none, none, none, none, none, none, none, none, none, none, none, none, none, none, none, none, none, none, none, none, none, none, none, none, none, none, none, none, none, none, none, none, none, none, none, none, none, none, none, none, none, none, none, none, none, none, none, none, none, none, none, none, none, none, none, none, none, none, none, none, none, none, none, none, none, none, none, none, none, none, none, none, none, none, none, none, none, none, none, none, none, none, none, none, none, none, none, none, none, none, none, none, none, none, none, none, none, none, none, none, none, none, none, none, none, none, none, none, none, none, none, none, none, none, none, none, none, none, none, none, none, none, none, none, none, none, none, none, none, none, none, none, none, none, none, none, none, none, none, none, none, none, none, none, none, none, none, none, none, none, none, none, none, none, none, none, none, none, none, none, none, none, none, none, none, none, none, none, none, none, none, none, none, none, none, none, none, none, none, none, none, none, none, none, none, none, none, none, none, none, none, none, none, none, none, none, none, none, none, none, none, none, none, none, none, none, none, none, none, none] t) ∨ (e = .ret ∧ Slots [none, none, none, none, some (.bool true), none, none, none, none, none, none, none, none, none, none, none, none, none, none, none, none, none, none, none, none, none, none, none, none, none, none, none, none, none, none, none, none, none, none, none, none, none, none, none, none, none, none, none, none, none, none, none, none, none, none, none, none, none, none, none, none, none, none, none, none, none, none, none, none, none, none, none, none, none, none, none, none, none, none, none, none, none, none, none, none, none, none, none, none, none, none, none, none, none, none, none, none, none, none, none, none, none, none, none, none, none, none, none, none, none, none, none, none, none, none, none, none, none, none, none, none, none, none, none, none, none, none, none, none, none, none, none, none, none, none, none, none, none, none, none, none, none, none, none, none, none, none, none, none, none, none, none, none, none, none, none, none, none, none, none, none, none, none, none, none, none, none, none, none, none, none, none, none, none, none, none, none, none, none, none, none, none, none, none, none, none, none, none, none, none, none, none, none, none, none, none, none, none, none, none, none, none, none, none, none, none, none, none, none, none, none, none, none, none, none, none, none, none, none, none, none, none, none, none, none, none] t))
def CmI (F : Fur) (V : World) (A5 A9 : Option Addr) (c5 c9 : Nat) (so ol : List Int) (j : Nat) (t : Array Value) (W : World) : Prop :=
  ∃ k : Nat, k ≤ F.l0.length ∧ j = F.l0.length - k ∧ Below V.heap.size V W ∧ (∀ j, j < k → fnOf ol j = fnOf so j) ∧ Slots [none, none, none, none, none, some (.slice A5 F.l0.length c5), none, none, none, some (.slice A9 F.l0.length c9), none, none, none, none, none, none, none, none, none, none, none, none, none, none, none, none, none, none, none, none, none, none, none, none, none, none, none, none, none, none, none, none, none, none, none, none, none, none, none, none, none, none, none, none, none, none, none, none, none, none, none, none, none, none, none, none, none, none, none, none, none, none, none, none, none, none, none, none, none, none, none, none, none, none, none, none, none, none, none, none, none, none, none, none, none, none, none, none, none, none, none, none, none, none, none, none, none, none, none, none, none, none, none, none, none, none, none, none, none, none, none, none, none, none, none, none, none, none, none, none, none, none, none, none, none, none, none, none, none, none, none, none, none, none, none, none, none, none, none, none, none, none, none, none, none, none, none, none, none, none, none, none, none, none, none, none, none, none, none, none, none, none, none, none, none, none, none, none, none, none, none, none, none, none, none, none, none, none, none, none, none, none, none, none, none, none, none, none, some (.slice A5 F.l0.length c5), some (.int .i64 F.l0.length), some (.int .i64 k), none, none, none, none, none, none, none, none, none, none, none, none, none, none, none, none, none, none, none, none, none, none, none, none, none] t
def CmM (F : Fur) (V : World) (A5 A9 : Option Addr) (c5 c9 : Nat) (so ol : List Int) (k : Nat) (t : Array Value) (W : World) : Prop :=
  Below V.heap.size V W ∧ (∀ j, j < k + 1 → fnOf ol j = fnOf so j) ∧ Slots [none, none, none, none, none, some (.slice A5 F.l0.length c5), none, none, none, some (.slice A9 F.l0.length c9), none, none, none, none, none, none, none, none, none, none, none, none, none, none, none, none, none, none, none, none, none, none, none, none, none, none, none, none, none, none, none, none, none, none, none, none, none, none, none, none, none, none, none, none, none, none, none, none, none, none, none, none, none, none, none, none, none, none, none, none, none, none, none, none, none, none, none, none, none, none, none, none, none, none, none, none, none, none, none, none, none, none, none, none, none, none, none, none, none, none, none, none, none, none, none, none, none, none, none, none, none, none, none, none, none, none, none, none, none, none, none, none, none, none, none, none, none, none, none, none, none, none, none, none, none, none, none, none, none, none, none, none, none, none, none, none, none, none, none, none, none, none, none, none, none, none, none, none, none, none, none, none, none, none, none, none, none, none, none, none, none, none, none, none, none, none, none, none, none, none, none, none, none, none, none, none, none, none, none, none, none, none, none, none, none, none, none, none, some (.slice A5 F.l0.length c5), some (.int .i64 F.l0.length), some (.int .i64 k), none, none, none, none, none, none, none, none, none, none, none, none, none, none, none, none, none, none, none, none, none, none, none, none, none] t
set_option maxRecDepth 100000 in
set_option maxHeartbeats 2000000 in
theorem ss_cmp {F : Fur} {w V : World} {A5 A9 : Option Addr} {c5 c9 : Nat} {so ol : List Int} (hBV : Below w.heap.size w V) (h8 : F.l0.length ≤ 8) (hso : RowI V A5 so) (hol : RowI V A9 ol) (hls : so.length = F.l0.length) (hlo : ol.length = F.l0.length)
    (hfirst : ∀ i, i < F.l0.length → (∀ j, j < i → fnOf ol j = fnOf so j) → fnOf ol i ≠ fnOf so i → fnOf so i < fnOf ol i) (t : Array Value) (hSl : Slots [none, none, none, none, none, some (.slice A5 F.l0.length c5), none, none, none, some (.slice A9 F.l0.length c9), none, none, none, none, none, none, none, none, none, none, none, none, none, none, none, none, none, none, none, none, none, none, none, none, none, none, none, none, none, none, none, none, none, none, none, none, none, none, none, none, none, none, none, none, none, none, none, none, none, none, none, none, none, none, none, none, none, none, none, none, none, none, none, none, none, none, none, none, none, none, none, none, none, none, none, none, none, none, none, none, none, none, none, none, none, none, none, none, none, none, none, none, none, none, none, none, none, none, none, none, none, none, none, none, none, none, none, none, none, none, none, none, none, none, none, none, none, none, none, none, none, none, none, none, none, none, none, none, none, none, none, none, none, none, none, none, none, none, none, none, none, none, none, none, none, none, none, none, none, none, none, none, none, none, none, none, none, none, none, none, none, none, none, none, none, none, none, none, none, none, none, none, none, none, none, none, none, none, none, none, none, none, none, none, none, none, none, none, some (.slice A5 F.l0.length c5), some (.int .i64 F.l0.length), some (.int .i64 0), none, none, none, none, none, none, none, none, none, none, none, none, none, none, none, none, none, none, none, none, none, none, none, none, none] t) :
    Exec Try.prog none (sub (Try.f7.body.getD .skip) [1, 1, 1, 1, 1, 1, 1, 1, 1, 1, 1, 1, 1, 1, 0, 1]) t V (CmQ w) := by
  have hu33 := Try.underlying33
  refine exec_block ?_
  refine exec_loop (CmI F V A5 A9 c5 c9 so ol) F.l0.length ⟨0, by omega, by omega, Below.refl _ _, fun j hj => by omega, hSl⟩ ?_
  clear hSl t
  rintro j t W ⟨k, hk', hj, hB, hI, hSl⟩
  obtain ⟨x, hx⟩ := Slots.open_ hSl; simp only [fill, Nat.reduceAdd] at hx; subst hx; clear hSl
  refine exec_seq (exec_region_o fun ds => ?_)
  gi_wp2
  refine eq_mk (Keep.refl _) ?_
  show Exec _ _ _ _ _ _
  refine exec_seq (exec_cond (b := decide (k < F.l0.length)) rfl (fun hp => ?_) (fun hp => ?_))
  · have hk : k < F.l0.length := of_decide_eq_true hp
    refine exec_skip ?_
    show Exec _ _ _ _ _ _
    obtain ⟨a5, h5, k5⟩ := Kd.at_int hso (k : Int) (by omega) (by omega)
    obtain ⟨a9, h9, k9⟩ := Kd.at_int hol (k : Int) (by omega) (by omega)
    rw [Int.toNat_natCast] at k5 k9
    obtain ⟨p, hp⟩ : ∃ p, fnOf so k = p := ⟨_, rfl⟩
    obtain ⟨q, hq9⟩ : ∃ p, fnOf ol k = p := ⟨_, rfl⟩
    have hr5 : rd so (k : Int) = p := by rw [← hp]; unfold rd fnOf; rw [Int.toNat_natCast]
    have hr9 : rd ol (k : Int) = q := by rw [← hq9]; unfold rd fnOf; rw [Int.toNat_natCast]
    rw [hr5] at k5
    rw [hr9] at k9
    have hf := hfirst k hk hI
    rw [hp, hq9] at hf
    have S5 : ∀ W', Below V.heap.size V W' → W'.cell? (a5.add k) = some (.int .i64 p) := fun W' h => (Grow.of_below (B := 0) h).cell k5
    have S9 : ∀ W', Below V.heap.size V W' → W'.cell? (a9.add k) = some (.int .i64 q) := fun W' h => (Grow.of_below (B := 0) h).cell k9
    clear k5 k9 hr5 hr9
    subst h5 h9
    refine exec_cut (CmM F V (some a5) (some a9) c5 c9 so ol k) ?_ ?_
    · refine exec_block (exec_seq (exec_region_o fun ds => ?_))
      gi_wp2
      refine eq_mk (Keep.refl _) ?_
      show Exec _ _ _ _ _ _
      have hKW : Keep W W.drew := (Keep.refl W).drew
      have hS : Below V.heap.size V W.drew := hB.drew
      by_cases e : p = q
      · refine exec_seq (region_tree (c := (sub (Try.f7.body.getD .skip) [1, 1, 1, 1, 1, 1, 1, 1, 1, 1, 1, 1, 1, 1, 0, 1, 0, 0, 1, 1, 0, 0, 1, 0])) (id := 34) (.one 0 true (.one 1 true (.one 2 true (.one 3 true (.one 4 true (.one 5 false (.one 6 false (.one 7 false (.one 8 false (.nil)))))))))) (Opq (regOps (sub (Try.f7.body.getD .skip) [1, 1, 1, 1, 1, 1, 1, 1, 1, 1, 1, 1, 1, 1, 0, 1, 0, 0, 1, 1, 0, 0, 1, 0]))) rfl (by kernel_rfl) (by kernel_rfl) (by kernel_rfl) (by kernel_rfl) (by kernel_rfl) (by kernel_rfl) [0, 0, 3, 4, 0, 0, 48, 64, 136] (by kernel_rfl) (by kernel_rfl) (fun W' => Below V.heap.size V W') (fun _ _ _ => False) (fun _ _ _ h => h.elim) (fun _ _ _ _ _ _ _ _ h => h.elim) fun ds Q' hQn hQp => ?_)
        generalize W.drew = X at *
        refine tr_take ⟨(Op.move (Operand.tmp 5)), some 203, 33, true, none⟩ (.slice (some a5) F.l0.length c5) (by kernel_rfl) rfl (by first | exact rfl | trivial) (fun wq hq => ?_) hS ?_; (focus (exact rfl)); simp only [Act.put, Array.getInternal_eq_getElem, List.getElem_toArray, List.getElem_cons_succ, List.getElem_cons_zero, List.setIfInBounds_toArray, List.set_cons_succ, List.set_cons_zero]
        refine tr_take ⟨(Op.move (Operand.tmp 17)), some 204, 3, true, none⟩ (.int .i64 k) (by kernel_rfl) rfl (by first | exact rfl | trivial) (fun wq hq => ?_) hS ?_; (focus (exact rfl)); simp only [Act.put, Array.getInternal_eq_getElem, List.getElem_toArray, List.getElem_cons_succ, List.getElem_cons_zero, List.setIfInBounds_toArray, List.set_cons_succ, List.set_cons_zero]
        refine tr_take ⟨(Op.indexAddr 33 (Operand.tmp 203) (Operand.tmp 204)), some 205, 0, true, none⟩ (.pointer (some (a5.add k))) (by kernel_rfl) rfl (by first | exact rfl | trivial) (fun wq hq => ?_) hS ?_; (focus (simp [go_sem, mkO, hu33, hk]; done)); simp only [Act.put, Array.getInternal_eq_getElem, List.getElem_toArray, List.getElem_cons_succ, List.getElem_cons_zero, List.setIfInBounds_toArray, List.set_cons_succ, List.set_cons_zero]
        refine tr_take ⟨(Op.load 3 (Operand.tmp 205)), some 206, 3, true, none⟩ (.int .i64 p) (by kernel_rfl) rfl (by first | exact rfl | trivial) (fun wq hq => ?_) hS ?_; (focus (simp [go_sem, mkO, S5 wq hq]; done)); simp only [Act.put, Array.getInternal_eq_getElem, List.getElem_toArray, List.getElem_cons_succ, List.getElem_cons_zero, List.setIfInBounds_toArray, List.set_cons_succ, List.set_cons_zero]
        refine tr_take ⟨(Op.move (Operand.tmp 9)), some 207, 33, true, none⟩ (.slice (some a9) F.l0.length c9) (by kernel_rfl) rfl (by first | exact rfl | trivial) (fun wq hq => ?_) hS ?_; (focus (exact rfl)); simp only [Act.put, Array.getInternal_eq_getElem, List.getElem_toArray, List.getElem_cons_succ, List.getElem_cons_zero, List.setIfInBounds_toArray, List.set_cons_succ, List.set_cons_zero]
        refine tr_make ⟨(Op.move (Operand.tmp 17)), some 208, 3, false, none⟩ (.int .i64 k) _ (by kernel_rfl) rfl (by first | exact rfl | trivial) ?_ hS ?_; (focus (exact rfl)); simp only [Act.put, Array.getInternal_eq_getElem, List.getElem_toArray, List.getElem_cons_succ, List.getElem_cons_zero, List.setIfInBounds_toArray, List.set_cons_succ, List.set_cons_zero]
        refine tr_make ⟨(Op.indexAddr 33 (Operand.tmp 207) (Operand.tmp 208)), some 209, 0, false, none⟩ (.pointer (some (a9.add k))) _ (by kernel_rfl) rfl (by first | exact rfl | trivial) ?_ hS ?_; (focus (simp [go_sem, mkO, hu33, hk]; done)); simp only [Act.put, Array.getInternal_eq_getElem, List.getElem_toArray, List.getElem_cons_succ, List.getElem_cons_zero, List.setIfInBounds_toArray, List.set_cons_succ, List.set_cons_zero]
        refine tr_make ⟨(Op.load 3 (Operand.tmp 209)), some 210, 3, false, none⟩ (.int .i64 q) _ (by kernel_rfl) rfl (by first | exact rfl | trivial) ?_ hS ?_; (focus (simp [go_sem, mkO, S9 _ hS]; done)); simp only [Act.put, Array.getInternal_eq_getElem, List.getElem_toArray, List.getElem_cons_succ, List.getElem_cons_zero, List.setIfInBounds_toArray, List.set_cons_succ, List.set_cons_zero]
        refine tr_make ⟨(Op.binOp BinOp.neq 3 (Operand.tmp 206) (Operand.tmp 210) 3), some 211, 4, false, none⟩ (.bool false) _ (by kernel_rfl) rfl (by first | exact rfl | trivial) ?_ hS ?_; (focus (simp [go_sem, mkO, e]; done)); simp only [Act.put, Array.getInternal_eq_getElem, List.getElem_toArray, List.getElem_cons_succ, List.getElem_cons_zero, List.setIfInBounds_toArray, List.set_cons_succ, List.set_cons_zero]
        refine hQn _ _ hKW ?_
        show Exec _ _ _ _ _ _
        refine exec_cond (b := false) rfl (fun h => by cases h) (fun _ => exec_skip ?_)
        show CmM F V (some a5) (some a9) c5 c9 so ol k _ _
        refine ⟨hS, ?_, (by simp only [Slots, Fits, and_self])⟩
        intro j hj
        by_cases ej : j = k
        · subst ej; rw [hp, hq9]; exact e.symm
        · exact hI j (by omega)
      · have hlt := hf (fun h => e h.symm)
        refine exec_seq (region_tree (c := (sub (Try.f7.body.getD .skip) [1, 1, 1, 1, 1, 1, 1, 1, 1, 1, 1, 1, 1, 1, 0, 1, 0, 0, 1, 1, 0, 0, 1, 0])) (id := 34) (.one 0 true (.one 1 true (.one 2 true (.one 3 true (.one 4 true (.one 5 false (.one 6 false (.one 7 false (.one 8 false (.nil)))))))))) (Opq (regOps (sub (Try.f7.body.getD .skip) [1, 1, 1, 1, 1, 1, 1, 1, 1, 1, 1, 1, 1, 1, 0, 1, 0, 0, 1, 1, 0, 0, 1, 0]))) rfl (by kernel_rfl) (by kernel_rfl) (by kernel_rfl) (by kernel_rfl) (by kernel_rfl) (by kernel_rfl) [0, 0, 3, 4, 0, 0, 48, 64, 136] (by kernel_rfl) (by kernel_rfl) (fun W' => Below V.heap.size V W') (fun _ _ _ => False) (fun _ _ _ h => h.elim) (fun _ _ _ _ _ _ _ _ h => h.elim) fun ds Q' hQn hQp => ?_)
        generalize W.drew = X at *
        refine tr_take ⟨(Op.move (Operand.tmp 5)), some 203, 33, true, none⟩ (.slice (some a5) F.l0.length c5) (by kernel_rfl) rfl (by first | exact rfl | trivial) (fun wq hq => ?_) hS ?_; (focus (exact rfl)); simp only [Act.put, Array.getInternal_eq_getElem, List.getElem_toArray, List.getElem_cons_succ, List.getElem_cons_zero, List.setIfInBounds_toArray, List.set_cons_succ, List.set_cons_zero]
        refine tr_take ⟨(Op.move (Operand.tmp 17)), some 204, 3, true, none⟩ (.int .i64 k) (by kernel_rfl) rfl (by first | exact rfl | trivial) (fun wq hq => ?_) hS ?_; (focus (exact rfl)); simp only [Act.put, Array.getInternal_eq_getElem, List.getElem_toArray, List.getElem_cons_succ, List.getElem_cons_zero, List.setIfInBounds_toArray, List.set_cons_succ, List.set_cons_zero]
        refine tr_take ⟨(Op.indexAddr 33 (Operand.tmp 203) (Operand.tmp 204)), some 205, 0, true, none⟩ (.pointer (some (a5.add k))) (by kernel_rfl) rfl (by first | exact rfl | trivial) (fun wq hq => ?_) hS ?_; (focus (simp [go_sem, mkO, hu33, hk]; done)); simp only [Act.put, Array.getInternal_eq_getElem, List.getElem_toArray, List.getElem_cons_succ, List.getElem_cons_zero, List.setIfInBounds_toArray, List.set_cons_succ, List.set_cons_zero]
        refine tr_take ⟨(Op.load 3 (Operand.tmp 205)), some 206, 3, true, none⟩ (.int .i64 p) (by kernel_rfl) rfl (by first | exact rfl | trivial) (fun wq hq => ?_) hS ?_; (focus (simp [go_sem, mkO, S5 wq hq]; done)); simp only [Act.put, Array.getInternal_eq_getElem, List.getElem_toArray, List.getElem_cons_succ, List.getElem_cons_zero, List.setIfInBounds_toArray, List.set_cons_succ, List.set_cons_zero]
        refine tr_take ⟨(Op.move (Operand.tmp 9)), some 207, 33, true, none⟩ (.slice (some a9) F.l0.length c9) (by kernel_rfl) rfl (by first | exact rfl | trivial) (fun wq hq => ?_) hS ?_; (focus (exact rfl)); simp only [Act.put, Array.getInternal_eq_getElem, List.getElem_toArray, List.getElem_cons_succ, List.getElem_cons_zero, List.setIfInBounds_toArray, List.set_cons_succ, List.set_cons_zero]
        refine tr_make ⟨(Op.move (Operand.tmp 17)), some 208, 3, false, none⟩ (.int .i64 k) _ (by kernel_rfl) rfl (by first | exact rfl | trivial) ?_ hS ?_; (focus (exact rfl)); simp only [Act.put, Array.getInternal_eq_getElem, List.getElem_toArray, List.getElem_cons_succ, List.getElem_cons_zero, List.setIfInBounds_toArray, List.set_cons_succ, List.set_cons_zero]
        refine tr_make ⟨(Op.indexAddr 33 (Operand.tmp 207) (Operand.tmp 208)), some 209, 0, false, none⟩ (.pointer (some (a9.add k))) _ (by kernel_rfl) rfl (by first | exact rfl | trivial) ?_ hS ?_; (focus (simp [go_sem, mkO, hu33, hk]; done)); simp only [Act.put, Array.getInternal_eq_getElem, List.getElem_toArray, List.getElem_cons_succ, List.getElem_cons_zero, List.setIfInBounds_toArray, List.set_cons_succ, List.set_cons_zero]
        refine tr_make ⟨(Op.load 3 (Operand.tmp 209)), some 210, 3, false, none⟩ (.int .i64 q) _ (by kernel_rfl) rfl (by first | exact rfl | trivial) ?_ hS ?_; (focus (simp [go_sem, mkO, S9 _ hS]; done)); simp only [Act.put, Array.getInternal_eq_getElem, List.getElem_toArray, List.getElem_cons_succ, List.getElem_cons_zero, List.setIfInBounds_toArray, List.set_cons_succ, List.set_cons_zero]
        refine tr_make ⟨(Op.binOp BinOp.neq 3 (Operand.tmp 206) (Operand.tmp 210) 3), some 211, 4, false, none⟩ (.bool true) _ (by kernel_rfl) rfl (by first | exact rfl | trivial) ?_ hS ?_; (focus (simp [go_sem, mkO, e]; done)); simp only [Act.put, Array.getInternal_eq_getElem, List.getElem_toArray, List.getElem_cons_succ, List.getElem_cons_zero, List.setIfInBounds_toArray, List.set_cons_succ, List.set_cons_zero]
        refine hQn _ _ hKW ?_
        show Exec _ _ _ _ _ _
        clear hQn hQp hKW
        refine exec_cond (b := true) rfl (fun _ => ?_) (fun h => by cases h)
        refine exec_seq (region_tree (c := (sub (Try.f7.body.getD .skip) [1, 1, 1, 1, 1, 1, 1, 1, 1, 1, 1, 1, 1, 1, 0, 1, 0, 0, 1, 1, 0, 0, 1, 1, 0, 0])) (id := 35) (.one 0 true (.one 1 true (.one 2 true (.one 3 true (.one 4 true (.one 5 false (.one 6 false (.one 7 false (.one 8 false (.one 9 false (.one 10 false (.one 11 false (.one 12 false (.nil)))))))))))))) (Opq (regOps (sub (Try.f7.body.getD .skip) [1, 1, 1, 1, 1, 1, 1, 1, 1, 1, 1, 1, 1, 1, 0, 1, 0, 0, 1, 1, 0, 0, 1, 1, 0, 0]))) rfl (by kernel_rfl) (by kernel_rfl) (by kernel_rfl) (by kernel_rfl) (by kernel_rfl) (by kernel_rfl) [0, 0, 3, 4, 0, 0, 48, 64, 136, 256, 512, 1536, 4095] (by kernel_rfl) (by kernel_rfl) (fun W' => Below V.heap.size V W') (fun _ _ _ => False) (fun _ _ _ h => h.elim) (fun _ _ _ _ _ _ _ _ h => h.elim) fun ds Q' hQn hQp => ?_)
        have hKW2 : Keep X X.drew := (Keep.refl X).drew
        replace hS : Below V.heap.size V X.drew := hS.drew
        generalize X.drew = Y at *
        refine tr_take ⟨(Op.move (Operand.tmp 5)), some 212, 33, true, none⟩ (.slice (some a5) F.l0.length c5) (by kernel_rfl) rfl (by first | exact rfl | trivial) (fun wq hq => ?_) hS ?_; (focus (exact rfl)); simp only [Act.put, Array.getInternal_eq_getElem, List.getElem_toArray, List.getElem_cons_succ, List.getElem_cons_zero, List.setIfInBounds_toArray, List.set_cons_succ, List.set_cons_zero]
        refine tr_take ⟨(Op.move (Operand.tmp 17)), some 213, 3, true, none⟩ (.int .i64 k) (by kernel_rfl) rfl (by first | exact rfl | trivial) (fun wq hq => ?_) hS ?_; (focus (exact rfl)); simp only [Act.put, Array.getInternal_eq_getElem, List.getElem_toArray, List.getElem_cons_succ, List.getElem_cons_zero, List.setIfInBounds_toArray, List.set_cons_succ, List.set_cons_zero]
        refine tr_take ⟨(Op.indexAddr 33 (Operand.tmp 212) (Operand.tmp 213)), some 214, 0, true, none⟩ (.pointer (some (a5.add k))) (by kernel_rfl) rfl (by first | exact rfl | trivial) (fun wq hq => ?_) hS ?_; (focus (simp [go_sem, mkO, hu33, hk]; done)); simp only [Act.put, Array.getInternal_eq_getElem, List.getElem_toArray, List.getElem_cons_succ, List.getElem_cons_zero, List.setIfInBounds_toArray, List.set_cons_succ, List.set_cons_zero]
        refine tr_take ⟨(Op.load 3 (Operand.tmp 214)), some 215, 3, true, none⟩ (.int .i64 p) (by kernel_rfl) rfl (by first | exact rfl | trivial) (fun wq hq => ?_) hS ?_; (focus (simp [go_sem, mkO, S5 wq hq]; done)); simp only [Act.put, Array.getInternal_eq_getElem, List.getElem_toArray, List.getElem_cons_succ, List.getElem_cons_zero, List.setIfInBounds_toArray, List.set_cons_succ, List.set_cons_zero]
        refine tr_take ⟨(Op.move (Operand.tmp 9)), some 216, 33, true, none⟩ (.slice (some a9) F.l0.length c9) (by kernel_rfl) rfl (by first | exact rfl | trivial) (fun wq hq => ?_) hS ?_; (focus (exact rfl)); simp only [Act.put, Array.getInternal_eq_getElem, List.getElem_toArray, List.getElem_cons_succ, List.getElem_cons_zero, List.setIfInBounds_toArray, List.set_cons_succ, List.set_cons_zero]
        refine tr_make ⟨(Op.move (Operand.tmp 17)), some 217, 3, false, none⟩ (.int .i64 k) _ (by kernel_rfl) rfl (by first | exact rfl | trivial) ?_ hS ?_; (focus (exact rfl)); simp only [Act.put, Array.getInternal_eq_getElem, List.getElem_toArray, List.getElem_cons_succ, List.getElem_cons_zero, List.setIfInBounds_toArray, List.set_cons_succ, List.set_cons_zero]
        refine tr_make ⟨(Op.indexAddr 33 (Operand.tmp 216) (Operand.tmp 217)), some 218, 0, false, none⟩ (.pointer (some (a9.add k))) _ (by kernel_rfl) rfl (by first | exact rfl | trivial) ?_ hS ?_; (focus (simp [go_sem, mkO, hu33, hk]; done)); simp only [Act.put, Array.getInternal_eq_getElem, List.getElem_toArray, List.getElem_cons_succ, List.getElem_cons_zero, List.setIfInBounds_toArray, List.set_cons_succ, List.set_cons_zero]
        refine tr_make ⟨(Op.load 3 (Operand.tmp 218)), some 219, 3, false, none⟩ (.int .i64 q) _ (by kernel_rfl) rfl (by first | exact rfl | trivial) ?_ hS ?_; (focus (simp [go_sem, mkO, S9 _ hS]; done)); simp only [Act.put, Array.getInternal_eq_getElem, List.getElem_toArray, List.getElem_cons_succ, List.getElem_cons_zero, List.setIfInBounds_toArray, List.set_cons_succ, List.set_cons_zero]
        refine tr_make ⟨(Op.binOp BinOp.lss 3 (Operand.tmp 215) (Operand.tmp 219) 3), some 220, 4, false, none⟩ (.bool true) _ (by kernel_rfl) rfl (by first | exact rfl | trivial) ?_ hS ?_; (focus (simp [go_sem, mkO, hlt]; done)); simp only [Act.put, Array.getInternal_eq_getElem, List.getElem_toArray, List.getElem_cons_succ, List.getElem_cons_zero, List.setIfInBounds_toArray, List.set_cons_succ, List.set_cons_zero]
        refine tr_make ⟨(Op.move (Operand.tmp 220)), some 221, 4, false, none⟩ (.bool true) _ (by kernel_rfl) rfl (by first | exact rfl | trivial) ?_ hS ?_; (focus (exact rfl)); simp only [Act.put, Array.getInternal_eq_getElem, List.getElem_toArray, List.getElem_cons_succ, List.getElem_cons_zero, List.setIfInBounds_toArray, List.set_cons_succ, List.set_cons_zero]
        refine tr_call ⟨(Op.call { callee := (Callee.value (Operand.func 14)), args := #[], argTypes := #[] }), some 222, 4, false, some (221, true)⟩ (f := 14) (args := #[]) (by kernel_rfl) rfl (by first | exact rfl | trivial) (by simp [go_sem, mkO]) ?_
        refine (alive_any _).mono ?_
        rintro e2 Z ⟨rfl, hz⟩
        replace hKW2 := hKW2.trans (Keep.of_below hz)
        replace hS := hS.trans (hz.mono hS.size)
        refine .inl ⟨_, rfl, hS, ?_⟩
        simp only [Act.put, Array.getInternal_eq_getElem, List.getElem_toArray, List.getElem_cons_succ, List.getElem_cons_zero, List.setIfInBounds_toArray, List.set_cons_succ, List.set_cons_zero]
        clear hz
        refine tr_make ⟨(Op.pick (Operand.tmp 221) (Operand.tmp 222) (Operand.const (Value.bool false))), some 223, 4, false, none⟩ (.bool true) _ (by kernel_rfl) rfl (by first | exact rfl | trivial) ?_ hS ?_; (focus (simp [go_sem, mkO]; done)); simp only [Act.put, Array.getInternal_eq_getElem, List.getElem_toArray, List.getElem_cons_succ, List.getElem_cons_zero, List.setIfInBounds_toArray, List.set_cons_succ, List.set_cons_zero]
        refine tr_make ⟨(Op.assign (Operand.tmp 223)), some 4, 4, false, none⟩ (.bool true) _ (by kernel_rfl) rfl (by first | exact rfl | trivial) ?_ hS ?_; (focus (exact rfl)); simp only [Act.put, Array.getInternal_eq_getElem, List.getElem_toArray, List.getElem_cons_succ, List.getElem_cons_zero, List.setIfInBounds_toArray, List.set_cons_succ, List.set_cons_zero]
        refine hQn _ _ hKW2 ?_
        show Exec _ _ _ _ _ _
        refine exec_ret ?_
        show CmQ w .ret _ _
        exact ⟨hBV.trans (hS.mono hBV.size), .inr ⟨rfl, (by simp only [Slots, Fits, and_self])⟩⟩
    · clear hB hI hf
      intro t' W' ⟨hB, hI, hSl⟩
      obtain ⟨x, hx⟩ := Slots.open_ hSl; simp only [fill, Nat.reduceAdd] at hx; subst hx; clear hSl
      refine exec_region_o fun ds => ?_
      gi_wp2
      refine eq_mk (Keep.refl _) ⟨j - 1, by omega, k + 1, by omega, by omega, hB, hI, by simp only [Slots, Fits, and_self]; simp⟩
  · refine exec_exit ?_
    show CmQ w .normal _ _
    exact ⟨hBV.trans (hB.mono hBV.size), .inl ⟨rfl, (by simp only [Slots, Fits, and_self])⟩⟩
end Go.Proofs.Ytafmgmaelnpehaa
end

section
set_option linter.unusedVariables false
set_option linter.unusedSimpArgs false
namespace Go.Proofs.Ytafmgmaelnpehaa
open Go.RowKit Go.TL Go.Shelf Go.Fu
attribute [local go_sem] Oper.semAt_some
open PFurrowAsks Go.Proofs.YtafmgmaelnpehaaW.PrintWords
set_option maxRecDepth 100000 in
set_option maxHeartbeats 2000000 in
theorem ss_tests {F : Fur} {V : World} {nb a7 cb c5 : Nat} {Ab A5 : Option Addr} {bs : List Int} {lo hi : Int} (b1 : Box3 V nb 24 F.s0 F.s1 F.s2) (q7 : Box2 V a7 28 lo hi) (h0 : ¬ lo < 0) (h1 : ¬ hi < lo)
    (hmc : ∀ W, Below V.heap.size V W → Calls Try.prog 33 #[.slice A5 F.l0.length c5] W fun e w' => e = .returned (.int .i64 lo) ∧ Below W.heap.size W w') (t : Array Value) (hSl : Slots [none, some (.slice Ab bs.length cb), some (.pointer (some ⟨nb, 0, none⟩)), none, none, some (.slice A5 F.l0.length c5), none, some (.pointer (some ⟨a7, 0, none⟩)), some (.int .i64 0), none, none, none, none, none, none, none, none, none, none, none, none, none, none, none, none, none, none, none, none, none, none, none, none, none, none, none, none, none, none, none, none, none, none, none, none, none, none, none, none, none, none, none, none, none, none, none, none, none, none, none, none, none, none, none, none, none, none, none, none, none, none, none, none, none, none, none, none, none, none, none, none, none, none, none, none, none, none, none, none, none, none, none, none, none, none, none, none, none, none, none, none, none, none, none, none, none, none, none, none, none, none, none, none, none, none, none, none, none, none, none, none, none, none, none, none, none, none, none, none, none, none, none, none, none, none, none, none, none, none, none, none, none, none, none, none, none, none, none, none, none, none, none, none, none, none, none, none, none, none, none, none, none, none, none, none, none, none, none, none, none, none, none, none, none, none, none, none, none, none, none, none, none, none, none, none, none, none, none, none, none, none, none, none, none, none, none, none, none, none, none, none, none, none, none, none, none, none, none, none, none, none, none, none, none, none, none, none, none, none, none, none, none, none, none, none, none] t) :
    Exec Try.prog none (sub (Try.f7.body.getD .skip) [1, 1, 1, 1, 1, 0, 0]) t V (andThen (fun t' W' => Below V.heap.size V W' ∧ Slots [none, some (.slice Ab bs.length cb), some (.pointer (some ⟨nb, 0, none⟩)), none, none, some (.slice A5 F.l0.length c5), none, some (.pointer (some ⟨a7, 0, none⟩)), some (.int .i64 0), none, none, none, none, none, none, none, none, none, none, none, none, none, none, none, none, none, none, none, none, none, none, none, none, none, none, none, none, none, none, none, none, none, none, none, none, none, none, none, none, none, none, none, none, none, none, none, none, none, none, none, none, none, none, none, none, none, none, none, none, none, none, none, none, none, none, none, none, none, none, none, none, none, none, none, none, none, none, none, none, none, none, some (.bool false), none, none, none, none, none, none, none, none, none, none, none, none, none, none, none, none, none, none, none, none, none, none, none, none, none, none, none, none, none, none, none, none, none, none, none, none, none, none, none, none, none, none, none, none, none, none, none, none, none, none, none, none, none, none, none, none, none, none, none, none, none, none, none, none, none, none, none, none, none, none, none, none, none, none, none, none, none, none, none, none, none, none, none, none, none, none, none, none, none, none, none, none, none, none, none, none, none, none, none, none, none, none, none, none, none, none, none, none, none, none, none, none, none, none, none, none, none, none, none, none, none, none, none, none, none, none, none, none, none, none, none, none, none, none] t') fun _ _ _ => False) := by
  obtain ⟨x, hx⟩ := Slots.open_ hSl; simp only [fill, Nat.reduceAdd] at hx; subst hx; clear hSl
  have S1 : ∀ W', Below V.heap.size V W' → W'.cell? ⟨nb, 0, none⟩ = some (.slice F.A0 F.l0.length F.c0) := fun W' h => (Grow.of_below (B := 0) h).cell b1.cell0
  have S2 : ∀ W', Below V.heap.size V W' → W'.cell? ⟨a7, 0, none⟩ = some (.int .i64 lo) := fun W' h => (Grow.of_below (B := 0) h).cell q7.cell0
  have S3 : ∀ W', Below V.heap.size V W' → W'.cell? ⟨a7, 1, none⟩ = some (.int .i64 hi) := fun W' h => (Grow.of_below (B := 0) h).cell q7.cell1
  have hKW : Keep V V.drew := (Keep.refl V).drew
  have hS : Below V.heap.size V V.drew := (Below.refl _ V).drew
  refine region_tree (c := (sub (Try.f7.body.getD .skip) [1, 1, 1, 1, 1, 0, 0])) (id := 7) (.one 0 false (.one 1 false (.one 2 false (.one 3 true (.one 4 true (.one 5 false (.one 6 false (.one 7 false (.one 8 false (.one 9 false (.one 10 false (.one 11 true (.one 13 true (.one 14 true (.one 12 false (.one 15 false (.one 16 false (.one 17 false (.one 18 false (.one 19 false (.one 20 false (.one 21 false (.one 22 false (.one 23 true (.one 24 true (.one 25 false (.one 26 false (.one 27 false (.one 28 false (.nil)))))))))))))))))))))))))))))) (Opq (regOps (sub (Try.f7.body.getD .skip) [1, 1, 1, 1, 1, 0, 0]))) rfl (by kernel_rfl) (by kernel_rfl) (by kernel_rfl) (by kernel_rfl) (by kernel_rfl) (by kernel_rfl) [0, 1, 2, 4, 12, 4, 36, 68, 148, 260, 516, 1024, 3072, 1024, 9216, 21504, 33792, 69632, 131072, 393216, 655360, 1179648, 2228224, 4194304, 12582912, 4194304, 37748736, 88080384, 138412032] (by kernel_rfl) (by kernel_rfl) (fun W' => Below V.heap.size V W') (fun _ _ _ => False) (fun _ _ _ h => h.elim) (fun _ _ _ _ _ _ _ _ h => h.elim) fun ds Q' hQn hQp => ?_
  generalize V.drew = X at *
  refine tr_make ⟨(Op.move (Operand.tmp 8)), some 63, 29, false, none⟩ (.int .i64 0) _ (by kernel_rfl) rfl (by first | exact rfl | trivial) ?_ hS ?_; (focus (exact rfl)); simp only [Act.put, Array.getInternal_eq_getElem, List.getElem_toArray, List.getElem_cons_succ, List.getElem_cons_zero, List.setIfInBounds_toArray, List.set_cons_succ, List.set_cons_zero]
  refine tr_make ⟨(Op.binOp BinOp.neq 29 (Operand.tmp 63) (Operand.const (Value.int IntKind.i64 0)) 29), some 64, 4, false, none⟩ (.bool false) _ (by kernel_rfl) rfl (by first | exact rfl | trivial) ?_ hS ?_; (focus (simp [go_sem, mkO]; done)); simp only [Act.put, Array.getInternal_eq_getElem, List.getElem_toArray, List.getElem_cons_succ, List.getElem_cons_zero, List.setIfInBounds_toArray, List.set_cons_succ, List.set_cons_zero]
  refine tr_make ⟨(Op.move (Operand.tmp 64)), some 65, 4, false, none⟩ (.bool false) _ (by kernel_rfl) rfl (by first | exact rfl | trivial) ?_ hS ?_; (focus (exact rfl)); simp only [Act.put, Array.getInternal_eq_getElem, List.getElem_toArray, List.getElem_cons_succ, List.getElem_cons_zero, List.setIfInBounds_toArray, List.set_cons_succ, List.set_cons_zero]
  refine tr_take ⟨(Op.move (Operand.tmp 5)), some 66, 33, true, some (65, false)⟩ (.slice A5 F.l0.length c5) (by kernel_rfl) rfl (by first | exact rfl | trivial) (fun wq hq => ?_) hS ?_; (focus (exact rfl)); simp only [Act.put, Array.getInternal_eq_getElem, List.getElem_toArray, List.getElem_cons_succ, List.getElem_cons_zero, List.setIfInBounds_toArray, List.set_cons_succ, List.set_cons_zero]
  refine tr_take ⟨(Op.call { callee := (Callee.builtin Builtin.len), args := #[(Operand.tmp 66)], argTypes := #[33] }), some 67, 3, true, some (65, false)⟩ (.int .i64 F.l0.length) (by kernel_rfl) rfl (by first | exact rfl | trivial) (fun wq hq => ?_) hS ?_; (focus (simp [go_sem, mkO]; done)); simp only [Act.put, Array.getInternal_eq_getElem, List.getElem_toArray, List.getElem_cons_succ, List.getElem_cons_zero, List.setIfInBounds_toArray, List.set_cons_succ, List.set_cons_zero]
  refine tr_make ⟨(Op.fieldAddr 24 (Operand.tmp 2) 0), some 68, 0, false, some (65, false)⟩ (.pointer (some ⟨nb, 0, none⟩)) _ (by kernel_rfl) rfl (by first | exact rfl | trivial) ?_ hS ?_; (focus (simp [go_sem, mkO]; done)); simp only [Act.put, Array.getInternal_eq_getElem, List.getElem_toArray, List.getElem_cons_succ, List.getElem_cons_zero, List.setIfInBounds_toArray, List.set_cons_succ, List.set_cons_zero]
  refine tr_make ⟨(Op.load 22 (Operand.tmp 68)), some 69, 22, false, some (65, false)⟩ (.slice F.A0 F.l0.length F.c0) _ (by kernel_rfl) rfl (by first | exact rfl | trivial) ?_ hS ?_; (focus (simp [go_sem, mkO, S1 _ hS]; done)); simp only [Act.put, Array.getInternal_eq_getElem, List.getElem_toArray, List.getElem_cons_succ, List.getElem_cons_zero, List.setIfInBounds_toArray, List.set_cons_succ, List.set_cons_zero]
  refine tr_make ⟨(Op.call { callee := (Callee.builtin Builtin.len), args := #[(Operand.tmp 69)], argTypes := #[22] }), some 70, 3, false, some (65, false)⟩ (.int .i64 F.l0.length) _ (by kernel_rfl) rfl (by first | exact rfl | trivial) ?_ hS ?_; (focus (simp [go_sem, mkO]; done)); simp only [Act.put, Array.getInternal_eq_getElem, List.getElem_toArray, List.getElem_cons_succ, List.getElem_cons_zero, List.setIfInBounds_toArray, List.set_cons_succ, List.set_cons_zero]
  refine tr_make ⟨(Op.binOp BinOp.neq 3 (Operand.tmp 67) (Operand.tmp 70) 3), some 71, 4, false, some (65, false)⟩ (.bool false) _ (by kernel_rfl) rfl (by first | exact rfl | trivial) ?_ hS ?_; (focus (simp [go_sem, mkO]; done)); simp only [Act.put, Array.getInternal_eq_getElem, List.getElem_toArray, List.getElem_cons_succ, List.getElem_cons_zero, List.setIfInBounds_toArray, List.set_cons_succ, List.set_cons_zero]
  refine tr_make ⟨(Op.pick (Operand.tmp 65) (Operand.const (Value.bool true)) (Operand.tmp 71)), some 72, 4, false, none⟩ (.bool false) _ (by kernel_rfl) rfl (by first | exact rfl | trivial) ?_ hS ?_; (focus (simp [go_sem, mkO]; done)); simp only [Act.put, Array.getInternal_eq_getElem, List.getElem_toArray, List.getElem_cons_succ, List.getElem_cons_zero, List.setIfInBounds_toArray, List.set_cons_succ, List.set_cons_zero]
  refine tr_make ⟨(Op.move (Operand.tmp 72)), some 73, 4, false, none⟩ (.bool false) _ (by kernel_rfl) rfl (by first | exact rfl | trivial) ?_ hS ?_; (focus (exact rfl)); simp only [Act.put, Array.getInternal_eq_getElem, List.getElem_toArray, List.getElem_cons_succ, List.getElem_cons_zero, List.setIfInBounds_toArray, List.set_cons_succ, List.set_cons_zero]
  refine tr_take ⟨(Op.move (Operand.tmp 5)), some 74, 33, true, some (73, false)⟩ (.slice A5 F.l0.length c5) (by kernel_rfl) rfl (by first | exact rfl | trivial) (fun wq hq => ?_) hS ?_; (focus (exact rfl)); simp only [Act.put, Array.getInternal_eq_getElem, List.getElem_toArray, List.getElem_cons_succ, List.getElem_cons_zero, List.setIfInBounds_toArray, List.set_cons_succ, List.set_cons_zero]
  refine tr_take ⟨(Op.fieldAddr 28 (Operand.tmp 7) 0), some 76, 0, true, some (73, false)⟩ (.pointer (some ⟨a7, 0, none⟩)) (by kernel_rfl) rfl (by first | exact rfl | trivial) (fun wq hq => ?_) hS ?_; (focus (simp [go_sem, mkO]; done)); simp only [Act.put, Array.getInternal_eq_getElem, List.getElem_toArray, List.getElem_cons_succ, List.getElem_cons_zero, List.setIfInBounds_toArray, List.set_cons_succ, List.set_cons_zero]
  refine tr_take ⟨(Op.load 3 (Operand.tmp 76)), some 77, 3, true, some (73, false)⟩ (.int .i64 lo) (by kernel_rfl) rfl (by first | exact rfl | trivial) (fun wq hq => ?_) hS ?_; (focus (simp [go_sem, mkO, S2 wq hq]; done)); simp only [Act.put, Array.getInternal_eq_getElem, List.getElem_toArray, List.getElem_cons_succ, List.getElem_cons_zero, List.setIfInBounds_toArray, List.set_cons_succ, List.set_cons_zero]
  refine tr_call ⟨(Op.call { callee := (Callee.value (Operand.func 33)), args := #[(Operand.tmp 74)], argTypes := #[33] }), some 75, 3, false, some (73, false)⟩ (f := 33) (args := #[.slice A5 F.l0.length c5]) (by kernel_rfl) rfl (by first | exact rfl | trivial) (by simp [go_sem, mkO]) ?_
  refine (hmc _ hS).mono ?_
  rintro e2 Z ⟨rfl, hz⟩
  replace hKW := hKW.trans (Keep.of_below hz)
  replace hS := hS.trans (hz.mono hS.size)
  refine .inl ⟨_, rfl, hS, ?_⟩
  simp only [Act.put, Array.getInternal_eq_getElem, List.getElem_toArray, List.getElem_cons_succ, List.getElem_cons_zero, List.setIfInBounds_toArray, List.set_cons_succ, List.set_cons_zero]
  clear hz
  refine tr_make ⟨(Op.binOp BinOp.neq 3 (Operand.tmp 75) (Operand.tmp 77) 3), some 78, 4, false, some (73, false)⟩ (.bool false) _ (by kernel_rfl) rfl (by first | exact rfl | trivial) ?_ hS ?_; (focus (simp [go_sem, mkO]; done)); simp only [Act.put, Array.getInternal_eq_getElem, List.getElem_toArray, List.getElem_cons_succ, List.getElem_cons_zero, List.setIfInBounds_toArray, List.set_cons_succ, List.set_cons_zero]
  refine tr_make ⟨(Op.pick (Operand.tmp 73) (Operand.const (Value.bool true)) (Operand.tmp 78)), some 79, 4, false, none⟩ (.bool false) _ (by kernel_rfl) rfl (by first | exact rfl | trivial) ?_ hS ?_; (focus (simp [go_sem, mkO]; done)); simp only [Act.put, Array.getInternal_eq_getElem, List.getElem_toArray, List.getElem_cons_succ, List.getElem_cons_zero, List.setIfInBounds_toArray, List.set_cons_succ, List.set_cons_zero]
  refine tr_make ⟨(Op.move (Operand.tmp 79)), some 80, 4, false, none⟩ (.bool false) _ (by kernel_rfl) rfl (by first | exact rfl | trivial) ?_ hS ?_; (focus (exact rfl)); simp only [Act.put, Array.getInternal_eq_getElem, List.getElem_toArray, List.getElem_cons_succ, List.getElem_cons_zero, List.setIfInBounds_toArray, List.set_cons_succ, List.set_cons_zero]
  refine tr_make ⟨(Op.fieldAddr 28 (Operand.tmp 7) 0), some 81, 0, false, some (80, false)⟩ (.pointer (some ⟨a7, 0, none⟩)) _ (by kernel_rfl) rfl (by first | exact rfl | trivial) ?_ hS ?_; (focus (simp [go_sem, mkO]; done)); simp only [Act.put, Array.getInternal_eq_getElem, List.getElem_toArray, List.getElem_cons_succ, List.getElem_cons_zero, List.setIfInBounds_toArray, List.set_cons_succ, List.set_cons_zero]
  refine tr_make ⟨(Op.load 3 (Operand.tmp 81)), some 82, 3, false, some (80, false)⟩ (.int .i64 lo) _ (by kernel_rfl) rfl (by first | exact rfl | trivial) ?_ hS ?_; (focus (simp [go_sem, mkO, S2 _ hS]; done)); simp only [Act.put, Array.getInternal_eq_getElem, List.getElem_toArray, List.getElem_cons_succ, List.getElem_cons_zero, List.setIfInBounds_toArray, List.set_cons_succ, List.set_cons_zero]
  refine tr_make ⟨(Op.binOp BinOp.lss 3 (Operand.tmp 82) (Operand.const (Value.int IntKind.i64 0)) 3), some 83, 4, false, some (80, false)⟩ (.bool false) _ (by kernel_rfl) rfl (by first | exact rfl | trivial) ?_ hS ?_; (focus (simp [go_sem, mkO, h0]; done)); simp only [Act.put, Array.getInternal_eq_getElem, List.getElem_toArray, List.getElem_cons_succ, List.getElem_cons_zero, List.setIfInBounds_toArray, List.set_cons_succ, List.set_cons_zero]
  refine tr_make ⟨(Op.pick (Operand.tmp 80) (Operand.const (Value.bool true)) (Operand.tmp 83)), some 84, 4, false, none⟩ (.bool false) _ (by kernel_rfl) rfl (by first | exact rfl | trivial) ?_ hS ?_; (focus (simp [go_sem, mkO]; done)); simp only [Act.put, Array.getInternal_eq_getElem, List.getElem_toArray, List.getElem_cons_succ, List.getElem_cons_zero, List.setIfInBounds_toArray, List.set_cons_succ, List.set_cons_zero]
  refine tr_make ⟨(Op.move (Operand.tmp 84)), some 85, 4, false, none⟩ (.bool false) _ (by kernel_rfl) rfl (by first | exact rfl | trivial) ?_ hS ?_; (focus (exact rfl)); simp only [Act.put, Array.getInternal_eq_getElem, List.getElem_toArray, List.getElem_cons_succ, List.getElem_cons_zero, List.setIfInBounds_toArray, List.set_cons_succ, List.set_cons_zero]
  refine tr_take ⟨(Op.fieldAddr 28 (Operand.tmp 7) 0), some 86, 0, true, some (85, false)⟩ (.pointer (some ⟨a7, 0, none⟩)) (by kernel_rfl) rfl (by first | exact rfl | trivial) (fun wq hq => ?_) hS ?_; (focus (simp [go_sem, mkO]; done)); simp only [Act.put, Array.getInternal_eq_getElem, List.getElem_toArray, List.getElem_cons_succ, List.getElem_cons_zero, List.setIfInBounds_toArray, List.set_cons_succ, List.set_cons_zero]
  refine tr_take ⟨(Op.load 3 (Operand.tmp 86)), some 87, 3, true, some (85, false)⟩ (.int .i64 lo) (by kernel_rfl) rfl (by first | exact rfl | trivial) (fun wq hq => ?_) hS ?_; (focus (simp [go_sem, mkO, S2 wq hq]; done)); simp only [Act.put, Array.getInternal_eq_getElem, List.getElem_toArray, List.getElem_cons_succ, List.getElem_cons_zero, List.setIfInBounds_toArray, List.set_cons_succ, List.set_cons_zero]
  refine tr_make ⟨(Op.fieldAddr 28 (Operand.tmp 7) 1), some 88, 0, false, some (85, false)⟩ (.pointer (some ⟨a7, 1, none⟩)) _ (by kernel_rfl) rfl (by first | exact rfl | trivial) ?_ hS ?_; (focus (simp [go_sem, mkO]; done)); simp only [Act.put, Array.getInternal_eq_getElem, List.getElem_toArray, List.getElem_cons_succ, List.getElem_cons_zero, List.setIfInBounds_toArray, List.set_cons_succ, List.set_cons_zero]
  refine tr_make ⟨(Op.load 3 (Operand.tmp 88)), some 89, 3, false, some (85, false)⟩ (.int .i64 hi) _ (by kernel_rfl) rfl (by first | exact rfl | trivial) ?_ hS ?_; (focus (simp [go_sem, mkO, S3 _ hS]; done)); simp only [Act.put, Array.getInternal_eq_getElem, List.getElem_toArray, List.getElem_cons_succ, List.getElem_cons_zero, List.setIfInBounds_toArray, List.set_cons_succ, List.set_cons_zero]
  refine tr_make ⟨(Op.binOp BinOp.gtr 3 (Operand.tmp 87) (Operand.tmp 89) 3), some 90, 4, false, some (85, false)⟩ (.bool false) _ (by kernel_rfl) rfl (by first | exact rfl | trivial) ?_ hS ?_; (focus (simp [go_sem, mkO, h1]; done)); simp only [Act.put, Array.getInternal_eq_getElem, List.getElem_toArray, List.getElem_cons_succ, List.getElem_cons_zero, List.setIfInBounds_toArray, List.set_cons_succ, List.set_cons_zero]
  refine tr_make ⟨(Op.pick (Operand.tmp 85) (Operand.const (Value.bool true)) (Operand.tmp 90)), some 91, 4, false, none⟩ (.bool false) _ (by kernel_rfl) rfl (by first | exact rfl | trivial) ?_ hS ?_; (focus (simp [go_sem, mkO]; done)); simp only [Act.put, Array.getInternal_eq_getElem, List.getElem_toArray, List.getElem_cons_succ, List.getElem_cons_zero, List.setIfInBounds_toArray, List.set_cons_succ, List.set_cons_zero]
  exact hQn _ _ hKW ⟨hS, (by simp only [Slots, Fits, and_self])⟩
end Go.Proofs.Ytafmgmaelnpehaa
end

section
set_option linter.unusedVariables false
set_option linter.unusedSimpArgs false
namespace Go.Proofs.Ytafmgmaelnpehaa
open Go.RowKit Go.TL Go.Shelf Go.Fu
attribute [local go_sem] Oper.semAt_some
open PFurrowAsks Go.Proofs.YtafmgmaelnpehaaW.PrintWords
theorem box3_below {W W' : World} {B : Nat} {t : TypeId} {a b c : Value} (h : Below W.heap.size W W') (hb : Box3 W B t a b c) : Box3 W' B t a b c := (h.block _ hb.lt).trans hb
theorem only_normal {M : Array Value → World → Prop} {e : Exit} {t : Array Value} {W : World} (h : andThen M (fun _ _ _ => False) e t W) : e = .normal ∧ M t W := by
  cases e <;> first | exact ⟨rfl, h⟩ | exact False.elim h
theorem bnd_4000 {l : List (Int × Int)} (hok : ∀ x ∈ l, okSpan x) {x : Nat → Int} (hx : Truth l x) {n : Nat} (h1 : 1 ≤ n) (h2 : n + 1 < l.length) : bnd x n ≤ 4000 := by
  have a := hx (n - 1) (by omega)
  have b := hx n (by omega)
  have c := hx (n + 1) h2
  have d := hok _ (getD_mem l (n - 1) (by omega))
  have e := hok _ (getD_mem l n (by omega))
  have f := hok _ (getD_mem l (n + 1) h2)
  unfold InS at a b c
  unfold okSpan at d e f
  unfold bnd bendI
  split <;> omega
theorem str_good {F : Fur} (hv : F.va = true) (w : World) (h : F.At w) :
    Calls Try.prog 19 #[F.val] w fun e w' => (∃ A c so, e = .returned (.tuple #[.slice A F.l0.length c, .int .i64 0]) ∧ F.l0.length ≤ c ∧ RowI w' A so ∧ so.length = F.l0.length ∧ StrSpec F.pl so) ∧ Below w.heap.size w w' :=
  (Straightest_c F w h).mono fun e w' ⟨⟨A, c, he, hc, hr⟩, hb⟩ => by
    have hs := str_spec (Fur.okS hv)
    have e1 : strV F.va F.pl = ((strF (leastN F.pl) F.pl F.pl.length).2, 0) := by unfold strV; rw [hv, if_pos rfl]
    rw [e1] at he hc hr
    have hl : (strF (leastN F.pl) F.pl F.pl.length).2.length = F.l0.length := by rw [hs.len, F.pl_len]
    simp only [hl] at he hc
    exact ⟨⟨A, c, _, he, hc, hr, hl, hs⟩, hb⟩
theorem str_bad {F : Fur} (hv : F.va = false) (w : World) (h : F.At w) :
    Calls Try.prog 19 #[F.val] w fun e w' => (∃ A c, e = .returned (.tuple #[.slice A 0 c, .int .i64 1])) ∧ Below w.heap.size w w' :=
  (Straightest_c F w h).mono fun e w' ⟨⟨A, c, he, hc, hr⟩, hb⟩ => by
    have e1 : strV F.va F.pl = ([], 1) := by unfold strV; rw [hv, if_neg (by simp)]
    rw [e1] at he
    exact ⟨⟨A, c, he⟩, hb⟩
theorem bend_good {F : Fur} (hv : F.va = true) (w : World) (h : F.At w) :
    Calls Try.prog 15 #[F.val] w fun e w' => e = .returned (.tuple #[.agg #[.int .i64 ((leastN F.pl : Nat) : Int), .int .i64 (hiF F.pl (F.pl.length - 2))], .int .i64 0]) ∧ Below w.heap.size w w' := by
  have h3 := Bend_c F w h
  have e : bendV F.va F.pl = ((((leastN F.pl : Nat) : Int), hiF F.pl (F.pl.length - 2)), 0) := by
    unfold bendV
    rw [hv, if_pos rfl]
  rw [e] at h3
  exact h3
theorem bend_bad {F : Fur} (hv : F.va = false) (w : World) (h : F.At w) :
    Calls Try.prog 15 #[F.val] w fun e w' => e = .returned (.tuple #[.agg #[.int .i64 0, .int .i64 0], .int .i64 1]) ∧ Below w.heap.size w w' := by
  have h3 := Bend_c F w h
  have e : bendV F.va F.pl = ((0, 0), 1) := by
    unfold bendV
    rw [hv, if_neg (by simp)]
  rw [e] at h3
  exact h3
set_option maxRecDepth 100000 in
set_option maxHeartbeats 2000000 in
theorem straight_any (F : Fur) (Ab : Option Addr) (cb : Nat) (bs : List Int) (w : World) (h : F.At w) (hby : RowB w Ab bs) (hbs : ∀ b ∈ bs, 0 ≤ b ∧ b ≤ 255) : Calls Try.prog 7 #[F.val, .slice Ab bs.length cb] w fun e w' => e = .returned (.bool true) ∧ Below w.heap.size w w' := by
  refine calls_of_exec Try.func7 rfl ?_
  simp only [Try.ntmps7, List.size_toArray, List.length_cons, List.length_nil, Nat.reduceAdd, Nat.reduceSub, Array.replicate_succ, Array.replicate_zero, List.push_toArray, List.append_toArray, List.nil_append, List.cons_append]
  simp only [Fur.val]
  refine exec_seq (exec_region_o fun ds => ?_)
  gi_wp2
  refine eq_mk ((Keep.refl w).alloc _) ?_
  show Exec _ _ _ _ _ _
  have b1 := Box3.new w 24 F.s0 F.s1 F.s2
  have hB := (Below.refl w.heap.size w).alloc (Nat.le_refl _) (.cells #[F.s0, F.s1, F.s2] 24)
  generalize w.alloc (.cells #[F.s0, F.s1, F.s2] 24) = W0 at *
  have hF := h.below hB
  clear h
  have c0 := b1.cell0
  have c1 := b1.cell1
  have c2 := b1.cell2
  obtain ⟨hv, hhv⟩ : ∃ b, heavyB F.l0 F.l1 F.l2 8 6 = b := ⟨_, rfl⟩
  have hvy := heavy_any F 8 6 W0 hF
  rw [hhv] at hvy
  refine exec_seq (exec_seq (exec_region_o fun ds => ?_))
  gi_wp2_with fail
  refine ⟨trivial, rfl, (callsIn_wide.2 hvy).mono ?_⟩
  rintro e X ⟨rfl, hx⟩
  have hK := Keep.of_below hx
  replace b1 : Box3 X w.heap.size 24 F.s0 F.s1 F.s2 := (hx.block _ b1.lt).trans b1
  replace hF := hF.below hx
  replace hB := hB.trans (hx.mono hB.size)
  clear hx hvy c0 c1 c2
  gi_wp2
  refine eq_mk hK ?_
  show Exec _ _ _ _ _ _
  clear hK
  clear W0
  cases hv with
  | true =>
    refine exec_cond (b := true) rfl (fun _ => ?_) (fun h => by cases h)
    refine exec_seq (exec_region_o fun ds => ?_)
    gi_wp2_with fail
    refine ⟨trivial, rfl, (callsIn_wide.2 (alive_any X)).mono ?_⟩
    rintro e Y ⟨rfl, hy⟩
    gi_wp2
    refine eq_mk (Keep.of_below hy) ?_
    show Exec _ _ _ _ _ _
    exact exec_ret ⟨.inr rfl, fun W' hG => ⟨.bool true, by simp [results, Try.f7, go_sem], rfl, (hB.trans (hy.mono hB.size)).trans (hG.below (Nat.le_refl _) (hB.trans (hy.mono hB.size)).size)⟩⟩
  | false =>
  refine exec_cond (b := false) rfl (fun h => by cases h) (fun _ => exec_skip ?_)
  show Exec _ _ _ _ _ _
  have HVY := Lib.hid hhv
  clear hhv
  cases hva : F.va with
  | false =>
    have c0 := b1.cell0
    have c1 := b1.cell1
    have c2 := b1.cell2
    refine exec_seq (exec_region_o fun ds => ?_)
    gi_wp2_with fail
    refine ⟨trivial, rfl, (callsIn_wide.2 (str_bad hva X hF)).mono ?_⟩
    rintro e Y21 ⟨⟨A5, c5, rfl⟩, hy⟩
    replace hF := hF.below hy
    replace hB := hB.trans (hy.mono hB.size)
    replace b1 := box3_below hy b1
    have hK := Keep.of_below hy
    clear hy c0 c1 c2
    gi_wp2
    refine eq_mk hK ?_
    show Exec _ _ _ _ _ _
    clear hK
    clear X
    have c0 := b1.cell0
    have c1 := b1.cell1
    have c2 := b1.cell2
    refine exec_seq (exec_region_o fun ds => ?_)
    gi_wp2_with fail
    refine ⟨trivial, rfl, (callsIn_wide.2 (bend_bad hva Y21 hF)).mono ?_⟩
    rintro e Y22 ⟨rfl, hy⟩
    replace hF := hF.below hy
    replace hB := hB.trans (hy.mono hB.size)
    replace b1 := box3_below hy b1
    have hK := Keep.of_below hy
    clear hy c0 c1 c2
    gi_wp2
    refine eq_mk (hK.alloc _) ?_
    show Exec _ _ _ _ _ _
    have ha := (Below.refl Y22.heap.size Y22).alloc (Nat.le_refl _) (.cells #[.int .i64 0, .int .i64 0] 28)
    replace hF := hF.below ha
    replace hB := hB.trans (ha.mono hB.size)
    replace b1 := box3_below ha b1
    have q7 := Box2.new Y22 28 0 0
    generalize Y22.alloc (.cells #[.int .i64 0, .int .i64 0] 28) = Z22 at *
    clear ha hK
    generalize Y22.heap.size = a7 at *
    clear Y22 Y21
    have d0 := q7.cell0
    have d1 := q7.cell1
    have c0 := b1.cell0
    have c1 := b1.cell1
    have c2 := b1.cell2
    have hrf := refFurrow_c F Z22 hF
    rw [hva] at hrf
    refine exec_seq (exec_seq (exec_region_o fun ds => ?_))
    gi_wp2_with fail
    refine ⟨trivial, ?_⟩
    gi_wp2
    refine eq_mk (Keep.refl _) ?_
    show Exec _ _ _ _ _ _
    refine exec_cond (b := true) rfl (fun _ => ?_) (fun h => by cases h)
    have HRF := Lib.hid hrf
    have HVA := Lib.hid hva
    clear hrf hva
    refine exec_seq (exec_region_o fun ds => ?_)
    gi_wp2_with fail
    refine ⟨trivial, rfl, (callsIn_wide.2 HRF.out).mono ?_⟩
    rintro e Y ⟨rfl, hy⟩
    replace hB := hB.trans (hy.mono hB.size)
    have hK := Keep.of_below hy
    clear hy HRF d0 d1 c0 c1 c2 b1 q7 hF
    gi_wp2_with fail
    refine ⟨trivial, rfl, (callsIn_wide.2 (alive_any _)).mono ?_⟩
    rintro e Q ⟨rfl, hq⟩
    gi_wp2
    refine eq_mk (hK.trans (Keep.of_below hq)) ?_
    show Exec _ _ _ _ _ _
    exact exec_ret ⟨.inr rfl, fun W' hG => ⟨.bool true, by simp [results, Try.f7, go_sem], rfl, (hB.trans (hq.mono hB.size)).trans (hG.below (Nat.le_refl _) (hB.trans (hq.mono hB.size)).size)⟩⟩
  | true =>
  have HV := Lib.hid hva
  clear hva
  have c0 := b1.cell0
  have c1 := b1.cell1
  have c2 := b1.cell2
  refine exec_seq (exec_region_o fun ds => ?_)
  gi_wp2_with fail
  refine ⟨trivial, rfl, (callsIn_wide.2 (str_good HV.out X hF)).mono ?_⟩
  rintro e Y31 ⟨⟨A5, c5, so, rfl, hc5, hr5, hls, HS⟩, hy⟩
  replace hF := hF.below hy
  replace hB := hB.trans (hy.mono hB.size)
  replace b1 := box3_below hy b1
  have hK := Keep.of_below hy
  clear hy c0 c1 c2
  gi_wp2
  refine eq_mk hK ?_
  show Exec _ _ _ _ _ _
  clear hK
  clear X
  have c0 := b1.cell0
  have c1 := b1.cell1
  have c2 := b1.cell2
  refine exec_seq (exec_region_o fun ds => ?_)
  gi_wp2_with fail
  refine ⟨trivial, rfl, (callsIn_wide.2 (bend_good HV.out Y31 hF)).mono ?_⟩
  rintro e Y32 ⟨rfl, hy⟩
  replace hF := hF.below hy
  replace hB := hB.trans (hy.mono hB.size)
  replace b1 := box3_below hy b1
  replace hr5 := hr5.below hy
  have hK := Keep.of_below hy
  clear hy c0 c1 c2
  obtain ⟨hi, hhi⟩ : ∃ x, hiF F.pl (F.pl.length - 2) = x := ⟨_, rfl⟩
  rw [hhi]
  have Hhi := Lib.hid hhi
  clear hhi
  gi_wp2
  refine eq_mk (hK.alloc _) ?_
  show Exec _ _ _ _ _ _
  have ha := (Below.refl Y32.heap.size Y32).alloc (Nat.le_refl _) (.cells #[.int .i64 ((leastN F.pl : Nat) : Int), .int .i64 hi] 28)
  replace hF := hF.below ha
  replace hB := hB.trans (ha.mono hB.size)
  replace b1 := box3_below ha b1
  replace hr5 := hr5.below ha
  have q7 := Box2.new Y32 28 ((leastN F.pl : Nat) : Int) hi
  generalize Y32.alloc (.cells #[.int .i64 ((leastN F.pl : Nat) : Int), .int .i64 hi] 28) = Z32 at *
  clear ha hK
  generalize Y32.heap.size = a7 at *
  clear Y32 Y31
  have h8 := Fur.le8 HV.out
  have hpl := F.pl_len
  have hok := Fur.okS HV.out
  have hls' := least_spec F.pl hok
  have hhs := hi_spec F.pl hok
  rw [Hhi.out] at hhs
  have hw0 := wrong_c0 HV.out
  have hw1 := wrong_c1 HV.out
  have hm := HS.most
  have hfs := HS.first
  have htr := HS.tr
  clear HS
  generalize leastN F.pl = L at *
  have hbd : ∀ x ∈ so, -1000 ≤ x ∧ x ≤ 1000 := truth_bd hok (by omega) htr
  have hL4 : ((L : Nat) : Int) ≤ 4000 := by
    rw [← hm]
    exact (mostL_le (by omega)).2 fun n h1 h2 => bnd_4000 hok htr h1 h2
  have h0 : ¬ ((L : Nat) : Int) < 0 := by omega
  have h1 : ¬ hi < ((L : Nat) : Int) := by
    have a := hhs.2 _ htr
    rw [hm] at a
    omega
  have c0 := b1.cell0
  have c1 := b1.cell1
  have c2 := b1.cell2
  have hrf := refFurrow_c F Z32 hF
  rw [HV.out] at hrf
  have HLS := Lib.hid (And.intro hls' hhs)
  have HW0 := Lib.hid hw0
  have HW1 := Lib.hid hw1
  have HT := Lib.hid (And.intro hm (And.intro hfs htr))
  have HBD := Lib.hid hbd
  have HOK := Lib.hid hok
  clear hls' hhs hw0 hw1 hm hfs htr hbd hok
  refine exec_seq (exec_seq (exec_region_o fun ds => ?_))
  gi_wp2_with fail
  refine ⟨trivial, rfl, (callsIn_wide.2 hrf).mono ?_⟩
  rintro e Y ⟨rfl, hy⟩
  replace hF := hF.below hy
  replace hB := hB.trans (hy.mono hB.size)
  replace b1 := box3_below hy b1
  replace q7 := box2_below hy q7
  replace hr5 := hr5.below hy
  have hK := Keep.of_below hy
  clear hy hrf c0 c1 c2
  gi_wp2
  refine eq_mk hK ?_
  show Exec _ _ _ _ _ _
  clear hK
  clear Z32
  refine exec_cond (b := false) rfl (fun h => by cases h) (fun _ => exec_skip ?_)
  show Exec _ _ _ _ _ _
  have hmc : ∀ W, Below Y.heap.size Y W → Calls Try.prog 33 #[.slice A5 F.l0.length c5] W fun e w' => e = .returned (.int .i64 ((L : Nat) : Int)) ∧ Below W.heap.size W w' := fun W hW => by
    have h := most_c (w := W) (c := c5) (hr5.below hW) (by rw [hls]; exact hc5) (by omega) HBD.out
    have a := HT.out.1
    unfold mostL at a
    rw [hpl] at a
    rw [hls, a] at h
    exact h
  refine exec_seq (exec_seq ((ss_tests (nb := w.heap.size) (cb := cb) (Ab := Ab) (bs := bs) b1 q7 (by omega) (by omega) hmc _ (by simp only [Slots, Fits, and_self])).mono ?_))
  intro e t' V h
  obtain ⟨rfl, hy, hSl⟩ := only_normal h
  clear h hmc
  replace hF := hF.below hy
  replace hB := hB.trans (hy.mono hB.size)
  replace b1 := box3_below hy b1
  replace q7 := box2_below hy q7
  replace hr5 := hr5.below hy
  clear hy
  clear Y
  obtain ⟨x, hx⟩ := Slots.open_ hSl; simp only [fill, Nat.reduceAdd] at hx; subst hx; clear hSl
  show Exec _ _ _ _ _ _
  refine exec_cond (b := false) rfl (fun h => by cases h) (fun _ => exec_skip ?_)
  show Exec _ _ _ _ _ _
  obtain ⟨j0, hj0, jz0, jz1, jz2⟩ : ∃ i0, Try.prog.info? 3 = some i0 ∧ i0.zero = some (.int .i64 0) ∧ i0.size = 1 ∧ i0.bytes = 8 := by
    have := info3
    cases h : Try.prog.info? 3 with
    | none => rw [h] at this; cases this
    | some i0 =>
      rw [h] at this
      have := Option.some.inj this
      simp only [Prod.mk.injEq] at this
      exact ⟨i0, rfl, this.1, this.2.1, this.2.2⟩
  obtain ⟨W1, hmk, hown, hgr⟩ := run_makeSlice_full (P := Try.prog) V V.heap.size 33 3 j0 _ 1 Try.underlying33 hj0 jz0 jz1 .i64 .i64 F.l0.length (by omega) (by rw [jz2]; omega) (by unfold maxLen; omega) (Nat.le_refl _)
  refine exec_seq (exec_region_o fun ds => ?_)
  gi_wp2
  refine eq_mk ((Keep.refl _).grown hgr (fun j o e _ => by cases e)) ?_
  show Exec _ _ _ _ _ _
  have hB1 : Below V.heap.size V W1 := (Below.refl _ V).grown hgr (Nat.le_refl _) (fun q e => by cases e)
  rw [show (Value.int IntKind.i64 0).cells = #[Value.int .i64 0] from rfl, Nat.mul_one, toList_madeCells_one] at hown
  have hown0 : W1.ownsRow V.heap.size 3 1 (.slice (some ⟨V.heap.size, 0, none⟩) F.l0.length F.l0.length) F.l0.length ((oneL F.pl bs F.l0.length 0).map (Value.int .i64)) := by
    rw [oneL_zero, List.map_replicate]
    exact hown
  clear hmk hown hgr hj0 jz0 jz1 jz2 j0
  refine exec_seq (exec_seq (exec_region_o fun ds => ?_))
  gi_wp2
  refine eq_mk (Keep.refl _) ?_
  show Exec _ _ _ _ _ _
  have hK1 : OneK F V w.heap.size Ab bs := ⟨hF, b1, hby.below hB, h8, fun y hy => Fur.ok12 HV.out y hy, hbs⟩
  refine (ws_fill (cb := cb) (c5 := c5) (a7 := a7) hK1 hr5 hls HT.out.2.2 hB1 hown0 _ (by simp only [Slots, Fits, and_self])).mono ?_
  intro e t' Z h
  obtain ⟨rfl, hz, hown, hSl⟩ := only_normal h
  clear h x hK1 hown0 hB1
  clear W1
  obtain ⟨x, hx⟩ := Slots.open_ hSl; simp only [fill, Nat.reduceAdd] at hx; subst hx; clear hSl
  show Exec _ _ _ _ _ _
  replace hF := hF.below hz
  replace hB := hB.trans (hz.mono hB.size)
  replace b1 := box3_below hz b1
  replace q7 := box2_below hz q7
  replace hr5 := hr5.below hz
  clear hby
  have hto := one_truth HOK.out hbs
  obtain ⟨ol, hol⟩ : ∃ l, oneL F.pl bs F.l0.length F.l0.length = l := ⟨_, rfl⟩
  have hlo : ol.length = F.l0.length := by rw [← hol]; exact oneL_len _ _ _ _
  rw [hpl, hol] at hto
  rw [hol] at hown
  obtain ⟨A, c, hAc, hlc, hr⟩ := own_rowI (base := V.heap.size) (v := .slice (some ⟨V.heap.size, 0, none⟩) F.l0.length F.l0.length) (l := ol) (by rw [hlo]; exact hown)
  rw [hlo] at hAc hlc
  simp only [Value.slice.injEq, true_and] at hAc
  obtain ⟨rfl, rfl⟩ := hAc
  have hbo : ∀ x ∈ ol, -1000 ≤ x ∧ x ≤ 1000 := truth_bd HOK.out (by omega) hto
  obtain ⟨M, hM⟩ : ∃ m, mostF (fnOf ol) (F.l0.length - 2) = m := ⟨_, rfl⟩
  have HM : mostL F.pl (fnOf ol) = M := by unfold mostL; rw [hpl]; exact hM
  have HMC := Lib.hid (show ∀ W, RowI W (some ⟨V.heap.size, 0, none⟩) ol → Calls Try.prog 33 #[.slice (some ⟨V.heap.size, 0, none⟩) F.l0.length F.l0.length] W fun e w' => e = .returned (.int .i64 M) ∧ Below W.heap.size W w' from fun W hW => by
    have := most_c (w := W) (c := F.l0.length) hW (by omega) (by omega) hbo
    rw [hlo, hM] at this
    exact this)
  have hML : ((L : Nat) : Int) ≤ M := by have a := HLS.out.1.2 _ hto; rw [HM] at a; exact a
  have hMH : M ≤ hi := by have a := HLS.out.2.2 _ hto; rw [HM] at a; exact a
  have HFI := Lib.hid (show M ≤ ((L : Nat) : Int) → ∀ i, i < F.l0.length → (∀ j, j < i → fnOf ol j = fnOf so j) → fnOf ol i ≠ fnOf so i → fnOf so i < fnOf ol i from fun hle i hi h2 h3 => HT.out.2.1 _ hto (by rw [HM]; exact hle) i (by omega) h2 h3)
  clear hM HM hown hbo hol hz hto HLS HT HBD hbs
  generalize V.heap.size = g at *
  clear V
  -- R19, R20
  have c0 := b1.cell0
  have c1 := b1.cell1
  have c2 := b1.cell2
  have d0 := q7.cell0
  refine exec_seq (exec_region_o fun ds => ?_)
  gi_wp2_with fail
  refine ⟨trivial, rfl, (callsIn_wide.2 (HW0.out Z hF)).mono ?_⟩
  rintro e Y ⟨rfl, hy⟩
  replace hF := hF.below hy
  replace hB := hB.trans (hy.mono hB.size)
  replace b1 := box3_below hy b1
  replace q7 := box2_below hy q7
  replace hr5 := hr5.below hy
  replace hr := hr.below hy
  have hK := Keep.of_below hy
  clear hy c0 c1 c2 d0 HW0
  gi_wp2
  refine eq_mk hK ?_
  show Exec _ _ _ _ _ _
  clear hK
  clear Z
  refine exec_seq (exec_seq (exec_region_o fun ds => ?_))
  gi_wp2
  refine eq_mk (Keep.refl _) ?_
  show Exec _ _ _ _ _ _
  refine exec_cond (b := false) rfl (fun h => by cases h) (fun _ => exec_skip ?_)
  show Exec _ _ _ _ _ _
  have c0 := b1.cell0
  have c1 := b1.cell1
  have c2 := b1.cell2
  have d0 := q7.cell0
  refine exec_cut (fun t' W' => Below Y.heap.size Y W' ∧ Slots [none, none, some (.pointer (some ⟨w.heap.size, 0, none⟩)), none, none, some (.slice A5 F.l0.length c5), none, some (.pointer (some ⟨a7, 0, none⟩)), none, some (.slice (some ⟨g, 0, none⟩) F.l0.length F.l0.length), none, none, none, none, none, none, none, none, none, none, none, none, none, none, none, none, none, none, none, none, none, none, none, none, none, none, none, none, none, none, none, none, none, none, none, none, none, none, none, none, none, none, none, none, none, none, none, none, none, none, none, none, none, none, none, none, none, none, none, none, none, none, none, none, none, none, none, none, none, none, none, none, none, none, none, none, none, none, none, none, none, none, none, none, none, none, none, none, none, none, none, none, none, none, none, none, none, none, none, none, none, none, none, none, none, none, none, none, none, none, none, none, none, none, none, none, none, none, none, none, none, none, none, none, none, none, none, none, none, none, none, none, none, none, none, none, none, none, none, none, none, none, none, none, none, none, none, none, none, none, none, none, none, none, none, none, none, none, none, none, none, none, none, none, none, none, none, none, none, none, none, none, none, none, none, none, none, none, none, none, none, none, none, none, none, none, none, none, none, none, none, none, none, none, none, none, none, none, none, none, none, none, none, none, none, none, none, none, none, none, none, none, none, none, none, none] t') ?_ ?_
  · clear HMC HFI HOK hr hr5
    by_cases hL1 : 1 ≤ L
    · have hl1 : (0 : Int) < ((L : Nat) : Int) := by omega
      have hww : IntKind.i64.wrap (((L : Nat) : Int) - 1) = ((L : Nat) : Int) - 1 := IntWalk.i64_in _ (by omega)
      by_cases hn6 : F.l0.length < 6
      · refine exec_seq (exec_region_o fun ds => ?_)
        gi_wp2
        refine eq_mk (Keep.refl _) ?_
        show Exec _ _ _ _ _ _
        refine exec_cond (b := true) (by first | rfl | (show Value.bool _ = _; simp; omega)) (fun _ => ?_) (fun h => by cases h)
        refine exec_seq (exec_region_o fun ds => ?_)
        gi_wp2_with fail
        refine ⟨trivial, rfl, (callsIn_wide.2 (HW1.out hL1 Y hF)).mono ?_⟩
        rintro e Z ⟨⟨m, hm, rfl⟩, hy⟩
        have hK := Keep.of_below hy
        have HY := Lib.hid hy
        clear hy
        gi_wp2
        refine eq_mk hK ?_
        show Exec _ _ _ _ _ _
        refine exec_seq (exec_region_o fun ds => ?_)
        gi_wp2
        refine eq_mk (Keep.refl _) ?_
        show Exec _ _ _ _ _ _
        refine exec_cond (b := false) (by first | rfl | (show Value.bool _ = _; simp; exact hm)) (fun h => by cases h) (fun _ => exec_skip ?_)
        show _ ∧ _
        exact ⟨HY.out, (by simp only [Slots, Fits, and_self])⟩
      · refine exec_seq (exec_region_o fun ds => ?_)
        gi_wp2
        refine eq_mk (Keep.refl _) ?_
        show Exec _ _ _ _ _ _
        refine exec_cond (b := false) (by first | rfl | (show Value.bool _ = _; simp; omega)) (fun h => by cases h) (fun _ => exec_skip ?_)
        show _ ∧ _
        exact ⟨Below.refl _ _, (by simp only [Slots, Fits, and_self])⟩
    · have hl1 : ¬ (0 : Int) < ((L : Nat) : Int) := by omega
      obtain rfl : L = 0 := by omega
      refine exec_seq (exec_region_o fun ds => ?_)
      gi_wp2
      refine eq_mk (Keep.refl _) ?_
      show Exec _ _ _ _ _ _
      refine exec_cond (b := false) (by first | rfl | (show Value.bool _ = _; simp; omega)) (fun h => by cases h) (fun _ => exec_skip ?_)
      show _ ∧ _
      exact ⟨Below.refl _ _, (by simp only [Slots, Fits, and_self])⟩
  rintro t' Z ⟨hy, hSl⟩
  clear x c0 c1 c2 d0
  replace hF := hF.below hy
  replace hB := hB.trans (hy.mono hB.size)
  replace b1 := box3_below hy b1
  replace q7 := box2_below hy q7
  replace hr5 := hr5.below hy
  replace hr := hr.below hy
  clear hy
  clear Y
  obtain ⟨x, hx⟩ := Slots.open_ hSl; simp only [fill, Nat.reduceAdd] at hx; subst hx; clear hSl
  clear HW1
  refine exec_seq (exec_region_o fun ds => ?_)
  gi_wp2_with fail
  refine ⟨trivial, rfl, (callsIn_wide.2 (HMC.out Z hr)).mono ?_⟩
  rintro e Y ⟨rfl, hy⟩
  replace hF := hF.below hy
  replace hB := hB.trans (hy.mono hB.size)
  replace q7 := box2_below hy q7
  replace hr5 := hr5.below hy
  replace hr := hr.below hy
  have hK := Keep.of_below hy
  clear hy HMC b1
  gi_wp2
  refine eq_mk hK ?_
  show Exec _ _ _ _ _ _
  clear hK
  clear Z
  have hin : (decide (((L : Nat) : Int) ≤ M) && decide (M ≤ hi)) = true := by simp [hML, hMH]
  have d0 := q7.cell0
  have d1 := q7.cell1
  refine exec_seq (exec_seq (exec_region_o fun ds => ?_))
  gi_wp2_with fail
  refine ⟨trivial, rfl, (callsIn_wide.2 (inside_c M L hi Y)).mono ?_⟩
  rintro e Z ⟨rfl, hy⟩
  rw [hin]
  replace hF := hF.below hy
  replace hB := hB.trans (hy.mono hB.size)
  replace q7 := box2_below hy q7
  replace hr5 := hr5.below hy
  replace hr := hr.below hy
  have hK := Keep.of_below hy
  clear hy hin d0 d1
  gi_wp2
  refine eq_mk hK ?_
  show Exec _ _ _ _ _ _
  clear hK
  clear Y
  refine exec_cond (b := false) rfl (fun h => by cases h) (fun _ => exec_skip ?_)
  show Exec _ _ _ _ _ _
  have d0 := q7.cell0
  by_cases hle : M ≤ ((L : Nat) : Int)
  · have hng : ¬ ((L : Nat) : Int) < M := by omega
    have HLE := Lib.hid hle
    clear hle hML hMH
    refine exec_seq (exec_seq (exec_region_o fun ds => ?_))
    gi_wp2
    refine eq_mk (Keep.refl _) ?_
    show Exec _ _ _ _ _ _
    refine exec_cond (b := false) (by first | rfl | (show Value.bool _ = _; have := HLE.out; simp; omega)) (fun h => by cases h) (fun _ => exec_skip ?_)
    show Exec _ _ _ _ _ _
    refine exec_seq (exec_seq (exec_region_o fun ds => ?_))
    gi_wp2
    refine eq_mk (Keep.refl _) ?_
    show Exec _ _ _ _ _ _
    refine (ss_cmp (w := w) (c5 := c5) (c9 := F.l0.length) hB h8 hr5 hr hls hlo (HFI.out HLE.out) _ (by simp only [Slots, Fits, and_self])).mono ?_
    rintro e t' V ⟨hb, h⟩
    clear x
    rcases h with ⟨rfl, hSl⟩ | ⟨rfl, hSl⟩
    · obtain ⟨x, hx⟩ := Slots.open_ hSl; simp only [fill, Nat.reduceAdd] at hx; subst hx; clear hSl
      show Exec _ _ _ _ _ _
      clear hB
      have hB := hb
      refine exec_seq (exec_region_o fun ds => ?_)
      gi_wp2_with fail
      refine ⟨trivial, rfl, (callsIn_wide.2 (alive_any _)).mono ?_⟩
      rintro e Q ⟨rfl, hq⟩
      gi_wp2
      refine eq_mk (Keep.of_below hq) ?_
      show Exec _ _ _ _ _ _
      exact exec_ret ⟨.inr rfl, fun W' hG => ⟨.bool true, by simp [results, Try.f7, go_sem], rfl, (hB.trans (hq.mono hB.size)).trans (hG.below (Nat.le_refl _) (hB.trans (hq.mono hB.size)).size)⟩⟩
    · obtain ⟨x, hx⟩ := Slots.open_ hSl; simp only [fill, Nat.reduceAdd] at hx; subst hx; clear hSl
      exact ⟨.inr rfl, fun W' hG => ⟨.bool true, by simp [results, Try.f7, go_sem], rfl, hb.trans (hG.below (Nat.le_refl _) hb.size)⟩⟩
  · have hng : ((L : Nat) : Int) < M := by omega
    refine exec_seq (exec_seq (exec_region_o fun ds => ?_))
    gi_wp2
    refine eq_mk (Keep.refl _) ?_
    show Exec _ _ _ _ _ _
    refine exec_cond (b := true) (by first | rfl | (show Value.bool _ = _; simp; omega)) (fun _ => ?_) (fun h => by cases h)
    refine exec_seq (exec_region_o fun ds => ?_)
    gi_wp2_with fail
    refine ⟨trivial, rfl, (callsIn_wide.2 (alive_any _)).mono ?_⟩
    rintro e Q ⟨rfl, hq⟩
    gi_wp2
    refine eq_mk (Keep.of_below hq) ?_
    show Exec _ _ _ _ _ _
    exact exec_ret ⟨.inr rfl, fun W' hG => ⟨.bool true, by simp [results, Try.f7, go_sem], rfl, (hB.trans (hq.mono hB.size)).trans (hG.below (Nat.le_refl _) (hB.trans (hq.mono hB.size)).size)⟩⟩
end Go.Proofs.Ytafmgmaelnpehaa
end

section
set_option linter.unusedVariables false
namespace Go.Proofs.Ytafmgmaelnpehaa
open Go.ChangeShapes Go.WideShapes Go.RowKit Go.Joins Go.Deep PFurrowAsks Go.Proofs.YtafmgmaelnpehaaW.PrintWords
section
variable {H : Type} {enc : TypeId × Value → H} {w : World}
theorem row_open {n : Nat} {v : Value} {y : DataW H × List MemPlace} (h : DataW.trod enc Try.prog w 0 (fun _ => true) true n 22 [v] = some y) : ∃ A c l, v = .slice A (l : List S28).length c ∧ l.length ≤ c ∧ Row w A l := by
  rcases open_slice_pairs Try.underlying22 Try.underlying28 (by kernel_rfl) rfl rfl (by kernel_rfl) (by kernel_rfl) h with ⟨hcs, _⟩ | ⟨a, len, cap, m, n', V0, V1, D0, D1, P0, P1, hcs, _, hl, hm, hmm, _, hi⟩
  · simp only [List.cons.injEq, and_true] at hcs
    exact ⟨none, 0, [], hcs, Nat.le_refl _, rfl, by simp, fun hp => by simp at hp⟩
  · simp only [List.cons.injEq, and_true] at hcs
    have hlm : len ≤ m := by rw [hmm]; split <;> omega
    have each : ∀ i, i < len → ∃ x : S28, w.cell? (a.add (i * 2)) = some (.int .i64 x.f0) ∧ w.cell? (a.add (i * 2 + 1)) = some (.int .i64 x.f1) := by
      intro i hi'
      obtain ⟨c0, c1, t0, t1⟩ := hi i (by omega)
      obtain ⟨x, e0, _, _⟩ := DataW.trod_int Try.underlying3 t0
      obtain ⟨z, e1, _, _⟩ := DataW.trod_int Try.underlying3 t1
      simp only [List.cons.injEq, and_true] at e0 e1
      exact ⟨⟨x, z⟩, by rw [c0, e0], by rw [c1, e1]⟩
    have hex : ∃ l : List S28, l.length = len ∧ ∀ i p, l[i]? = some p → w.cell? (a.add (i * 2)) = some (.int .i64 p.f0) ∧ w.cell? (a.add (i * 2 + 1)) = some (.int .i64 p.f1) := by
      have go : ∀ k, k ≤ len → ∃ l : List S28, l.length = k ∧ ∀ i p, l[i]? = some p → w.cell? (a.add (i * 2)) = some (.int .i64 p.f0) ∧ w.cell? (a.add (i * 2 + 1)) = some (.int .i64 p.f1) := by
        intro k
        induction k with
        | zero => exact fun _ => ⟨[], rfl, fun i p hp => by simp at hp⟩
        | succ k ih =>
          intro hk
          obtain ⟨l, hl1, hl2⟩ := ih (by omega)
          obtain ⟨x, h1, h2⟩ := each k (by omega)
          refine ⟨l ++ [x], by simp [hl1], fun i p hp => ?_⟩
          rcases Nat.lt_or_ge i l.length with hlt | hge
          · rw [List.getElem?_append_left hlt] at hp
            exact hl2 i p hp
          · rw [List.getElem?_append_right hge] at hp
            have hi0 : i - l.length = 0 := by
              rcases Nat.eq_zero_or_pos (i - l.length) with h0 | h0
              · exact h0
              · obtain ⟨q, hq⟩ : ∃ q, i - l.length = q + 1 := ⟨i - l.length - 1, by omega⟩
                rw [hq] at hp
                simp at hp
            rw [hi0] at hp
            simp only [List.getElem?_cons_zero, Option.some.injEq] at hp
            subst hp
            obtain rfl : i = k := by omega
            exact ⟨h1, h2⟩
      exact go len (Nat.le_refl _)
    obtain ⟨l, hl1, hl2⟩ := hex
    refine ⟨some a, cap, l, by rw [hcs, hl1], by omega, rfl, by unfold maxLen at hm; omega, fun hp => ⟨a, rfl, fun j p hp => ?_⟩⟩
    obtain ⟨h1, h2⟩ := hl2 j p hp
    refine ⟨[.int .i64 p.f0, .int .i64 p.f1], rfl, k28_mk w p, fun i u hu => ?_⟩
    match i, hu with
    | 0, hu => simp at hu; subst hu; exact h1
    | 1, hu => simp at hu; subst hu; exact h2
    | i + 2, hu => simp at hu
set_option maxRecDepth 100000 in
theorem fur_open {r : Reach} {b0 : Nat} {v : Value} {d : DataW H} {p : List MemPlace} (hv : Value.okWide Try.prog w r b0 24 v) (h : DataW.Trod enc Try.prog w 0 (fun _ => true) true 24 v d p) : ∃ F : Fur, v = F.val ∧ F.At w := by
  obtain ⟨v0, v1, v2, y0, y1, y2, n, rfl, _, _, h0, h1, h2⟩ := open_agg3 Try.underlying24 (by kernel_rfl) (by kernel_rfl) hv h
  obtain ⟨A0, c0, l0, rfl, g0, r0⟩ := row_open h0
  obtain ⟨A1, c1, l1, rfl, g1, r1⟩ := row_open h1
  obtain ⟨A2, c2, l2, rfl, g2, r2⟩ := row_open h2
  exact ⟨⟨A0, c0, l0, A1, c1, l1, A2, c2, l2⟩, rfl, ⟨r0, g0, r1, g1, r2, g2⟩⟩
end
end Go.Proofs.Ytafmgmaelnpehaa
end

section
namespace Go.Proofs.Ytafmgmaelnpehaa
open Go.RowKit Go.TL Go.Fu PFurrowAsks Go.Proofs.YtafmgmaelnpehaaW.PrintWords in
theorem straight_row (F : Fur) (a : Option Addr) (len cap : Nat) (z : List Int) (w : World) (h : F.At w) (hr : (a = none ∧ len = 0 ∧ cap = 0 ∧ z = []) ∨ ∃ x, a = some x ∧ len ≤ cap ∧ cap ≤ maxLen ∧ z.length = cap ∧ (∀ i, i < z.length → w.cell? (x.add i) = some (.int .u8 (z.getD i 0))) ∧ ∀ n ∈ z, (Lit.int .u8 n).wf = true) :
    Calls Try.prog 7 #[F.val, .slice a len cap] w fun e w' => e = .returned (.bool true) ∧ Below w.heap.size w w' := by
  obtain ⟨l, rfl, h1, _, h2, _⟩ := ReadsInt.ofRowC hr
  exact straight_any F a cap l w h h1 fun b hb => bounds_u8 (h2 b hb)
end Go.Proofs.Ytafmgmaelnpehaa
namespace Go.Proofs.Ytafmgmaelnpehaa.furrowStraight
open Go.ChangeShapes Go.WideShapes Go.ChangeAt Go.RowKit
open Go.ChangeMaps (open_string shut_string)
set_option linter.unusedVariables false
theorem own : ownKnob Try.prog.godebug = none := by kernel_rfl
theorem laidOut : laidOutB Try.prog = true := by kernel_rfl
def IsRow (k : IntKind) (w : World) (a : Option Addr) (len cap : Nat) (zs : List Int) : Prop :=
  (a = none ∧ len = 0 ∧ cap = 0 ∧ zs = []) ∨
  ∃ x, a = some x ∧ len ≤ cap ∧ cap ≤ maxLen ∧ zs.length = cap ∧ (∀ i, i < zs.length → w.cell? (x.add i) = some (.int k (zs.getD i 0))) ∧ ∀ n ∈ zs, (Lit.int k n).wf = true
set_option maxRecDepth 100000 in
theorem lifted (os : Os) (started : os.Started) (H : Type) (enc : TypeId × Value → H) :
    ReturnsInHanded {} Try.checked os 7 .any (Rows.furrowStraightSpec.pre6 enc Try.prog Try.f7 Rows.furrowStraightRow.domain false) (Rows.furrowStraightSpec.post enc Try.prog Try.f7 false true false false) := by
  refine returnsInHanded_of_change_sized (C := Try.checked) own started (by kernel_rfl) Try.func7
    (ChangeSpec.witness6 (enc := enc) (C := Try.checked) false ⟨#[], #[.agg #[.slice none 0 0, .slice none 0 0, .slice none 0 0], .slice none 0 0], []⟩ 8 (by kernel_rfl) (by kernel_rfl) (by kernel_rfl) (by kernel_rfl)) ?_
  intro W base args ds gs before hval0 hW hcnd hsz0 _
  have hsz : (DataW.weightsEach Try.prog (Try.f7.params.toList ++ Rows.furrowStraightSpec.plain.varTypes Try.prog) (ds ++ gs)).all (· ≤ reachBytes) = true := hsz0
  have hval : ∀ (j : Nat) t v, Try.f7.params[j]? = some t → args[j]? = some v → Value.okWide Try.prog W .any base t v := hval0
  have hW' := hW
  obtain ⟨p, q, hA0, hV, rfl, hfz, hnd⟩ := hW
  have hA : DataW.TrodAll enc Try.prog W 0 (fun _ => true) true Try.f7.params.toList args.toList ds p := hA0
  rw [Try.params7] at hA hval hsz
  obtain ⟨v0, vs0, d0, ds0, p0, q0, hargs, rfl, rfl, h0, r0⟩ := trodAll_cons hA
  obtain ⟨v1, vs1, d1, ds1, p1, q1, rfl, rfl, rfl, h1, r1⟩ := trodAll_cons r0
  obtain ⟨rfl, rfl, rfl⟩ := trodAll_nil r1
  obtain rfl : args = #[v0, v1] := by cases args; simp_all
  obtain ⟨rfl, rfl⟩ := trodVars_none hV
  have k0 := h0
  have lt0 : ∀ x ∈ p0, x.block < W.heap.size := by obtain ⟨m, hm⟩ := k0; exact DataW.trod_lt m _ _ _ hm
  obtain ⟨F0, rfl, hF0⟩ := fur_open (hval 0 24 v0 rfl rfl) h0
  obtain ⟨a1, len1, cap1, rfl⟩ := okWide_slice Try.underlying52 (hval 1 52 v1 rfl rfl)
  have k1 := h1
  have lt1 : ∀ x ∈ p1, x.block < W.heap.size := by obtain ⟨m, hm⟩ := k1; exact DataW.trod_lt m _ _ _ hm
  obtain ⟨z1, w1⟩ : ∃ zs, IsRow .u8 W a1 len1 cap1 zs := by
    obtain ⟨fuel, hf⟩ := h1
    rcases open_ints Try.underlying52 Try.underlying5 (by kernel_rfl) hf with ⟨hcs, _⟩ | ⟨x, l, c, zs, hcs, _, hl, hm, hz, _, hcell, hwz⟩
    · simp [Value.cells] at hcs
      obtain ⟨rfl, rfl, rfl⟩ := hcs
      exact ⟨[], .inl ⟨rfl, rfl, rfl, rfl⟩⟩
    · simp [Value.cells] at hcs
      obtain ⟨rfl, rfl, rfl⟩ := hcs
      exact ⟨zs, .inr ⟨_, rfl, hl, hm, by simpa using hz, hcell, hwz⟩⟩
  clear hA0 hval0 hsz0 hsz
  refine (straight_row F0 a1 len1 cap1 z1 W hF0 w1).mono fun e W' ⟨he, bel⟩ => ?_
  subst he
  exact ⟨_, rfl, _, _, _, [], _, [], hW', trodAll_mk1 (shut_bool Try.underlying4 _), (trodAll_cons_mk (Below.trod laidOut (by kernel_rfl) (of_decide_eq_true (by kernel_rfl)) k0 bel lt0) (trodAll_cons_mk (Below.trod laidOut (by kernel_rfl) (of_decide_eq_true (by kernel_rfl)) k1 bel lt1) trodAll_mk0)), rfl, bel.frame _, fun h => by cases h⟩
theorem over : Rows.furrowStraightRow.holds Try.pinned (OpenSpec.ofChange Rows.furrowStraightSpec) :=
  OpenClaim.holds_of_wide 7 Try.f7 rfl rfl rfl rfl rfl rfl rfl ⟨rfl, rfl, rfl, rfl, rfl⟩ rfl rfl rfl rfl rfl (by kernel_rfl) Try.func7 (by kernel_rfl)
    (of_decide_eq_true (by kernel_rfl)) (by unfold Func.isWrapper; first | (rw [if_pos (by decide +kernel)]; kernel_rfl) | (rw [if_neg (by decide +kernel)]; exact ⟨rfl, rfl⟩))
    (fun os started H enc _ => lifted os started H enc)
theorem proved : Rows.FurrowStraightSaid := over
#print axioms proved
end Go.Proofs.Ytafmgmaelnpehaa.furrowStraight
namespace Go.Proofs.Ytafmgmaelnpehaa
/-- The row, under a short name, for the claim. -/
theorem furrowStraight_holds : Rows.FurrowStraightSaid := furrowStraight.proved
end Go.Proofs.Ytafmgmaelnpehaa
end
