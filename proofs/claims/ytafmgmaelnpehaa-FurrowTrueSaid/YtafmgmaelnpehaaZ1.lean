/- Proved: FurrowTrue returns true for all numbers, in whatever order Go evaluates what it leaves open; no condition. -/
import Derived.Test.YtafmgmaelnpehaaC3
import Derived.Test.YtafmgmaelnpehaaC1
import Derived.Maps.OwnIn
import Derived.Lib.Hide
import Derived.Test.YtafmgmaelnpehaaC2
import Derived.Maps.AppendAt
import Derived.Deep.SlicePairs
import Derived.Lib.SmallJoins
import Derived.Carry
import Derived.ChangeArms
import Derived.ChangeOld
import Derived.WideShapes
import Derived.Test.YtafmgmaelnpehaaRows
import Derived.WalkKit
import Derived.ProofKit
import Derived.OpenShut
import Derived.ShutString
import Derived.Below
import Derived.SizedLaws
section
set_option linter.unusedVariables false
set_option linter.unusedSimpArgs false
namespace Go.Proofs.Ytafmgmaelnpehaa
open Go.RowKit Go.Fu PFurrowAsks Go.Proofs.YtafmgmaelnpehaaW.PrintWords
/-! ### Bits -/
theorem or_all : (List.range 8).all (fun k => (List.range (2 ^ k)).all fun s => bits .or .i64 (s : Int) (wrap64 (2 ^ k)) == ((s + 2 ^ k : Nat) : Int)) = true := by kernel_rfl
theorem or_is (k s : Nat) (hk : k < 8) (hs : s < 2 ^ k) : bits .or .i64 (s : Int) (wrap64 (2 ^ k)) = ((s + 2 ^ k : Nat) : Int) := by
  have h := List.all_eq_true.1 or_all k (List.mem_range.2 hk)
  have h2 := List.all_eq_true.1 h s (List.mem_range.2 hs)
  exact eq_of_beq h2
/-- A set of stations, as a number. -/
def setN (p : Nat → Bool) : Nat → Nat
  | 0 => 0
  | k + 1 => setN p k + if p k then 2 ^ k else 0
theorem setN_lt (p : Nat → Bool) : ∀ k, setN p k < 2 ^ k
  | 0 => by simp [setN]
  | k + 1 => by
    have := setN_lt p k
    unfold setN
    rw [Nat.pow_succ]
    split <;> omega
theorem shM_set (p : Nat → Bool) : ∀ k, k ≤ 8 → shM p k = ((setN p k : Nat) : Int)
  | 0, _ => rfl
  | k + 1, h => by
    unfold shM setN
    rw [shM_set p k (by omega)]
    split
    · rw [or_is k _ (by omega) (setN_lt p k)]
    · simp
theorem setN_bit (p : Nat → Bool) : ∀ (n i : Nat), setN p n / 2 ^ i % 2 = if i < n ∧ p i = true then 1 else 0
  | 0, i => by simp [setN]
  | n + 1, i => by
    have ih := setN_bit p n i
    have hlt := setN_lt p n
    unfold setN
    rcases Nat.lt_trichotomy i n with h | h | h
    · have e : (setN p n + if p n = true then 2 ^ n else 0) / 2 ^ i % 2 = setN p n / 2 ^ i % 2 := by
        split
        · have : 2 ^ n = 2 ^ i * (2 * 2 ^ (n - i - 1)) := by
            rw [← Nat.pow_succ', ← Nat.pow_add]
            congr 1
            omega
          rw [this, Nat.add_mul_div_left _ _ (Nat.two_pow_pos i), Nat.add_mul_mod_self_left]
        · simp
      rw [e, ih]
      congr 1
      apply propext
      constructor
      · rintro ⟨_, h2⟩; exact ⟨by omega, h2⟩
      · rintro ⟨_, h2⟩; exact ⟨h, h2⟩
    · subst h
      split
      · rename_i hp
        rw [Nat.add_div_right _ (Nat.two_pow_pos i), Nat.div_eq_of_lt hlt]
        simp [hp]
      · rename_i hp
        rw [Nat.add_zero, Nat.div_eq_of_lt hlt]
        simp [hp]
    · have : setN p n + (if p n = true then 2 ^ n else 0) < 2 ^ i := by
        have h1 : 2 ^ (n + 1) ≤ 2 ^ i := Nat.pow_le_pow_right (by omega) (by omega)
        rw [Nat.pow_succ] at h1
        split <;> omega
      rw [Nat.div_eq_of_lt this]
      simp
      intro h1
      omega
end Go.Proofs.Ytafmgmaelnpehaa
end

section
set_option linter.unusedVariables false
set_option linter.unusedSimpArgs false
namespace Go.Proofs.Ytafmgmaelnpehaa
open Go.RowKit Go.Fu
theorem bendI_nn (a b c : Int) : 0 ≤ bendI a b c := by unfold bendI; split <;> omega
theorem bnd_nn (x : Nat → Int) (n : Nat) : 0 ≤ bnd x n := bendI_nn _ _ _
def allBends (A B C : List Int) : List Int := A.flatMap fun a => B.flatMap fun b => C.map fun c => bendI a b c
theorem stA_eq (A B C : List Int) (st : Bool × Int × Int) : stA A B C st = (allBends A B C).foldl step1 st := by
  unfold stA allBends stB stC
  rw [List.foldl_flatMap]
  congr 1
  funext s a
  rw [List.foldl_flatMap]
  congr 1
  funext s b
  rw [List.foldl_map]
theorem step_fold : ∀ (L : List Int) (lo hi : Int), lo ≤ hi → ∃ lo' hi', L.foldl step1 (true, lo, hi) = (true, lo', hi') ∧ lo' ≤ lo ∧ hi ≤ hi' ∧ (lo' = lo ∨ lo' ∈ L) ∧ (hi' = hi ∨ hi' ∈ L) ∧ ∀ v ∈ L, lo' ≤ v ∧ v ≤ hi'
  | [], lo, hi, h => ⟨lo, hi, rfl, Int.le_refl _, Int.le_refl _, .inl rfl, .inl rfl, fun v hv => by cases hv⟩
  | v :: L, lo, hi, h => by
    obtain ⟨lo', hi', h1, h2, h3, h4, h5, h6⟩ := step_fold L (if v < lo then v else lo) (if hi < v then v else hi) (by split <;> split <;> omega)
    refine ⟨lo', hi', ?_, ?_, ?_, ?_, ?_, ?_⟩
    · rw [List.foldl_cons]; exact h1
    · split at h2 <;> omega
    · split at h3 <;> omega
    · rcases h4 with h4 | h4
      · split at h4
        · exact .inr (by rw [h4]; exact List.mem_cons_self)
        · exact .inl h4
      · exact .inr (List.mem_cons_of_mem _ h4)
    · rcases h5 with h5 | h5
      · split at h5
        · exact .inr (by rw [h5]; exact List.mem_cons_self)
        · exact .inl h5
      · exact .inr (List.mem_cons_of_mem _ h5)
    · intro u hu
      rcases List.mem_cons.1 hu with rfl | hu
      · constructor
        · split at h2 <;> omega
        · split at h3 <;> omega
      · exact h6 u hu
theorem fold_spec (L : List Int) (hL : L ≠ []) : ((L.foldl step1 (false, 0, 0)).2.1 ∈ L ∧ (L.foldl step1 (false, 0, 0)).2.2 ∈ L) ∧ ∀ v ∈ L, (L.foldl step1 (false, 0, 0)).2.1 ≤ v ∧ v ≤ (L.foldl step1 (false, 0, 0)).2.2 := by
  cases L with
  | nil => exact absurd rfl hL
  | cons v L =>
    have e : (v :: L).foldl step1 (false, 0, 0) = L.foldl step1 (true, v, v) := rfl
    obtain ⟨lo', hi', h1, h2, h3, h4, h5, h6⟩ := step_fold L v v (Int.le_refl _)
    rw [e, h1]
    refine ⟨⟨?_, ?_⟩, fun u hu => ?_⟩
    · rcases h4 with h4 | h4
      · show lo' ∈ _; rw [h4]; exact List.mem_cons_self
      · exact List.mem_cons_of_mem _ h4
    · rcases h5 with h5 | h5
      · show hi' ∈ _; rw [h5]; exact List.mem_cons_self
      · exact List.mem_cons_of_mem _ h5
    · rcases List.mem_cons.1 hu with rfl | hu
      · exact ⟨h2, h3⟩
      · exact h6 u hu
theorem mem_bends (A B C : List Int) (v : Int) : v ∈ allBends A B C ↔ ∃ a ∈ A, ∃ b ∈ B, ∃ c ∈ C, bendI a b c = v := by simp [allBends]
/-- Three offsets beside one another are those of some truth. -/
theorem truth_three {l : List (Int × Int)} (hok : ∀ x ∈ l, okSpan x) {n : Nat} (h1 : 1 ≤ n) (h2 : n + 1 < l.length) {a b c : Int} (ha : InS l (n - 1) a) (hb : InS l n b) (hc : InS l (n + 1) c) : ∃ x, Truth l x ∧ bnd x n = bendI a b c := by
  refine ⟨fun i => if i = n - 1 then a else if i = n then b else if i = n + 1 then c else (l.getD i (0, 0)).1, fun i hi => ?_, ?_⟩
  · simp only
    by_cases e1 : i = n - 1
    · rw [if_pos e1, e1]; exact ha
    · rw [if_neg e1]
      by_cases e2 : i = n
      · rw [if_pos e2, e2]; exact hb
      · rw [if_neg e2]
        by_cases e3 : i = n + 1
        · rw [if_pos e3, e3]; exact hc
        · rw [if_neg e3]; exact lo_in hok i hi
  · unfold bnd
    simp only
    simp only [if_true, show n ≠ n - 1 by omega, show n + 1 ≠ n - 1 by omega, show n + 1 ≠ n by omega, if_false]
structure AtSpec (l : List (Int × Int)) (n : Nat) (s : Int × Int) : Prop where
  all : ∀ x, Truth l x → s.1 ≤ bnd x n ∧ bnd x n ≤ s.2
  lo : ∃ x, Truth l x ∧ bnd x n = s.1
  hi : ∃ x, Truth l x ∧ bnd x n = s.2
theorem at_spec (l : List (Int × Int)) (n : Nat) (h1 : 1 ≤ n) (h2 : n + 1 < l.length) (hok : ∀ x ∈ l, okSpan x) : AtSpec l n (atF l n) := by
  have hm : ∀ v, v ∈ allBends (spanL (l.getD (n - 1) (0, 0))) (spanL (l.getD n (0, 0))) (spanL (l.getD (n + 1) (0, 0))) ↔ ∃ a, InS l (n - 1) a ∧ ∃ b, InS l n b ∧ ∃ c, InS l (n + 1) c ∧ bendI a b c = v := by
    intro v
    rw [mem_bends]
    simp only [mem_in]
  have he : atF l n = ((allBends (spanL (l.getD (n - 1) (0, 0))) (spanL (l.getD n (0, 0))) (spanL (l.getD (n + 1) (0, 0)))).foldl step1 (false, 0, 0)).2 := by
    unfold atF
    rw [stA_eq]
  have hne : allBends (spanL (l.getD (n - 1) (0, 0))) (spanL (l.getD n (0, 0))) (spanL (l.getD (n + 1) (0, 0))) ≠ [] := by
    intro e
    have := (hm (bendI (l.getD (n - 1) (0, 0)).1 (l.getD n (0, 0)).1 (l.getD (n + 1) (0, 0)).1)).2 ⟨_, lo_in hok _ (by omega), _, lo_in hok _ (by omega), _, lo_in hok _ (by omega), rfl⟩
    rw [e] at this
    cases this
  obtain ⟨⟨s1, s2⟩, s3⟩ := fold_spec _ hne
  rw [← he] at s1 s2 s3
  refine ⟨fun x hx => s3 _ ((hm _).2 ⟨_, hx _ (by omega), _, hx _ (by omega), _, hx _ h2, rfl⟩), ?_, ?_⟩
  · obtain ⟨a, ha, b, hb, c, hc, e⟩ := (hm _).1 s1
    obtain ⟨x, hx, hbx⟩ := truth_three hok h1 h2 ha hb hc
    exact ⟨x, hx, hbx.trans e⟩
  · obtain ⟨a, ha, b, hb, c, hc, e⟩ := (hm _).1 s2
    obtain ⟨x, hx, hbx⟩ := truth_three hok h1 h2 ha hb hc
    exact ⟨x, hx, hbx.trans e⟩
/-- The greatest bend at the stations 1 to k. -/
def mostF (x : Nat → Int) : Nat → Int
  | 0 => 0
  | k + 1 => if mostF x k < bnd x (k + 1) then bnd x (k + 1) else mostF x k
theorem mostF_nn (x : Nat → Int) : ∀ k, 0 ≤ mostF x k
  | 0 => Int.le_refl _
  | k + 1 => by have := mostF_nn x k; have := bnd_nn x (k + 1); unfold mostF; split <;> omega
theorem mostF_le (x : Nat → Int) (m : Int) (hm : 0 ≤ m) : ∀ k, mostF x k ≤ m ↔ ∀ n, 1 ≤ n → n ≤ k → bnd x n ≤ m
  | 0 => ⟨fun _ n h1 h2 => by omega, fun _ => hm⟩
  | k + 1 => by
    have ih := mostF_le x m hm k
    unfold mostF
    constructor
    · intro h n h1 h2
      by_cases e : n = k + 1
      · subst e; split at h <;> omega
      · exact ih.1 (by split at h <;> omega) n h1 (by omega)
    · intro h
      have h3 := h (k + 1) (by omega) (Nat.le_refl _)
      have h4 := ih.2 fun n h1 h2 => h n h1 (by omega)
      split <;> omega
theorem mostF_at (x : Nat → Int) : ∀ k, mostF x k = 0 ∨ ∃ n, 1 ≤ n ∧ n ≤ k ∧ bnd x n = mostF x k
  | 0 => .inl rfl
  | k + 1 => by
    unfold mostF
    split
    · exact .inr ⟨k + 1, by omega, Nat.le_refl _, rfl⟩
    · rcases mostF_at x k with h | ⟨n, h1, h2, h3⟩
      · exact .inl h
      · exact .inr ⟨n, h1, by omega, h3⟩
/-- The bend of the furrow that lies so. -/
def mostL (l : List (Int × Int)) (x : Nat → Int) : Int := mostF x (l.length - 2)
theorem mostL_le {l : List (Int × Int)} {x : Nat → Int} {m : Int} (hm : 0 ≤ m) : mostL l x ≤ m ↔ ∀ n, 1 ≤ n → n + 1 < l.length → bnd x n ≤ m := by
  unfold mostL
  rw [mostF_le x m hm]
  exact ⟨fun h n h1 h2 => h n h1 (by omega), fun h n h1 h2 => h n h1 (by omega)⟩
theorem bnd_le_most {l : List (Int × Int)} {x : Nat → Int} {n : Nat} (h1 : 1 ≤ n) (h2 : n + 1 < l.length) : bnd x n ≤ mostL l x := (mostL_le (mostF_nn x _)).1 (Int.le_refl _) n h1 h2
theorem canB_most {l : List (Int × Int)} (hok : ∀ x ∈ l, okSpan x) {m : Int} (hm : 0 ≤ m) : canB l (upP m) = true ↔ ∃ x, Truth l x ∧ mostL l x ≤ m := by
  rw [canB_iff l _ hok]
  constructor
  · rintro ⟨x, hx, h⟩
    exact ⟨x, hx, (mostL_le hm).2 fun n h1 h2 => of_decide_eq_true (h n h1 h2)⟩
  · rintro ⟨x, hx, h⟩
    exact ⟨x, hx, fun n h1 h2 => decide_eq_true ((mostL_le hm).1 h n h1 h2)⟩
theorem least_spec (l : List (Int × Int)) (hok : ∀ x ∈ l, okSpan x) : (∃ x, Truth l x ∧ mostL l x = leastN l) ∧ ∀ x, Truth l x → (leastN l : Int) ≤ mostL l x := by
  have hl := leastN_is l hok
  have hall : ∀ x, Truth l x → (leastN l : Int) ≤ mostL l x := by
    intro x hx
    refine Int.not_lt.1 fun hlt => ?_
    have h0 := mostF_nn x (l.length - 2)
    obtain ⟨k, hk⟩ : ∃ k : Nat, mostL l x = k := ⟨(mostL l x).toNat, by unfold mostL; omega⟩
    have h1 := hl.2 k (by omega)
    have h2 := (canB_most hok (m := (k : Int)) (by omega)).2 ⟨x, hx, by omega⟩
    rw [h1] at h2
    cases h2
  obtain ⟨x, hx, hm⟩ := (canB_most hok (m := ((leastN l : Nat) : Int)) (by omega)).1 hl.1
  exact ⟨⟨x, hx, by have := hall x hx; omega⟩, hall⟩
theorem lo_truth {l : List (Int × Int)} (hok : ∀ x ∈ l, okSpan x) : Truth l fun i => (l.getD i (0, 0)).1 := fun i hi => lo_in hok i hi
theorem hiF_all (l : List (Int × Int)) (hok : ∀ x ∈ l, okSpan x) : ∀ k, k + 2 ≤ l.length ∨ k = 0 → 0 ≤ hiF l k ∧ (∀ n, 1 ≤ n → n ≤ k → (atF l n).2 ≤ hiF l k) ∧ (hiF l k = 0 ∨ ∃ n, 1 ≤ n ∧ n ≤ k ∧ (atF l n).2 = hiF l k)
  | 0, _ => ⟨Int.le_refl _, fun n h1 h2 => by omega, .inl rfl⟩
  | k + 1, h => by
    obtain ⟨i1, i2, i3⟩ := hiF_all l hok k (by omega)
    unfold hiF
    refine ⟨by split <;> omega, fun n h1 h2 => ?_, ?_⟩
    · by_cases e : n = k + 1
      · subst e; split <;> omega
      · have := i2 n h1 (by omega); split <;> omega
    · split
      · exact .inr ⟨k + 1, by omega, Nat.le_refl _, rfl⟩
      · rcases i3 with i3 | ⟨n, h1, h2, h3⟩
        · exact .inl i3
        · exact .inr ⟨n, h1, by omega, h3⟩
theorem hi_spec (l : List (Int × Int)) (hok : ∀ x ∈ l, okSpan x) : (∃ x, Truth l x ∧ mostL l x = hiF l (l.length - 2)) ∧ ∀ x, Truth l x → mostL l x ≤ hiF l (l.length - 2) := by
  obtain ⟨i1, i2, i3⟩ := hiF_all l hok (l.length - 2) (by omega)
  have hall : ∀ x, Truth l x → mostL l x ≤ hiF l (l.length - 2) := fun x hx => (mostL_le i1).2 fun n h1 h2 => Int.le_trans ((at_spec l n h1 h2 hok).all x hx).2 (i2 n h1 (by omega))
  refine ⟨?_, hall⟩
  rcases i3 with i3 | ⟨n, h1, h2, h3⟩
  · refine ⟨_, lo_truth hok, ?_⟩
    have := hall _ (lo_truth hok)
    have := mostF_nn (fun i => (l.getD i (0, 0)).1) (l.length - 2)
    unfold mostL at *
    omega
  · obtain ⟨x, hx, hb⟩ := (at_spec l n h1 (by omega) hok).hi
    refine ⟨x, hx, ?_⟩
    have := hall x hx
    have := bnd_le_most (l := l) (x := x) h1 (by omega)
    omega
/-! ### Where it bends most -/
theorem worstC_iff (l : List (Int × Int)) (n : Nat) (h1 : 1 ≤ n) (h2 : n + 1 < l.length) (hok : ∀ x ∈ l, okSpan x) : worstC l n = true ↔ ∃ x, Truth l x ∧ ∀ i, 1 ≤ i → i + 1 < l.length → bnd x i ≤ bnd x n := by
  have hs := at_spec l n h1 h2 hok
  unfold worstC
  simp only [Bool.and_eq_true, decide_eq_true_eq, List.any_eq_true, h1, true_and]
  constructor
  · rintro ⟨own, ho, hc⟩
    obtain ⟨x, hx, hp⟩ := (canB_iff l _ hok).1 hc
    refine ⟨x, hx, fun i i1 i2 => ?_⟩
    have hn := hp n h1 h2
    have hi := hp i i1 i2
    unfold wp1 at hn hi
    simp only [Bool.or_eq_true, decide_eq_true_eq, Bool.and_eq_true, Bool.not_eq_true', decide_eq_false_iff_not] at hn hi
    rcases hn with hn | hn
    · rcases hi with hi | hi <;> omega
    · exact absurd trivial hn.2
  · rintro ⟨x, hx, hm⟩
    refine ⟨bnd x n, (mem_spanL _ _).2 (hs.all x hx), (canB_iff l _ hok).2 ⟨x, hx, fun i i1 i2 => ?_⟩⟩
    unfold wp1
    simp only [Bool.or_eq_true, decide_eq_true_eq, Bool.and_eq_true, Bool.not_eq_true', decide_eq_false_iff_not]
    have := hm i i1 i2
    by_cases e : bnd x i = bnd x n
    · exact .inl e
    · refine .inr ⟨by omega, fun e2 => e ?_⟩
      have : i = n := by exact_mod_cast e2
      rw [this]
theorem worstS_iff (l : List (Int × Int)) (n : Nat) (h1 : 1 ≤ n) (h2 : n + 1 < l.length) (hok : ∀ x ∈ l, okSpan x) : worstS l n = true ↔ ∀ x, Truth l x → ∀ i, 1 ≤ i → i + 1 < l.length → bnd x i ≤ bnd x n := by
  have hs := at_spec l n h1 h2 hok
  unfold worstS
  simp only [Bool.and_eq_true, decide_eq_true_eq, Bool.not_eq_true', h1, true_and, List.any_eq_false]
  constructor
  · intro h x hx i i1 i2
    refine Int.not_lt.1 fun hlt => ?_
    have hne : i ≠ n := by rintro rfl; omega
    refine h (bnd x n) ((mem_spanL _ _).2 (hs.all x hx)) ?_
    unfold lessO
    rw [List.any_eq_true]
    refine ⟨i, List.mem_range.2 (by omega), ?_⟩
    simp only [Bool.and_eq_true, decide_eq_true_eq, Bool.not_eq_true', decide_eq_false_iff_not]
    refine ⟨⟨i1, hne⟩, (canB_iff l _ hok).2 ⟨x, hx, fun m m1 m2 => ?_⟩⟩
    unfold wp2
    simp only [Bool.or_eq_true, decide_eq_true_eq, Bool.and_eq_true, Bool.not_eq_true', decide_eq_false_iff_not]
    constructor
    · by_cases e : m = n
      · exact .inr (by rw [e])
      · exact .inl (by omega)
    · by_cases e : m = i
      · exact .inr (by rw [e]; exact hlt)
      · exact .inl (by omega)
  · intro h own ho hl
    unfold lessO at hl
    rw [List.any_eq_true] at hl
    obtain ⟨i, hi, hc⟩ := hl
    simp only [Bool.and_eq_true, decide_eq_true_eq, Bool.not_eq_true', decide_eq_false_iff_not] at hc
    have hir := List.mem_range.1 hi
    obtain ⟨x, hx, hp⟩ := (canB_iff l _ hok).1 hc.2
    have a := hp n h1 h2
    have b := hp i hc.1.1 (by omega)
    unfold wp2 at a b
    simp only [Bool.or_eq_true, decide_eq_true_eq, Bool.and_eq_true, Bool.not_eq_true', decide_eq_false_iff_not] at a b
    have := h x hx i hc.1.1 (by omega)
    have ha : bnd x n = own := by rcases a.1 with a | a <;> first | exact a | exact absurd trivial a
    have hb : own < bnd x i := by rcases b.2 with b | b <;> first | exact b | exact absurd trivial b
    omega
end Go.Proofs.Ytafmgmaelnpehaa
end

section
namespace Go.Proofs.Ytafmgmaelnpehaa.PFurrowAsks
open Go.RowKit Go.Proofs.YtafmgmaelnpehaaW.PrintWords Go.Proofs.YtafmgmaelnpehaaW.PrintLast Go.Proofs.YtafmgmaelnpehaaW.PrintMore
attribute [local go_sem] max2_int min2_int max_two min_two max_three min_three max_four min_four   -- for this text's walks alone
set_option linter.unusedVariables false
set_option linter.unusedSimpArgs false

/-! ### furrowworksref04_power: function 63 -/
def furrowworksref04_power.l0 : Nat → Int → Int → Int → Option (Int)
  | 0, _, _, _ => none
  | k + 1, x0, x3, x4 => if x4 < x0 then (furrowworksref04_power.l0 k x0 (wrap64 (2 * x3)) (wrap64 (x4 + 1))) else (some x3)
def furrowworksref04_power.f (k : Nat) (a0 : Int) : Option (Int) := furrowworksref04_power.l0 k a0 1 0
theorem furrowworksref04_power.mono_l : ∀ k, (∀ y0 y1 y2, LeO (furrowworksref04_power.l0 k y0 y1 y2) (furrowworksref04_power.l0 (k + 1) y0 y1 y2))
  | 0 => fun _ _ _ r h => by simp [furrowworksref04_power.l0] at h
  | k + 1 => by
    have ih0 := furrowworksref04_power.mono_l k
    · intro y0 y1 y2
      unfold furrowworksref04_power.l0
      repeat' first
      | (with_reducible exact ih0 _ _ _)
      | (with_reducible exact LeO.refl _)
      | (with_reducible exact LeO.none _)
      | (with_reducible refine LeO.ite ?_ ?_)
      | (with_reducible refine LeO.bind ?_ (fun _ => ?_))
      | exact ih0 _ _ _
      | exact LeO.none _
      | refine LeO.ite ?_ ?_
      | refine LeO.bind ?_ (fun _ => ?_)
theorem furrowworksref04_power.mono : ∀ a0 k, LeO (furrowworksref04_power.f k a0) (furrowworksref04_power.f (k + 1) a0) := by
  intro a0 k
  have ih0 := furrowworksref04_power.mono_l k
  unfold furrowworksref04_power.f
  repeat' first
      | (with_reducible exact ih0 _ _ _)
      | (with_reducible exact LeO.refl _)
      | (with_reducible exact LeO.none _)
      | (with_reducible refine LeO.ite ?_ ?_)
      | (with_reducible refine LeO.bind ?_ (fun _ => ?_))
      | exact ih0 _ _ _
      | exact LeO.none _
      | refine LeO.ite ?_ ?_
      | refine LeO.bind ?_ (fun _ => ?_)
set_option maxHeartbeats 8000000 in
set_option maxRecDepth 100000 in
theorem furrowworksref04_power.calls (k : Nat) (a0 : Int) (r : Int) (w : World) (h : furrowworksref04_power.f k a0 = some r) :
    Calls Try.prog 63 #[.int .i64 a0] w fun e w' => e = .returned (.int .i64 r) ∧ Drawn0 w w' := by
  have H : (furrowworksref04_power.l0 k a0 1 0) = some r := h
  clear h
  have H' := Aside0.mk H
  clear H
  go_enter Try.func63, Try.ntmps63
  go_wp2
  go_loopg [3, 4] k (fun kq v3 v4 w' => ∃ (x3_1 : Int) (x4_1 : Int), v3 = .int .i64 x3_1 ∧ v4 = .int .i64 x4_1 ∧ Aside0 (furrowworksref04_power.l0 kq a0 x3_1 x4_1 = some r) ∧ Aside0 (kq ≤ k) ∧ Drawn0 w w')
  case atStart => exact ⟨(1), (0), (by first | rfl | (simp; done) | (simp [*]; done)), (by first | rfl | (simp; done) | (simp [*]; done)), H', ⟨Nat.le_refl _⟩, by repeat (first | exact Drawn0.refl _ | apply Drawn0.step)⟩
  case round =>
    clear H'
    obtain ⟨x3_1, x4_1, rfl, rfl, HA, HK1, ⟨m1, rfl⟩⟩ := hrel
    cases gk with
    | zero => exact absurd HA.out (by simp [furrowworksref04_power.l0])
    | succ k1 =>
      have H := HA.out
      clear HA
      simp only [furrowworksref04_power.l0] at H
      by_cases c2 : x4_1 < a0
      · rw [if_pos c2] at H
        have c2b0 : decide (x4_1 < a0) = true := decide_eq_true c2
        clear c2
        have H' := Aside0.mk H
        clear H
        go_wp2
        go_roundg k1
        case measure => have := HK1.out; omega
        case rel => exact ⟨(wrap64 (2 * x3_1)), (wrap64 (x4_1 + 1)), (by first | rfl | (simp; done) | (simp [*]; done)), (by first | rfl | (simp; done) | (simp [*]; done)), H', ⟨by have := HK1.out; omega⟩, by repeat (first | exact Drawn0.refl _ | apply Drawn0.step)⟩
      · rw [if_neg c2] at H
        have c2b0 : decide (x4_1 < a0) = false := decide_eq_false c2
        clear c2
        obtain rfl := Option.some.inj H
        go_wp2
        go_ret
        exact ⟨by first | rfl | (simp; done) | (simp [*]; done), by repeat (first | exact Drawn0.refl _ | apply Drawn0.step)⟩

end Go.Proofs.Ytafmgmaelnpehaa.PFurrowAsks
end

section
namespace Go.Proofs.Ytafmgmaelnpehaa.PFurrowAsks
open Go.RowKit Go.Proofs.YtafmgmaelnpehaaW.PrintWords Go.Proofs.YtafmgmaelnpehaaW.PrintLast Go.Proofs.YtafmgmaelnpehaaW.PrintMore
attribute [local go_sem] max2_int min2_int max_two min_two max_three min_three max_four min_four   -- for this text's walks alone
set_option linter.unusedVariables false
set_option linter.unusedSimpArgs false

/-! ### furrowworksref04_Size: function 37 -/
def furrowworksref04_Size.l0 : Nat → Int → Int → Option (Int)
  | 0, _, _ => none
  | k + 1, x0, x3 => if x0 > 0 then (furrowworksref04_Size.l0 k (wrap64 (Int.tdiv x0 2)) (wrap64 (x3 + (Int.tmod x0 2)))) else (some x3)
def furrowworksref04_Size.f (k : Nat) (a0 : Int) : Option (Int) := furrowworksref04_Size.l0 k a0 0
theorem furrowworksref04_Size.mono_l : ∀ k, (∀ y0 y1, LeO (furrowworksref04_Size.l0 k y0 y1) (furrowworksref04_Size.l0 (k + 1) y0 y1))
  | 0 => fun _ _ r h => by simp [furrowworksref04_Size.l0] at h
  | k + 1 => by
    have ih0 := furrowworksref04_Size.mono_l k
    · intro y0 y1
      unfold furrowworksref04_Size.l0
      repeat' first
      | (with_reducible exact ih0 _ _)
      | (with_reducible exact LeO.refl _)
      | (with_reducible exact LeO.none _)
      | (with_reducible refine LeO.ite ?_ ?_)
      | (with_reducible refine LeO.bind ?_ (fun _ => ?_))
      | exact ih0 _ _
      | exact LeO.none _
      | refine LeO.ite ?_ ?_
      | refine LeO.bind ?_ (fun _ => ?_)
theorem furrowworksref04_Size.mono : ∀ a0 k, LeO (furrowworksref04_Size.f k a0) (furrowworksref04_Size.f (k + 1) a0) := by
  intro a0 k
  have ih0 := furrowworksref04_Size.mono_l k
  unfold furrowworksref04_Size.f
  repeat' first
      | (with_reducible exact ih0 _ _)
      | (with_reducible exact LeO.refl _)
      | (with_reducible exact LeO.none _)
      | (with_reducible refine LeO.ite ?_ ?_)
      | (with_reducible refine LeO.bind ?_ (fun _ => ?_))
      | exact ih0 _ _
      | exact LeO.none _
      | refine LeO.ite ?_ ?_
      | refine LeO.bind ?_ (fun _ => ?_)
set_option maxHeartbeats 8000000 in
set_option maxRecDepth 100000 in
theorem furrowworksref04_Size.calls (k : Nat) (a0 : Int) (r : Int) (w : World) (h : furrowworksref04_Size.f k a0 = some r) :
    Calls Try.prog 37 #[.int .i64 a0] w fun e w' => e = .returned (.int .i64 r) ∧ Drawn0 w w' := by
  have H : (furrowworksref04_Size.l0 k a0 0) = some r := h
  clear h
  have H' := Aside0.mk H
  clear H
  go_enter Try.func37, Try.ntmps37
  go_wp2
  go_loopg [0, 3] k (fun kq v0 v3 w' => ∃ (x0_1 : Int) (x3_1 : Int), v0 = .int .i64 x0_1 ∧ v3 = .int .i64 x3_1 ∧ Aside0 (furrowworksref04_Size.l0 kq x0_1 x3_1 = some r) ∧ Aside0 (kq ≤ k) ∧ Drawn0 w w')
  case atStart => exact ⟨(a0), (0), (by first | rfl | (simp; done) | (simp [*]; done)), (by first | rfl | (simp; done) | (simp [*]; done)), H', ⟨Nat.le_refl _⟩, by repeat (first | exact Drawn0.refl _ | apply Drawn0.step)⟩
  case round =>
    clear H'
    obtain ⟨x0_1, x3_1, rfl, rfl, HA, HK1, ⟨m1, rfl⟩⟩ := hrel
    cases gk with
    | zero => exact absurd HA.out (by simp [furrowworksref04_Size.l0])
    | succ k1 =>
      have H := HA.out
      clear HA
      simp only [furrowworksref04_Size.l0] at H
      by_cases c2 : x0_1 > 0
      · rw [if_pos c2] at H
        have c2b0 : decide (0 < x0_1) = true := decide_eq_true c2
        clear c2
        have H' := Aside0.mk H
        clear H
        go_wp2
        go_roundg k1
        case measure => have := HK1.out; omega
        case rel => exact ⟨(wrap64 (Int.tdiv x0_1 2)), (wrap64 (x3_1 + (Int.tmod x0_1 2))), (by first | rfl | (simp; done) | (simp [*]; done)), (by first | rfl | (simp; done) | (simp [*]; done)), H', ⟨by have := HK1.out; omega⟩, by repeat (first | exact Drawn0.refl _ | apply Drawn0.step)⟩
      · rw [if_neg c2] at H
        have c2b0 : decide (0 < x0_1) = false := decide_eq_false c2
        clear c2
        obtain rfl := Option.some.inj H
        go_wp2
        go_ret
        exact ⟨by first | rfl | (simp; done) | (simp [*]; done), by repeat (first | exact Drawn0.refl _ | apply Drawn0.step)⟩

end Go.Proofs.Ytafmgmaelnpehaa.PFurrowAsks
end

section
namespace Go.Proofs.Ytafmgmaelnpehaa.PFurrowAsks
open Go.RowKit Go.Proofs.YtafmgmaelnpehaaW.PrintWords Go.Proofs.YtafmgmaelnpehaaW.PrintLast Go.Proofs.YtafmgmaelnpehaaW.PrintMore
attribute [local go_sem] max2_int min2_int max_two min_two max_three min_three max_four min_four   -- for this text's walks alone
set_option linter.unusedVariables false
set_option linter.unusedSimpArgs false

/-! ### furrowworksref04_bend: function 55 -/
def furrowworksref04_bend.f (l0 : List Int) (a1 : Int) : Option (Int) := if 0 ≤ a1 then (if a1 < (l0.length : Int) then (if 0 ≤ (wrap64 (a1 - 1)) then (if (wrap64 (a1 - 1)) < (l0.length : Int) then (if 0 ≤ (wrap64 (a1 + 1)) then (if (wrap64 (a1 + 1)) < (l0.length : Int) then (some (mx (wrap64 ((wrap64 ((wrap64 (2 * (rd l0 a1))) - (rd l0 (wrap64 (a1 - 1))))) - (rd l0 (wrap64 (a1 + 1))))) (wrap64 (-(wrap64 ((wrap64 ((wrap64 (2 * (rd l0 a1))) - (rd l0 (wrap64 (a1 - 1))))) - (rd l0 (wrap64 (a1 + 1))))))))) else (none)) else (none)) else (none)) else (none)) else (none)) else (none)
set_option maxHeartbeats 8000000 in
set_option maxRecDepth 100000 in
theorem furrowworksref04_bend.calls (A0 : Option Addr) (c0 : Nat) (l0 : List Int) (a1 : Int) (r : Int) (w : World) (hr0 : Kd.C (Kd.int .i64) w A0 l0.length l0) (hc0 : l0.length ≤ c0) (h : furrowworksref04_bend.f l0 a1 = some r) :
    Calls Try.prog 55 #[.slice A0 l0.length c0, .int .i64 a1] w fun e w' => e = .returned (.int .i64 r) ∧ Below w.heap.size w w' := by
  have HR0 := Aside0.mk hr0
  have HC0 := Aside0.mk hc0
  clear hr0 hc0
  have HB := Aside0.mk (Below.refl w.heap.size w)
  have H : (if 0 ≤ a1 then (if a1 < (l0.length : Int) then (if 0 ≤ (wrap64 (a1 - 1)) then (if (wrap64 (a1 - 1)) < (l0.length : Int) then (if 0 ≤ (wrap64 (a1 + 1)) then (if (wrap64 (a1 + 1)) < (l0.length : Int) then (some (mx (wrap64 ((wrap64 ((wrap64 (2 * (rd l0 a1))) - (rd l0 (wrap64 (a1 - 1))))) - (rd l0 (wrap64 (a1 + 1))))) (wrap64 (-(wrap64 ((wrap64 ((wrap64 (2 * (rd l0 a1))) - (rd l0 (wrap64 (a1 - 1))))) - (rd l0 (wrap64 (a1 + 1))))))))) else (none)) else (none)) else (none)) else (none)) else (none)) else (none)) = some r := h
  clear h
  by_cases c3 : 0 ≤ a1
  · rw [if_pos c3] at H
    have c3b0 : decide (0 ≤ a1) = true := decide_eq_true c3
    clear c3
    by_cases c4 : a1 < (l0.length : Int)
    · rw [if_pos c4] at H
      have c4b0 : decide (a1 < (l0.length : Int)) = true := decide_eq_true c4
      clear c4
      obtain ⟨ji5, hji5⟩ : ∃ j_ : Int, (wrap64 (a1 - 1)) = j_ := ⟨_, rfl⟩
      replace H : (if 0 ≤ (ji5) then (if (ji5) < (l0.length : Int) then (if 0 ≤ (wrap64 (a1 + 1)) then (if (wrap64 (a1 + 1)) < (l0.length : Int) then (some (mx (wrap64 ((wrap64 ((wrap64 (2 * (rd l0 a1))) - (rd l0 (ji5)))) - (rd l0 (wrap64 (a1 + 1))))) (wrap64 (-(wrap64 ((wrap64 ((wrap64 (2 * (rd l0 a1))) - (rd l0 (ji5)))) - (rd l0 (wrap64 (a1 + 1))))))))) else (none)) else (none)) else (none)) else (none)) = some r := by first | (rw [hji5] at H; exact H) | (simp only [hji5] at H ⊢; exact H)
      have hji5w : (IntKind.i64.wrap (a1 - 1)) = ji5 := (i64_w _).trans hji5
      by_cases c6 : 0 ≤ (ji5)
      · rw [if_pos c6] at H
        have c6b0 : decide (0 ≤ (ji5)) = true := decide_eq_true c6
        clear c6
        by_cases c7 : (ji5) < (l0.length : Int)
        · rw [if_pos c7] at H
          have c7b0 : decide ((ji5) < (l0.length : Int)) = true := decide_eq_true c7
          clear c7
          obtain ⟨ji8, hji8⟩ : ∃ j_ : Int, (wrap64 (a1 + 1)) = j_ := ⟨_, rfl⟩
          replace H : (if 0 ≤ (ji8) then (if (ji8) < (l0.length : Int) then (some (mx (wrap64 ((wrap64 ((wrap64 (2 * (rd l0 a1))) - (rd l0 (ji5)))) - (rd l0 (ji8)))) (wrap64 (-(wrap64 ((wrap64 ((wrap64 (2 * (rd l0 a1))) - (rd l0 (ji5)))) - (rd l0 (ji8)))))))) else (none)) else (none)) = some r := by first | (rw [hji8] at H; exact H) | (simp only [hji8] at H ⊢; exact H)
          have hji8w : (IntKind.i64.wrap (a1 + 1)) = ji8 := (i64_w _).trans hji8
          by_cases c9 : 0 ≤ (ji8)
          · rw [if_pos c9] at H
            have c9b0 : decide (0 ≤ (ji8)) = true := decide_eq_true c9
            clear c9
            by_cases c10 : (ji8) < (l0.length : Int)
            · rw [if_pos c10] at H
              have c10b0 : decide ((ji8) < (l0.length : Int)) = true := decide_eq_true c10
              clear c10
              obtain ⟨ji11, hji11⟩ : ∃ j_ : Int, (mx (wrap64 ((wrap64 ((wrap64 (2 * (rd l0 a1))) - (rd l0 (ji5)))) - (rd l0 (ji8)))) (wrap64 (-(wrap64 ((wrap64 ((wrap64 (2 * (rd l0 a1))) - (rd l0 (ji5)))) - (rd l0 (ji8))))))) = j_ := ⟨_, rfl⟩
              replace H : (some ji11) = some r := by first | (rw [hji11] at H; exact H) | (simp only [hji11] at H ⊢; exact H)
              have hji11_ : (if (wrap64 ((wrap64 ((wrap64 (2 * (rd l0 a1))) - (rd l0 (ji5)))) - (rd l0 (ji8)))) < (wrap64 (-(wrap64 ((wrap64 ((wrap64 (2 * (rd l0 a1))) - (rd l0 (ji5)))) - (rd l0 (ji8)))))) then (wrap64 (-(wrap64 ((wrap64 ((wrap64 (2 * (rd l0 a1))) - (rd l0 (ji5)))) - (rd l0 (ji8)))))) else (wrap64 ((wrap64 ((wrap64 (2 * (rd l0 a1))) - (rd l0 (ji5)))) - (rd l0 (ji8))))) = ji11 := hji11
              obtain rfl := Option.some.inj H
              have p164 : 0 ≤ (a1 : Int) := of_decide_eq_true (by first | (with_reducible assumption) | assumption)
              have q164 : a1 < (l0.length : Int) := of_decide_eq_true (by first | (with_reducible assumption) | assumption)
              obtain ⟨ad164, e164, hx164_0⟩ := Kd.at_int HR0.out a1 p164 q164
              cases e164
              replace p164 := eq_true p164
              replace q164 := eq_true q164
              have p165 : 0 ≤ ((ji5) : Int) := of_decide_eq_true (by first | (with_reducible assumption) | assumption)
              have q165 : (ji5) < (l0.length : Int) := of_decide_eq_true (by first | (with_reducible assumption) | assumption)
              obtain ⟨ad165, e165, hx165_0⟩ := Kd.at_int HR0.out (ji5) p165 q165
              obtain rfl : ad164 = ad165 := (by injection e165)
              replace p165 := eq_true p165
              replace q165 := eq_true q165
              have p166 : 0 ≤ ((ji8) : Int) := of_decide_eq_true (by first | (with_reducible assumption) | assumption)
              have q166 : (ji8) < (l0.length : Int) := of_decide_eq_true (by first | (with_reducible assumption) | assumption)
              obtain ⟨ad166, e166, hx166_0⟩ := Kd.at_int HR0.out (ji8) p166 q166
              obtain rfl : ad164 = ad166 := (by injection e166)
              replace p166 := eq_true p166
              replace q166 := eq_true q166
              go_enter Try.func55, Try.ntmps55
              go_wp2
              repeat (go_quiet (fail); try go_wp2)
              go_ret
              exact ⟨by first | rfl | (simp [errW_none, errW_some] <;> rfl) | (simp only [← hji5, ← hji8, ← hji11]; first | rfl | (simp [errW_none, errW_some] <;> rfl)) | (simp [*, errW_none, errW_some] <;> rfl), by repeat (first | (with_reducible first | exact HB.out | apply below_alloc | apply pw_below_drewN | apply below_drew1) | exact HB.out)⟩
            · rw [if_neg c10] at H
              exact absurd H (by simp)
          · rw [if_neg c9] at H
            exact absurd H (by simp)
        · rw [if_neg c7] at H
          exact absurd H (by simp)
      · rw [if_neg c6] at H
        exact absurd H (by simp)
    · rw [if_neg c4] at H
      exact absurd H (by simp)
  · rw [if_neg c3] at H
    exact absurd H (by simp)

end Go.Proofs.Ytafmgmaelnpehaa.PFurrowAsks
end

section
set_option linter.unusedVariables false
set_option linter.unusedSimpArgs false
namespace Go.Proofs.Ytafmgmaelnpehaa
open Go.RowKit Go.Fu PFurrowAsks Go.Proofs.YtafmgmaelnpehaaW.PrintWords
theorem wrap_id {a : Int} (h1 : -1000000000 ≤ a) (h2 : a ≤ 1000000000) : wrap64 a = a := by unfold wrap64; omega
theorem power_l (n : Nat) (hn : n ≤ 20) : ∀ (d i : Nat), i + d = n → Ev (fun k => furrowworksref04_power.l0 k n ((2 : Int) ^ i) i) ((2 : Int) ^ n)
  | 0, i, h => by
    refine ⟨1, fun k hk => ?_⟩
    obtain ⟨k, rfl⟩ : ∃ m, k = m + 1 := ⟨k - 1, by omega⟩
    simp only [furrowworksref04_power.l0]
    rw [if_neg (by omega), show i = n by omega]
  | d + 1, i, h => by
    refine Ev.step (f := fun k => furrowworksref04_power.l0 k n ((2 : Int) ^ (i + 1)) ((i + 1 : Nat) : Int)) (fun k => ?_) (power_l n hn d (i + 1) (by omega))
    have hp : (2 : Int) ^ i ≤ 1048576 := by
      have : (2 : Nat) ^ i ≤ 2 ^ 20 := Nat.pow_le_pow_right (by omega) (by omega)
      have h2 : ((2 ^ i : Nat) : Int) ≤ ((2 ^ 20 : Nat) : Int) := by exact_mod_cast this
      simpa using h2
    have h0 : 0 ≤ (2 : Int) ^ i := Int.pow_nonneg (by omega)
    simp only [furrowworksref04_power.l0]
    rw [if_pos (by omega), wrap_id (a := 2 * 2 ^ i) (by omega) (by omega), wrap_id (a := (i : Int) + 1) (by omega) (by omega), Int.pow_succ, Int.mul_comm]
    norm_cast
theorem power_ev (n : Nat) (hn : n ≤ 20) : Ev (fun k => furrowworksref04_power.f k n) ((2 : Int) ^ n) := power_l n hn n 0 (by omega)
theorem size_l : ∀ (j s c : Nat), s < 2 ^ j → j ≤ 8 → c + j ≤ 100 → Ev (fun k => furrowworksref04_Size.l0 k s c) (((c + ones j s : Nat) : Int))
  | 0, s, c, h, _, _ => by
    obtain rfl : s = 0 := by simpa using h
    refine ⟨1, fun k hk => ?_⟩
    obtain ⟨k, rfl⟩ : ∃ m, k = m + 1 := ⟨k - 1, by omega⟩
    simp only [furrowworksref04_Size.l0]
    rw [if_neg (by omega)]
    simp [ones]
  | j + 1, s, c, h, hj, hc => by
    have hs : s < 256 := Nat.lt_of_lt_of_le h (Nat.pow_le_pow_right (by omega) hj : 2 ^ (j + 1) ≤ 2 ^ 8)
    by_cases h0 : s = 0
    · subst h0
      have : ∀ j, ones j 0 = 0 := fun j => by induction j with
        | zero => rfl
        | succ j ih => simp [ones, ih]
      refine ⟨1, fun k hk => ?_⟩
      obtain ⟨k, rfl⟩ : ∃ m, k = m + 1 := ⟨k - 1, by omega⟩
      simp only [furrowworksref04_Size.l0]
      rw [if_neg (by omega), this]
      rfl
    · have ih := size_l j (s / 2) (c + s % 2) (by rw [Nat.pow_succ] at h; omega) (by omega) (by omega)
      refine Ev.step (f := fun k => furrowworksref04_Size.l0 k ((s / 2 : Nat) : Int) ((c + s % 2 : Nat) : Int)) (fun k => ?_) (by simpa [ones, Nat.add_assoc] using ih)
      simp only [furrowworksref04_Size.l0]
      have e1 : Int.tdiv (s : Int) 2 = ((s / 2 : Nat) : Int) := by rw [Int.tdiv_eq_ediv_of_nonneg (by omega)]; omega
      have e2 : Int.tmod (s : Int) 2 = ((s % 2 : Nat) : Int) := by rw [Int.tmod_eq_emod_of_nonneg (by omega)]; omega
      rw [if_pos (by omega), e1, e2, wrap_id (by omega) (by omega), wrap_id (by omega) (by omega)]
      norm_cast
theorem ones_le8 (j s : Nat) (h : s < 2 ^ j) (hj : j ≤ 8) : ones j s = ones 8 s := by
  have : ∀ (k j s : Nat), s < 2 ^ j → ones (j + k) s = ones j s := by
    intro k j
    induction j with
    | zero =>
      intro s h
      obtain rfl : s = 0 := by simpa using h
      have : ∀ j, ones j 0 = 0 := fun j => by induction j with
        | zero => rfl
        | succ j ih => simp [ones, ih]
      rw [this, this]
    | succ j ih =>
      intro s h
      rw [show j + 1 + k = (j + k) + 1 by omega]
      simp only [ones]
      rw [ih (s / 2) (by rw [Nat.pow_succ] at h; omega)]
  have := this (8 - j) j s h
  rw [show j + (8 - j) = 8 by omega] at this
  exact this.symm
theorem size_ev (s : Nat) (hs : s < 256) : Ev (fun k => furrowworksref04_Size.f k s) ((ones 8 s : Nat) : Int) := by
  have := size_l 8 s 0 hs (by omega) (by omega)
  rw [Nat.zero_add] at this
  exact this
/-- A bend of three offsets. -/
theorem bend_is (l : List Int) (n : Nat) (hl : l.length ≤ 100) (h1 : 1 ≤ n) (h2 : n + 1 < l.length) (hb : ∀ x ∈ l, -1000 ≤ x ∧ x ≤ 1000) : furrowworksref04_bend.f l n = some (bendI (l.getD (n - 1) 0) (l.getD n 0) (l.getD (n + 1) 0)) := by
  have g : ∀ i, i < l.length → -1000 ≤ l.getD i 0 ∧ l.getD i 0 ≤ 1000 := fun i hi => by
    rw [List.getD_eq_getElem?_getD, List.getElem?_eq_getElem hi]
    exact hb _ (List.getElem_mem hi)
  have a1 := g (n - 1) (by omega)
  have a2 := g n (by omega)
  have a3 := g (n + 1) (by omega)
  have n1 : wrap64 ((n : Int) - 1) = ((n - 1 : Nat) : Int) := by unfold wrap64; omega
  have n2 : wrap64 ((n : Int) + 1) = ((n + 1 : Nat) : Int) := by unfold wrap64; omega
  have r : ∀ i : Nat, rd l (i : Int) = l.getD i 0 := fun i => by unfold rd; rw [Int.toNat_natCast]
  unfold furrowworksref04_bend.f
  rw [n1, n2, r, r, r]
  generalize l.getD (n - 1) 0 = a at *
  generalize l.getD n 0 = b at *
  generalize l.getD (n + 1) 0 = c at *
  rw [if_pos (by omega), if_pos (by omega), if_pos (by omega), if_pos (by omega), if_pos (by omega), if_pos (by omega)]
  congr 1
  unfold mx bendI wrap64
  split <;> split <;> omega
end Go.Proofs.Ytafmgmaelnpehaa
end

section
namespace Go.Proofs.Ytafmgmaelnpehaa.PFurrowAsks
open Go.RowKit Go.Proofs.YtafmgmaelnpehaaW.PrintWords Go.Proofs.YtafmgmaelnpehaaW.PrintLast Go.Proofs.YtafmgmaelnpehaaW.PrintMore
attribute [local go_sem] max2_int min2_int max_two min_two max_three min_three max_four min_four   -- for this text's walks alone
set_option linter.unusedVariables false
set_option linter.unusedSimpArgs false

/-! ### furrowworksref04_Most: function 33 -/
def furrowworksref04_Most.l0 : Nat → List Int → Int → Int → Option (Int)
  | 0, _, _, _ => none
  | k + 1, x0, x3, x4 => if (wrap64 (x4 + 1)) < (x0.length : Int) then ((furrowworksref04_bend.f x0 x4).bind fun t167 => (furrowworksref04_Most.l0 k x0 (mx x3 t167) (wrap64 (x4 + 1)))) else (some x3)
def furrowworksref04_Most.f (k : Nat) (l0 : List Int) : Option (Int) := furrowworksref04_Most.l0 k l0 0 1
theorem furrowworksref04_Most.mono_l : ∀ k, (∀ y0 y1 y2, LeO (furrowworksref04_Most.l0 k y0 y1 y2) (furrowworksref04_Most.l0 (k + 1) y0 y1 y2))
  | 0 => fun _ _ _ r h => by simp [furrowworksref04_Most.l0] at h
  | k + 1 => by
    have ih0 := furrowworksref04_Most.mono_l k
    · intro y0 y1 y2
      unfold furrowworksref04_Most.l0
      repeat' first
      | (with_reducible exact ih0 _ _ _)
      | (with_reducible exact LeO.refl _)
      | (with_reducible exact LeO.none _)
      | (with_reducible refine LeO.ite ?_ ?_)
      | (with_reducible refine LeO.bind ?_ (fun _ => ?_))
      | exact ih0 _ _ _
      | exact LeO.none _
      | refine LeO.ite ?_ ?_
      | refine LeO.bind ?_ (fun _ => ?_)
theorem furrowworksref04_Most.mono : ∀ a0 k, LeO (furrowworksref04_Most.f k a0) (furrowworksref04_Most.f (k + 1) a0) := by
  intro a0 k
  have ih0 := furrowworksref04_Most.mono_l k
  unfold furrowworksref04_Most.f
  repeat' first
      | (with_reducible exact ih0 _ _ _)
      | (with_reducible exact LeO.refl _)
      | (with_reducible exact LeO.none _)
      | (with_reducible refine LeO.ite ?_ ?_)
      | (with_reducible refine LeO.bind ?_ (fun _ => ?_))
      | exact ih0 _ _ _
      | exact LeO.none _
      | refine LeO.ite ?_ ?_
      | refine LeO.bind ?_ (fun _ => ?_)
set_option maxHeartbeats 8000000 in
set_option maxRecDepth 100000 in
theorem furrowworksref04_Most.calls (k : Nat) (A0 : Option Addr) (c0 : Nat) (l0 : List Int) (r : Int) (w : World) (hr0 : Kd.C (Kd.int .i64) w A0 l0.length l0) (hc0 : l0.length ≤ c0) (h : furrowworksref04_Most.f k l0 = some r) :
    Calls Try.prog 33 #[.slice A0 l0.length c0] w fun e w' => e = .returned (.int .i64 r) ∧ Below w.heap.size w w' := by
  have HR0 := Aside0.mk hr0
  have HC0 := Aside0.mk hc0
  clear hr0 hc0
  have HB := Aside0.mk (Below.refl w.heap.size w)
  have H : (furrowworksref04_Most.l0 k l0 0 1) = some r := h
  clear h
  have H' := Aside0.mk H
  clear H
  go_enter Try.func33, Try.ntmps33
  go_wp2
  go_loopg [3, 4] k (fun kq v3 v4 w' => ∃ (x3_1 : Int) (x4_1 : Int), v3 = .int .i64 x3_1 ∧ v4 = .int .i64 x4_1 ∧ Aside0 (furrowworksref04_Most.l0 kq l0 x3_1 x4_1 = some r) ∧ Aside0 (kq ≤ k) ∧ Aside0 (Below w.heap.size w w'))
  case atStart => exact ⟨(0), (1), (by first | rfl | (simp; done) | (simp [*]; done)), (by first | rfl | (simp; done) | (simp [*]; done)), H', ⟨Nat.le_refl _⟩, ⟨by repeat (first | (with_reducible first | exact HB.out | apply below_alloc | apply pw_below_drewN | apply below_drew1) | exact HB.out)⟩⟩
  case round =>
    clear H'
    obtain ⟨x3_1, x4_1, rfl, rfl, HA, HK1, HB⟩ := hrel
    cases gk with
    | zero => exact absurd HA.out (by simp [furrowworksref04_Most.l0])
    | succ k1 =>
      have H := HA.out
      clear HA
      simp only [furrowworksref04_Most.l0] at H
      by_cases c2 : (wrap64 (x4_1 + 1)) < (l0.length : Int)
      · rw [if_pos c2] at H
        have c2b0 : decide ((wrap64 (x4_1 + 1)) < (l0.length : Int)) = true := decide_eq_true c2
        clear c2
        replace H := Option.bind_eq_some_iff.mp H
        obtain ⟨t167, A30, H⟩ := H
        replace H : (furrowworksref04_Most.l0 k1 l0 (mx x3_1 t167) (wrap64 (x4_1 + 1))) = some r := H
        have A3 := Aside0.mk A30
        clear A30
        obtain ⟨ji4, hji4⟩ : ∃ j_ : Int, (mx x3_1 t167) = j_ := ⟨_, rfl⟩
        replace H : (furrowworksref04_Most.l0 k1 l0 ji4 (wrap64 (x4_1 + 1))) = some r := by first | (rw [hji4] at H; exact H) | (simp only [hji4] at H ⊢; exact H)
        (try rw [hji4] at A3)
        have hji4_ : (if x3_1 < t167 then t167 else x3_1) = ji4 := hji4
        have H' := Aside0.mk H
        clear H
        go_wp2_with (first | ((with_reducible refine gate_callee (f := 55) rfl ?_); refine goesL_ (some 15) rfl rfl Try.func55 (by kernel_rfl) rfl #[.slice A0 l0.length c0, .int .i64 x4_1] rfl (by (try simp only [List.map_toArray, List.map_cons, List.map_nil]); first | done | rfl | (simp only [List.length_drop, List.length_take]; rfl)) ?_; (with_reducible refine (furrowworksref04_bend.calls _ _ l0 x4_1 t167 _ ?side1 ?side2 A3.out).mono ?_); (case side1 => repeat (first | exact (Kd.C_below HR0.out HB.out) | (with_reducible refine Kd.C_alloc ?_ _) | (with_reducible refine Kd.C_drewN ?_ _) | (with_reducible refine Kd.C_drew ?_))); (case side2 => exact HC0.out); rintro e w5 ⟨rfl, hb⟩; refine ⟨_, rfl, ?_⟩; have n0_ := Aside0.mk (below_step (by repeat (first | (with_reducible first | exact HB.out | apply below_alloc | apply pw_below_drewN | apply below_drew1) | exact HB.out)) hb); clear HB; have HB := n0_; clear n0_; (try clear hb); (try clear hb2); (try clear hk); (try clear hi)))
        go_roundg k1
        case measure => have := HK1.out; omega
        case rel => exact ⟨(ji4), (wrap64 (x4_1 + 1)), (by first | rfl | (simp; done) | (simp only [← hji4] <;> (first | rfl | simp)) | (simp [*]; done)), (by first | rfl | (simp; done) | (simp [*]; done)), H', ⟨by have := HK1.out; omega⟩, ⟨by repeat (first | (with_reducible first | exact HB.out | apply below_alloc | apply pw_below_drewN | apply below_drew1) | exact HB.out)⟩⟩
      · rw [if_neg c2] at H
        have c2b0 : decide ((wrap64 (x4_1 + 1)) < (l0.length : Int)) = false := decide_eq_false c2
        clear c2
        obtain rfl := Option.some.inj H
        go_wp2
        go_ret
        exact ⟨by first | rfl | (simp [errW_none, errW_some] <;> rfl) | (simp [*, errW_none, errW_some] <;> rfl), by repeat (first | (with_reducible first | exact HB.out | apply below_alloc | apply pw_below_drewN | apply below_drew1) | exact HB.out)⟩

end Go.Proofs.Ytafmgmaelnpehaa.PFurrowAsks
end

section
namespace Go.Proofs.Ytafmgmaelnpehaa.PFurrowAsks
open Go.RowKit Go.Proofs.YtafmgmaelnpehaaW.PrintWords Go.Proofs.YtafmgmaelnpehaaW.PrintLast Go.Proofs.YtafmgmaelnpehaaW.PrintMore
attribute [local go_sem] max2_int min2_int max_two min_two max_three min_three max_four min_four   -- for this text's walks alone
set_option linter.unusedVariables false
set_option linter.unusedSimpArgs false

/-! ### furrowworkslaw04_inside: function 34 -/
def furrowworkslaw04_inside.f (a0 : Int) (a1_0 : Int) (a1_1 : Int) : Option (Bool) := if a1_0 ≤ a0 then (some (decide (a0 ≤ a1_1))) else (some false)
set_option maxHeartbeats 8000000 in
set_option maxRecDepth 100000 in
theorem furrowworkslaw04_inside.calls (a0 : Int) (a1_0 : Int) (a1_1 : Int) (r : Bool) (w : World) (h : furrowworkslaw04_inside.f a0 a1_0 a1_1 = some r) :
    Calls Try.prog 34 #[.int .i64 a0, .agg #[.int .i64 a1_0, .int .i64 a1_1]] w fun e w' => e = .returned (.bool r) ∧ Below w.heap.size w w' := by
  have hu28 := Try.underlying28
  have HB := Aside0.mk (Below.refl w.heap.size w)
  have H : (if a1_0 ≤ a0 then (some (decide (a0 ≤ a1_1))) else (some false)) = some r := h
  clear h
  by_cases c3 : a1_0 ≤ a0
  · rw [if_pos c3] at H
    have c3b0 : decide (a1_0 ≤ a0) = true := decide_eq_true c3
    clear c3
    obtain rfl := Option.some.inj H
    go_enter Try.func34, Try.ntmps34
    go_wp2_with (first | ((with_reducible refine gate_dst (N := 3) rfl ?_); refine box_event ?hg (N := 3) ?hd (cs := #[.int .i64 a1_0, .int .i64 a1_1]) (t := 28) ?hr ?_; (case hd => rfl); (case hg => rfl); (case hr => first | (go_simp; done) | (go_simp; rfl)); intro gb359 hg w4 hbox hb; have n0_ := Aside0.mk (below_step (by repeat (first | (with_reducible first | exact HB.out | apply below_alloc | apply pw_below_drewN | apply below_drew1) | exact HB.out)) hb); have n1_ := Aside0.mk (hbox); have n2_ := Aside0.mk ((by rw [hg]; exact (below_size (by repeat (first | (with_reducible first | exact HB.out | apply below_alloc | apply pw_below_drewN | apply below_drew1) | exact HB.out))) : w.heap.size ≤ gb359)); have n3_ := Aside0.mk ((by rw [hg]; exact (below_size (by repeat (first | (with_reducible first | exact HB.out | apply below_alloc | apply pw_below_drewN | apply below_drew1) | exact HB.out))) : w.heap.size ≤ gb359)); clear HB; have HB := n0_; have BK359 := n1_; have GW359 := n2_; have GE359 := n3_; clear n0_ n1_ n2_ n3_; clear hb hbox hg; have hcz5_0 : w4.cell? ⟨gb359, 0, none⟩ = some (.int .i64 a1_0) := (blk_cell BK359.out 0).trans rfl; have hcz5_1 : w4.cell? ⟨gb359, 1, none⟩ = some (.int .i64 a1_1) := (blk_cell BK359.out 1).trans rfl; have hfz5_0 := blk_frozen BK359.out 0; have hfz5_1 := blk_frozen BK359.out 1))
    go_ret
    exact ⟨by first | rfl | (simp [errW_none, errW_some] <;> rfl) | (simp [*, errW_none, errW_some] <;> rfl), by repeat (first | (with_reducible first | exact HB.out | apply below_alloc | apply pw_below_drewN | apply below_drew1 | refine below_set ?_ GE359.out) | exact HB.out)⟩
  · rw [if_neg c3] at H
    have c3b0 : decide (a1_0 ≤ a0) = false := decide_eq_false c3
    clear c3
    obtain rfl := Option.some.inj H
    go_enter Try.func34, Try.ntmps34
    go_wp2_with (first | ((with_reducible refine gate_dst (N := 3) rfl ?_); refine box_event ?hg (N := 3) ?hd (cs := #[.int .i64 a1_0, .int .i64 a1_1]) (t := 28) ?hr ?_; (case hd => rfl); (case hg => rfl); (case hr => first | (go_simp; done) | (go_simp; rfl)); intro gb359 hg w6 hbox hb; have n0_ := Aside0.mk (below_step (by repeat (first | (with_reducible first | exact HB.out | apply below_alloc | apply pw_below_drewN | apply below_drew1) | exact HB.out)) hb); have n1_ := Aside0.mk (hbox); have n2_ := Aside0.mk ((by rw [hg]; exact (below_size (by repeat (first | (with_reducible first | exact HB.out | apply below_alloc | apply pw_below_drewN | apply below_drew1) | exact HB.out))) : w.heap.size ≤ gb359)); have n3_ := Aside0.mk ((by rw [hg]; exact (below_size (by repeat (first | (with_reducible first | exact HB.out | apply below_alloc | apply pw_below_drewN | apply below_drew1) | exact HB.out))) : w.heap.size ≤ gb359)); clear HB; have HB := n0_; have BK359 := n1_; have GW359 := n2_; have GE359 := n3_; clear n0_ n1_ n2_ n3_; clear hb hbox hg; have hcz7_0 : w6.cell? ⟨gb359, 0, none⟩ = some (.int .i64 a1_0) := (blk_cell BK359.out 0).trans rfl; have hcz7_1 : w6.cell? ⟨gb359, 1, none⟩ = some (.int .i64 a1_1) := (blk_cell BK359.out 1).trans rfl; have hfz7_0 := blk_frozen BK359.out 0; have hfz7_1 := blk_frozen BK359.out 1))
    go_ret
    exact ⟨by first | rfl | (simp [errW_none, errW_some] <;> rfl) | (simp [*, errW_none, errW_some] <;> rfl), by repeat (first | (with_reducible first | exact HB.out | apply below_alloc | apply pw_below_drewN | apply below_drew1 | refine below_set ?_ GE359.out) | exact HB.out)⟩

end Go.Proofs.Ytafmgmaelnpehaa.PFurrowAsks
end

section
namespace Go.Proofs.Ytafmgmaelnpehaa.PFurrowAsks
open Go.RowKit Go.Proofs.YtafmgmaelnpehaaW.PrintWords Go.Proofs.YtafmgmaelnpehaaW.PrintLast Go.Proofs.YtafmgmaelnpehaaW.PrintMore
attribute [local go_sem] max2_int min2_int max_two min_two max_three min_three max_four min_four   -- for this text's walks alone
set_option linter.unusedVariables false
set_option linter.unusedSimpArgs false

/-! ### furrowworksref04_Bent: function 35 -/
def furrowworksref04_Bent.f (l0 : List Int) (a1 : Int) : Option (Int) := (furrowworksref04_bend.f l0 a1).bind fun t360 => (some t360)
set_option maxHeartbeats 8000000 in
set_option maxRecDepth 100000 in
theorem furrowworksref04_Bent.calls (A0 : Option Addr) (c0 : Nat) (l0 : List Int) (a1 : Int) (r : Int) (w : World) (hr0 : Kd.C (Kd.int .i64) w A0 l0.length l0) (hc0 : l0.length ≤ c0) (h : furrowworksref04_Bent.f l0 a1 = some r) :
    Calls Try.prog 35 #[.slice A0 l0.length c0, .int .i64 a1] w fun e w' => e = .returned (.int .i64 r) ∧ Below w.heap.size w w' := by
  have HR0 := Aside0.mk hr0
  have HC0 := Aside0.mk hc0
  clear hr0 hc0
  have HB := Aside0.mk (Below.refl w.heap.size w)
  have H : ((furrowworksref04_bend.f l0 a1).bind fun t360 => (some t360)) = some r := h
  clear h
  replace H := Option.bind_eq_some_iff.mp H
  obtain ⟨t360, A30, H⟩ := H
  replace H : (some t360) = some r := H
  have A3 := Aside0.mk A30
  clear A30
  obtain rfl := Option.some.inj H
  go_enter Try.func35, Try.ntmps35
  go_wp2_with (first | ((with_reducible refine gate_callee (f := 55) rfl ?_); refine goesL_ (some 7) rfl rfl Try.func55 (by kernel_rfl) rfl #[.slice A0 l0.length c0, .int .i64 a1] rfl (by (try simp only [List.map_toArray, List.map_cons, List.map_nil]); first | done | rfl | (simp only [List.length_drop, List.length_take]; rfl)) ?_; (with_reducible refine (furrowworksref04_bend.calls _ _ l0 a1 t360 _ ?side1 ?side2 A3.out).mono ?_); (case side1 => repeat (first | exact HR0.out | (with_reducible refine Kd.C_alloc ?_ _) | (with_reducible refine Kd.C_drewN ?_ _) | (with_reducible refine Kd.C_drew ?_))); (case side2 => exact HC0.out); rintro e w4 ⟨rfl, hb⟩; refine ⟨_, rfl, ?_⟩; have n0_ := Aside0.mk (below_step (by repeat (first | (with_reducible first | exact HB.out | apply below_alloc | apply pw_below_drewN | apply below_drew1) | exact HB.out)) hb); clear HB; have HB := n0_; clear n0_; (try clear hb); (try clear hb2); (try clear hk); (try clear hi)))
  go_ret
  exact ⟨by first | rfl | (simp [errW_none, errW_some] <;> rfl) | (simp [*, errW_none, errW_some] <;> rfl), by repeat (first | (with_reducible first | exact HB.out | apply below_alloc | apply pw_below_drewN | apply below_drew1) | exact HB.out)⟩

end Go.Proofs.Ytafmgmaelnpehaa.PFurrowAsks
end

section
set_option linter.unusedVariables false
set_option linter.unusedSimpArgs false
namespace Go.Proofs.Ytafmgmaelnpehaa
open Go.RowKit Go.Fu PFurrowAsks Go.Proofs.YtafmgmaelnpehaaW.PrintWords
/-- A list of offsets, as a function of the station. -/
def fnOf (l : List Int) (i : Nat) : Int := l.getD i 0
theorem bend_fn (l : List Int) (n : Nat) (hl : l.length ≤ 100) (h1 : 1 ≤ n) (h2 : n + 1 < l.length) (hb : ∀ x ∈ l, -1000 ≤ x ∧ x ≤ 1000) : furrowworksref04_bend.f l n = some (bnd (fnOf l) n) := bend_is l n hl h1 h2 hb
theorem bent_is (l : List Int) (n : Nat) (hl : l.length ≤ 100) (h1 : 1 ≤ n) (h2 : n + 1 < l.length) (hb : ∀ x ∈ l, -1000 ≤ x ∧ x ≤ 1000) : furrowworksref04_Bent.f l n = some (bnd (fnOf l) n) := by
  unfold furrowworksref04_Bent.f
  rw [bend_fn l n hl h1 h2 hb]
  rfl
theorem most_l (l : List Int) (hl : l.length ≤ 100) (hb : ∀ x ∈ l, -1000 ≤ x ∧ x ≤ 1000) : ∀ (d i : Nat), i + d = l.length - 2 → Ev (fun k => furrowworksref04_Most.l0 k l (mostF (fnOf l) i) ((i + 1 : Nat) : Int)) (mostF (fnOf l) (l.length - 2))
  | 0, i, hd => by
    refine ⟨1, fun k hk => ?_⟩
    obtain ⟨m, rfl⟩ : ∃ m, k = m + 1 := ⟨k - 1, by omega⟩
    simp only [furrowworksref04_Most.l0]
    have hw : wrap64 (((i + 1 : Nat) : Int) + 1) = ((i + 2 : Nat) : Int) := by unfold wrap64; omega
    rw [hw, if_neg (by omega), show i = l.length - 2 by omega]
  | d + 1, i, hd => by
    have ih := most_l l hl hb d (i + 1) (by omega)
    refine Ev.step (fun k => ?_) ih
    simp only [furrowworksref04_Most.l0]
    have hw : wrap64 (((i + 1 : Nat) : Int) + 1) = ((i + 2 : Nat) : Int) := by unfold wrap64; omega
    rw [hw, if_pos (by omega), bend_fn l (i + 1) hl (by omega) (by omega) hb]
    have e : mx (mostF (fnOf l) i) (bnd (fnOf l) (i + 1)) = mostF (fnOf l) (i + 1) := by
      show mx _ _ = (if mostF (fnOf l) i < bnd (fnOf l) (i + 1) then bnd (fnOf l) (i + 1) else mostF (fnOf l) i)
      unfold mx
      split <;> (try split) <;> omega
    rw [Option.bind_some, e]
theorem most_is (l : List Int) (hl : l.length ≤ 100) (hb : ∀ x ∈ l, -1000 ≤ x ∧ x ≤ 1000) : ∃ k, furrowworksref04_Most.f k l = some (mostF (fnOf l) (l.length - 2)) := (most_l l hl hb (l.length - 2) 0 (by omega)).rounds
theorem inside_is (n a b : Int) : furrowworkslaw04_inside.f n a b = some (decide (a ≤ n) && decide (n ≤ b)) := by
  unfold furrowworkslaw04_inside.f
  by_cases h1 : a ≤ n <;> simp [h1]
/-! ### Bits -/
theorem andb_all : (List.range 256).all (fun s => (List.range 8).all fun k => bits .and .i64 ((s : Int) / 2 ^ k) 1 == ((s / 2 ^ k % 2 : Nat) : Int)) = true := by kernel_rfl
theorem andb_is (s k : Nat) (hs : s < 256) (hk : k < 8) : bits .and .i64 ((s : Int) / 2 ^ k) 1 = ((s / 2 ^ k % 2 : Nat) : Int) := by
  have h := List.all_eq_true.1 andb_all s (List.mem_range.2 hs)
  have h2 := List.all_eq_true.1 h k (List.mem_range.2 hk)
  exact eq_of_beq h2
theorem andn_all : (List.range 128).all (fun a => (List.range 128).all fun b => bits .andNot .i64 (a : Int) (b : Int) == 0 || (List.range 7).any fun i => a / 2 ^ i % 2 == 1 && b / 2 ^ i % 2 == 0) = true := by kernel_rfl
theorem andn_is (a b : Nat) (ha : a < 128) (hb : b < 128) (h : ∀ i, i < 7 → a / 2 ^ i % 2 = 1 → b / 2 ^ i % 2 = 1) : bits .andNot .i64 (a : Int) (b : Int) = 0 := by
  have h1 := List.all_eq_true.1 andn_all a (List.mem_range.2 ha)
  have h2 := List.all_eq_true.1 h1 b (List.mem_range.2 hb)
  rcases Bool.or_eq_true_iff.1 h2 with h3 | h3
  · exact eq_of_beq h3
  · obtain ⟨i, hi, h4⟩ := List.any_eq_true.1 h3
    rw [Bool.and_eq_true, beq_iff_eq, beq_iff_eq] at h4
    have := h i (List.mem_range.1 hi) h4.1
    omega
theorem set_sub {p q : Nat → Bool} {n : Nat} (h : ∀ i, i < n → p i = true → q i = true) (i : Nat) (hi : setN p n / 2 ^ i % 2 = 1) : setN q n / 2 ^ i % 2 = 1 := by
  rw [setN_bit] at hi ⊢
  split at hi
  · rename_i hc
    rw [if_pos ⟨hc.1, h i hc.1 hc.2⟩]
  · cases hi
/-! ### Other offsets, by numbers -/
def byAt (bs : List Int) (k : Nat) : Int := if bs.length = 0 then 0 else bs.getD (k % bs.length) 0
def oneX (l : List (Int × Int)) (bs : List Int) (k : Nat) : Int := (l.getD k (0, 0)).1 + (if bs.length = 0 then 0 else bs.getD (k % bs.length) 0 % ((l.getD k (0, 0)).2 - (l.getD k (0, 0)).1 + 1))
def oneL (l : List (Int × Int)) (bs : List Int) (n k : Nat) : List Int := (List.range n).map fun i => if i < k then oneX l bs i else 0
theorem oneL_len (l : List (Int × Int)) (bs : List Int) (n k : Nat) : (oneL l bs n k).length = n := by simp [oneL]
theorem oneL_zero (l : List (Int × Int)) (bs : List Int) (n : Nat) : oneL l bs n 0 = List.replicate n 0 := by
  apply List.ext_getElem
  · simp [oneL]
  · intro i h1 h2; simp [oneL]
theorem oneL_set (l : List (Int × Int)) (bs : List Int) (n k : Nat) (h : k < n) : (oneL l bs n k).set k (oneX l bs k) = oneL l bs n (k + 1) := by
  apply List.ext_getElem
  · simp [oneL]
  · intro i h1 h2
    rw [List.getElem_set]
    simp only [oneL, List.getElem_map, List.getElem_range]
    by_cases e : k = i
    · subst e; simp
    · rw [if_neg e]
      by_cases e2 : i < k
      · rw [if_pos e2, if_pos (by omega)]
      · rw [if_neg e2, if_neg (by omega)]
theorem oneX_in {l : List (Int × Int)} (hok : ∀ x ∈ l, okSpan x) {bs : List Int} (hbs : ∀ b ∈ bs, 0 ≤ b ∧ b ≤ 255) (k : Nat) (hk : k < l.length) : InS l k (oneX l bs k) := by
  obtain ⟨h1, h2, h3⟩ := hok _ (getD_mem l k hk)
  unfold InS oneX
  split
  · omega
  · have := Int.emod_nonneg (bs.getD (k % bs.length) 0) (show (l.getD k (0, 0)).2 - (l.getD k (0, 0)).1 + 1 ≠ 0 by omega)
    have := Int.emod_lt_of_pos (bs.getD (k % bs.length) 0) (show 0 < (l.getD k (0, 0)).2 - (l.getD k (0, 0)).1 + 1 by omega)
    omega
theorem one_truth {l : List (Int × Int)} (hok : ∀ x ∈ l, okSpan x) {bs : List Int} (hbs : ∀ b ∈ bs, 0 ≤ b ∧ b ≤ 255) : Truth l (fnOf (oneL l bs l.length l.length)) := by
  intro i hi
  have : fnOf (oneL l bs l.length l.length) i = oneX l bs i := by simp [fnOf, oneL, List.getD_eq_getElem?_getD, hi]
  rw [this]
  exact oneX_in hok hbs i hi
theorem truth_bd {l : List (Int × Int)} (hok : ∀ x ∈ l, okSpan x) {xs : List Int} (hx : xs.length = l.length) (ht : Truth l (fnOf xs)) : ∀ x ∈ xs, -1000 ≤ x ∧ x ≤ 1000 := by
  intro x hxm
  obtain ⟨i, hi, rfl⟩ := List.getElem_of_mem hxm
  have h1 := ht i (by omega)
  obtain ⟨h2, h3, h4⟩ := hok _ (getD_mem l i (by omega))
  unfold fnOf at h1
  rw [show xs.getD i 0 = xs[i] by simp [List.getD_eq_getElem?_getD, hi]] at h1
  obtain ⟨h5, h6⟩ := h1
  omega
end Go.Proofs.Ytafmgmaelnpehaa
end

section
set_option linter.unusedVariables false
set_option linter.unusedSimpArgs false
namespace Go.Proofs.Ytafmgmaelnpehaa
open Go.RowKit Go.TL Go.Shelf Go.Fu
attribute [local go_sem] Oper.semAt_some
open PFurrowAsks Go.Proofs.YtafmgmaelnpehaaW.PrintWords
abbrev RowB (w : World) (A : Option Addr) (l : List Int) : Prop := ReadsInt w .u8 A l.length l
theorem ints_set (l : List Int) (k : Nat) (v : Int) : (l.map (Value.int .i64)).set k (.int .i64 v) = (l.set k v).map (Value.int .i64) := by rw [List.map_set]
theorem own_book {w : World} {base n : Nat} {e : TypeId} {sz : Nat} {v : Value} {xs : List Value} (h : w.ownsRow base e sz v n xs) : ∀ j o, v.ownBlock = some j → w.heap[j]? = some o → book o = false := by
  intro j o hv ho
  rcases h.2 with ⟨rfl, _⟩ | ⟨g', cap', cur, rfl, _, hg', _⟩
  · simp [Value.ownBlock] at hv
  · simp only [Value.ownBlock, Option.some.injEq] at hv
    subst hv
    rw [hg'] at ho
    cases ho
    rfl
/-- What the loop keeps. -/
structure OneK (F : Fur) (V : World) (nb : Nat) (Ab : Option Addr) (bs : List Int) : Prop where
  at_ : F.At V
  box : Box3 V nb 24 F.s0 F.s1 F.s2
  by_ : RowB V Ab bs
  le : F.l0.length ≤ 8
  ok : ∀ x ∈ F.pl, ok12 x
  bs_ : ∀ b ∈ bs, 0 ≤ b ∧ b ≤ 255
theorem cell_off {X : World} {b g o k : Nat} {u : Value} (h : b ≠ g) : (X.setCell ⟨g, k, none⟩ u).cell? ⟨b, o, none⟩ = X.cell? ⟨b, o, none⟩ := by
  unfold World.cell?
  rw [show (X.setCell ⟨g, k, none⟩ u).heap[b]? = X.heap[b]? from Below.heap_setCell X ⟨g, k, none⟩ u b h]
theorem oneX_is {F : Fur} {bs : List Int} {k : Nat} {x y : Int} (hk : F.pl.getD k (0, 0) = (x, y)) : oneX F.pl bs k = x + (if bs.length = 0 then 0 else bs.getD (k % bs.length) 0 % (y - x + 1)) := by unfold oneX; rw [hk]
end Go.Proofs.Ytafmgmaelnpehaa
end

section
set_option linter.unusedVariables false
set_option linter.unusedSimpArgs false
namespace Go.Proofs.Ytafmgmaelnpehaa
open Go.RowKit Go.TL Go.Shelf Go.Fu
open PFurrowAsks Go.Proofs.YtafmgmaelnpehaaW.PrintWords
theorem refFurrow_c (F : Fur) (w : World) (h : F.At w) : Calls Try.prog 36 #[F.val] w fun e w' => e = .returned (.bool F.va) ∧ Below w.heap.size w w' :=
  furrowworksref04_Furrow.calls 20 F.A0 F.c0 F.l0 F.A1 F.c1 F.l1 F.A2 F.c2 F.l2 _ w h.r0 h.h0 h.r1 h.h1 h.r2 h.h2 (refFurrow_is _ _ _)
theorem most_c {A : Option Addr} {c : Nat} {l : List Int} {w : World} (hr : RowI w A l) (hc : l.length ≤ c) (hl : l.length ≤ 100) (hb : ∀ x ∈ l, -1000 ≤ x ∧ x ≤ 1000) :
    Calls Try.prog 33 #[.slice A l.length c] w fun e w' => e = .returned (.int .i64 (mostF (fnOf l) (l.length - 2))) ∧ Below w.heap.size w w' := by
  obtain ⟨k, hk⟩ := most_is l hl hb
  exact furrowworksref04_Most.calls k A c l _ w hr hc hk
theorem bent_c {A : Option Addr} {c : Nat} {l : List Int} {w : World} (hr : RowI w A l) (hc : l.length ≤ c) (hl : l.length ≤ 100) (hb : ∀ x ∈ l, -1000 ≤ x ∧ x ≤ 1000) {n : Nat} (h1 : 1 ≤ n) (h2 : n + 1 < l.length) :
    Calls Try.prog 35 #[.slice A l.length c, .int .i64 n] w fun e w' => e = .returned (.int .i64 (bnd (fnOf l) n)) ∧ Below w.heap.size w w' :=
  furrowworksref04_Bent.calls A c l n _ w hr hc (bent_is l n hl h1 h2 hb)
theorem inside_c (n a b : Int) (w : World) : Calls Try.prog 34 #[.int .i64 n, .agg #[.int .i64 a, .int .i64 b]] w fun e w' => e = .returned (.bool (decide (a ≤ n) && decide (n ≤ b))) ∧ Below w.heap.size w w' :=
  furrowworkslaw04_inside.calls n a b _ w (inside_is n a b)
theorem size_c (s : Nat) (hs : s < 256) (w : World) : Calls Try.prog 37 #[.int .i64 s] w fun e w' => e = .returned (.int .i64 ((ones 8 s : Nat) : Int)) ∧ Below w.heap.size w w' := by
  obtain ⟨k, hk⟩ := (size_ev s hs).rounds
  exact (furrowworksref04_Size.calls k s _ w hk).mono fun e w' ⟨a, b⟩ => ⟨a, b.below⟩
/-! ### The stations that bend most -/
theorem worstS_pos {l : List (Int × Int)} {n : Nat} (h : worstS l n = true) : 1 ≤ n := by
  unfold worstS at h
  simp only [Bool.and_eq_true, decide_eq_true_eq] at h
  exact h.1
theorem worstC_pos {l : List (Int × Int)} {n : Nat} (h : worstC l n = true) : 1 ≤ n := by
  unfold worstC at h
  simp only [Bool.and_eq_true, decide_eq_true_eq] at h
  exact h.1
theorem worst_sub {l : List (Int × Int)} (hok : ∀ x ∈ l, okSpan x) {i : Nat} (h : worstS l i = true) (h2 : i + 1 < l.length) : worstC l i = true :=
  (worstC_iff l i (worstS_pos h) h2 hok).2 ⟨_, lo_truth hok, (worstS_iff l i (worstS_pos h) h2 hok).1 h _ (lo_truth hok)⟩
def innerB (i : Nat) : Bool := decide (1 ≤ i)
theorem setN_zero {p : Nat → Bool} : ∀ n, (∀ i, i < n → p i = false) → setN p n = 0
  | 0, _ => rfl
  | n + 1, h => by
    have := setN_zero n fun i hi => h i (by omega)
    unfold setN
    rw [h n (by omega), this]
    rfl
theorem setN_nz {p : Nat → Bool} {n i : Nat} (hi : i < n) (h : p i = true) : setN p n ≠ 0 := by
  intro e
  have := setN_bit p n i
  rw [e, if_pos ⟨hi, h⟩] at this
  simp at this
theorem some_most {l : List (Int × Int)} (h3 : 3 ≤ l.length) (x : Nat → Int) : ∃ m, 1 ≤ m ∧ m + 1 < l.length ∧ bnd x m = mostL l x := by
  rcases mostF_at x (l.length - 2) with h | ⟨n, h1, h2, h4⟩
  · refine ⟨1, by omega, by omega, ?_⟩
    have a := bnd_le_most (l := l) (x := x) (n := 1) (by omega) (by omega)
    have b := bnd_nn x 1
    unfold mostL at *
    omega
  · exact ⟨n, h1, by omega, h4⟩
theorem lt128 {p : Nat → Bool} {n : Nat} (h : n ≤ 8) : setN p (n - 1) < 128 := Nat.lt_of_lt_of_le (setN_lt p (n - 1)) (show 2 ^ (n - 1) ≤ 2 ^ 7 from Nat.pow_le_pow_right (by omega) (by omega))
theorem wset1 {l : List (Int × Int)} (hok : ∀ x ∈ l, okSpan x) (h8 : l.length ≤ 8) : bits .andNot .i64 ((setN (worstS l) (l.length - 1) : Nat) : Int) ((setN (worstC l) (l.length - 1) : Nat) : Int) = 0 :=
  andn_is _ _ (lt128 h8) (lt128 h8) fun i _ h => set_sub (fun j hj hp => worst_sub hok hp (by omega)) i h
theorem wset2 {l : List (Int × Int)} (h8 : l.length ≤ 8) : bits .andNot .i64 ((setN (worstC l) (l.length - 1) : Nat) : Int) ((setN innerB (l.length - 1) : Nat) : Int) = 0 :=
  andn_is _ _ (lt128 h8) (lt128 h8) fun i _ h => set_sub (fun j hj hp => decide_eq_true (worstC_pos hp)) i h
theorem inner_zero : ∀ n, n < 3 → setN innerB (n - 1) = 0 := by decide
theorem inner_three : ∀ n, n ≤ 8 → ones 8 (setN innerB (n - 1)) = 1 → n = 3 := by decide +kernel
theorem wset3 {l : List (Int × Int)} (hok : ∀ x ∈ l, okSpan x) (h8 : l.length ≤ 8) : setN (worstC l) (l.length - 1) = 0 ↔ setN innerB (l.length - 1) = 0 := by
  by_cases h3 : 3 ≤ l.length
  · obtain ⟨m, h1, h2, hm⟩ := some_most h3 fun i => (l.getD i (0, 0)).1
    have hw : worstC l m = true := (worstC_iff l m h1 h2 hok).2 ⟨_, lo_truth hok, fun i i1 i2 => by have := bnd_le_most (l := l) (x := fun i => (l.getD i (0, 0)).1) i1 i2; omega⟩
    exact ⟨fun e => absurd e (setN_nz (by omega) hw), fun e => absurd e (setN_nz (i := m) (by omega) (decide_eq_true h1))⟩
  · refine ⟨fun _ => inner_zero _ (by omega), fun _ => setN_zero _ fun i hi => ?_⟩
    cases h : worstC l i with
    | false => rfl
    | true => have := worstC_pos h; omega
theorem wset4 {l : List (Int × Int)} (hok : ∀ x ∈ l, okSpan x) (h8 : l.length ≤ 8) (h : ones 8 (setN innerB (l.length - 1)) = 1) : setN (worstS l) (l.length - 1) = setN innerB (l.length - 1) := by
  have h3 := inner_three _ h8 h
  have h1 : worstS l 1 = true := (worstS_iff l 1 (by omega) (by omega) hok).2 fun x hx i i1 i2 => by rw [show i = 1 by omega]; exact Int.le_refl _
  have h0 : worstS l 0 = false := by
    cases e : worstS l 0 with
    | false => rfl
    | true => have := worstS_pos e; omega
  rw [h3]
  simp [setN, h1, h0, innerB]
theorem hi_le {l : List (Int × Int)} (hok : ∀ x ∈ l, okSpan x) {i : Nat} (h1 : 1 ≤ i) (h2 : i + 1 < l.length) : (atF l i).2 ≤ hiF l (l.length - 2) := (hiF_all l hok (l.length - 2) (by omega)).2.1 i h1 (by omega)
structure Sta (l : List (Int × Int)) (x : Nat → Int) (i : Nat) : Prop where
  a : bnd x i = mostL l x → worstC l i = true
  b : worstS l i = true → bnd x i = mostL l x
  c : worstS l i = true → (atF l i).2 = hiF l (l.length - 2)
  d : (atF l i).2 = hiF l (l.length - 2) → worstC l i = true
  e : bnd x i ≤ mostL l x
  f : (atF l i).1 ≤ bnd x i
  g : bnd x i ≤ (atF l i).2
  h : (atF l i).2 ≤ hiF l (l.length - 2)
theorem sta_is {l : List (Int × Int)} (hok : ∀ x ∈ l, okSpan x) {x : Nat → Int} (hx : Truth l x) {i : Nat} (h1 : 1 ≤ i) (h2 : i + 1 < l.length) : Sta l x i := by
  have hs := at_spec l i h1 h2 hok
  have hC := worstC_iff l i h1 h2 hok
  have hS := worstS_iff l i h1 h2 hok
  refine ⟨fun e => hC.2 ⟨x, hx, fun j j1 j2 => by rw [e]; exact bnd_le_most j1 j2⟩, fun e => ?_, fun e => ?_, fun e => ?_, bnd_le_most h1 h2, (hs.all x hx).1, (hs.all x hx).2, hi_le hok h1 h2⟩
  · have a := bnd_le_most (l := l) (x := x) h1 h2
    have b := (mostL_le (bnd_nn x i)).2 (hS.1 e x hx)
    omega
  · obtain ⟨⟨y, hy, hm⟩, _⟩ := hi_spec l hok
    have b := (mostL_le (bnd_nn y i)).2 (hS.1 e y hy)
    have c := (hs.all y hy).2
    have d := hi_le hok h1 h2
    omega
  · obtain ⟨y, hy, hb⟩ := hs.hi
    refine hC.2 ⟨y, hy, fun j j1 j2 => ?_⟩
    have := (hi_spec l hok).2 y hy
    have := bnd_le_most (l := l) (x := y) j1 j2
    omega
/-- A station below k may bend as much as the furrow. -/
noncomputable def anyH (l : List (Int × Int)) : Nat → Bool
  | 0 => false
  | k + 1 => anyH l k || decide ((atF l (k + 1)).2 = hiF l (l.length - 2))
theorem anyH_of {l : List (Int × Int)} : ∀ k n, 1 ≤ n → n ≤ k → (atF l n).2 = hiF l (l.length - 2) → anyH l k = true
  | 0, n, h1, h2, _ => by omega
  | k + 1, n, h1, h2, h => by
    unfold anyH
    by_cases e : n = k + 1
    · subst e; rw [h]; simp
    · rw [anyH_of k n h1 (by omega) h]; rfl
theorem anyH_all {l : List (Int × Int)} (hok : ∀ x ∈ l, okSpan x) (h : setN innerB (l.length - 1) ≠ 0) : anyH l (l.length - 2) = true := by
  have h3 : 3 ≤ l.length := by
    refine Nat.not_lt.1 fun hl => h (inner_zero _ hl)
  obtain ⟨i1, i2, i3⟩ := hiF_all l hok (l.length - 2) (by omega)
  rcases i3 with i3 | ⟨n, h1, h2, h4⟩
  · refine anyH_of _ 1 (by omega) (by omega) ?_
    have a := i2 1 (by omega) (by omega)
    have b := (at_spec l 1 (by omega) (by omega) hok).all _ (lo_truth hok)
    have c := bnd_nn (fun i => (l.getD i (0, 0)).1) 1
    omega
  · exact anyH_of _ n h1 h2 h4
theorem bit_of {p : Nat → Bool} {n i : Nat} (h8 : n ≤ 8) (hi : i + 1 < n) : bits .and .i64 (((setN p (n - 1) : Nat) : Int) / 2 ^ i) 1 = if p i then 1 else 0 := by
  rw [andb_is _ _ (Nat.lt_trans (lt128 h8) (by omega)) (by omega), setN_bit]
  by_cases h : p i = true
  · rw [if_pos ⟨by omega, h⟩, if_pos h]; rfl
  · rw [if_neg (fun c => h c.2), if_neg h]; rfl
end Go.Proofs.Ytafmgmaelnpehaa
end

section
set_option linter.unusedVariables false
set_option linter.unusedSimpArgs false
namespace Go.Proofs.Ytafmgmaelnpehaa
open Go.RowKit Go.TL Go.Shelf Go.Fu
open PFurrowAsks Go.Proofs.YtafmgmaelnpehaaW.PrintWords
abbrev o4 (l : List (Option Value)) : List (Option Value) := none :: none :: none :: none :: l
abbrev o16 (l : List (Option Value)) : List (Option Value) := o4 (o4 (o4 (o4 l)))
abbrev o64 (l : List (Option Value)) : List (Option Value) := o16 (o16 (o16 (o16 l)))
theorem only_normal {M : Array Value → World → Prop} {e : Exit} {t : Array Value} {W : World} (h : andThen M (fun _ _ _ => False) e t W) : e = .normal ∧ M t W := by
  cases e <;> first | exact ⟨rfl, h⟩ | exact False.elim h
theorem box3_below {W W' : World} {B : Nat} {t : TypeId} {a b c : Value} (h : Below W.heap.size W W') (hb : Box3 W B t a b c) : Box3 W' B t a b c := (h.block _ hb.lt).trans hb
end Go.Proofs.Ytafmgmaelnpehaa
end

section
set_option linter.unusedVariables false
set_option linter.unusedSimpArgs false
namespace Go.TL
open Go Go.RowKit
def tailOk2 (md : Region.Mode) (pre tail : Array Oper) : Bool :=
  (tail.all fun o => (List.range pre.size).all fun j => (o.after.any fun e => Region.binds md e && e.on == j) || (List.range pre.size).any fun j' => decide (j < j') && match pre[j']? with | some p => p.after.any fun e => Region.binds md e && e.on == j | none => false) &&
  ((List.range pre.size).all fun j => match pre[j]? with
    | some o => (o.after.all fun e => !Region.binds md e || decide (e.on < j)) && (match o.guard with | some (g, _) => decide (g < pre.size) | none => true)
    | none => true)
section
variable {P : Program} {md : Region.Mode} {pre tail : Array Oper} {Q : Exit → Act → World → Prop}
theorem tail2_tail (h : tailOk2 md pre tail = true) {o : Oper} {i : Nat} (ho : tail[i]? = some o) {j : Nat} (hj : j < pre.size) : (∃ e ∈ o.after, Region.binds md e = true ∧ e.on = j) ∨ ∃ j' p, j < j' ∧ pre[j']? = some p ∧ ∃ e ∈ p.after, Region.binds md e = true ∧ e.on = j := by
  obtain ⟨hi, rfl⟩ := Array.getElem?_eq_some_iff.1 ho
  have h1 := (Bool.and_eq_true _ _ ▸ h : _ ∧ _).1
  have h2 := Array.all_eq_true.1 h1 i hi
  have h3 := List.all_eq_true.1 h2 j (List.mem_range.2 hj)
  rcases Bool.or_eq_true_iff.1 h3 with h3 | h3
  · left
    obtain ⟨e, he, hb⟩ := Array.any_eq_true'.1 h3
    simp only [Bool.and_eq_true, beq_iff_eq] at hb
    exact ⟨e, he, hb.1, hb.2⟩
  · right
    obtain ⟨j', hj', h4⟩ := List.any_eq_true.1 h3
    rw [Bool.and_eq_true, decide_eq_true_eq] at h4
    cases hp : pre[j']? with
    | none => rw [hp] at h4; exact absurd h4.2 (by simp)
    | some p =>
      rw [hp] at h4
      obtain ⟨e, he, hb⟩ := Array.any_eq_true'.1 h4.2
      simp only [Bool.and_eq_true, beq_iff_eq] at hb
      exact ⟨j', p, h4.1, hp, e, he, hb.1, hb.2⟩
theorem tail2_pre (h : tailOk2 md pre tail = true) {o : Oper} {j : Nat} (ho : pre[j]? = some o) : (∀ e ∈ o.after, Region.binds md e = true → e.on < j) ∧ ∀ g b, o.guard = some (g, b) → g < pre.size := by
  have hj := (Array.getElem?_eq_some_iff.1 ho).1
  have h1 := (Bool.and_eq_true _ _ ▸ h : _ ∧ _).2
  have h2 := List.all_eq_true.1 h1 j (List.mem_range.2 hj)
  simp only [ho, Bool.and_eq_true] at h2
  refine ⟨fun e he hb => ?_, fun g b hg => ?_⟩
  · have := (Array.all_eq_true_iff_forall_mem.1 h2.1) e he
    simp only [Bool.or_eq_true, Bool.not_eq_true', hb, decide_eq_true_eq] at this
    rcases this with h | h
    · cases h
    · exact h
  · have := h2.2
    rw [hg] at this
    simpa using this
theorem ready_some2 (h : tailOk2 md pre tail = true) {listed : Array Bool} (hs : listed.size = pre.size) (hl : left listed ≠ 0) : Region.ready md pre listed ≠ [] := by
  obtain ⟨j, hj, hmin⟩ := least (left_pos hl)
  intro e
  have hlt : j < listed.size := by
    rcases Nat.lt_or_ge j listed.size with h | h
    · exact h
    · simp [Array.getElem?_eq_none h] at hj
  have : j ∈ Region.ready md pre listed := by
    refine mem_ready.2 ⟨hj, pre[j]'(hs ▸ hlt), Array.getElem?_eq_getElem _, fun e he hb => ?_⟩
    have := (tail2_pre h (Array.getElem?_eq_getElem (hs ▸ hlt))).1 e he hb
    have h2 : ¬ listed.getD e.on true = false := fun h => by have := hmin _ h; omega
    have h3 : e.on < listed.size := by omega
    simp [h3] at h2 ⊢
    exact h2
  rw [e] at this
  cases this
/-- What has come up had come up before. -/
def Down (md : Region.Mode) (pre : Array Oper) (listed : Array Bool) : Prop := ∀ i o, pre[i]? = some o → listed.getD i true = true → i < listed.size → ∀ e ∈ o.after, Region.binds md e = true → listed.getD e.on true = true
theorem last_left : ∀ (n : Nat) {listed : Array Bool}, listed.size = n → left listed ≠ 0 → ∃ j, j < listed.size ∧ listed.getD j true = false ∧ ∀ i, j < i → i < listed.size → listed.getD i true = true := by
  intro n listed hs hl
  obtain ⟨j, hj⟩ := left_pos hl
  have hlt : j < listed.size := by
    rcases Nat.lt_or_ge j listed.size with h | h
    · exact h
    · simp [Array.getElem?_eq_none h] at hj
  have : ∀ d j, listed.size - j = d → j < listed.size → listed.getD j true = false → ∃ j, j < listed.size ∧ listed.getD j true = false ∧ ∀ i, j < i → i < listed.size → listed.getD i true = true := by
    intro d
    induction d using Nat.strongRecOn with
    | _ d ih =>
      intro j hd hlt hj
      by_cases hx : ∃ i, j < i ∧ i < listed.size ∧ listed.getD i true = false
      · obtain ⟨i, h1, h2, h3⟩ := hx
        exact ih (listed.size - i) (by omega) i rfl h2 h3
      · refine ⟨j, hlt, hj, fun i h1 h2 => ?_⟩
        cases e : listed.getD i true with
        | true => rfl
        | false => exact absurd ⟨i, h1, h2, e⟩ hx
  exact this _ j rfl hlt hj
theorem ready_pre2 (h : tailOk2 md pre tail = true) {listed : Array Bool} (hs : listed.size = pre.size) (hl : left listed ≠ 0) (hd : Down md pre listed) {j : Nat} :
    j ∈ Region.ready md (pre ++ tail) (listed ++ Array.replicate tail.size false) → j ∈ Region.ready md pre listed := by
  intro hj
  obtain ⟨h1, o, ho, h2⟩ := mem_ready.1 hj
  by_cases hlt : j < pre.size
  · rw [Array.getElem?_append_left hlt] at ho
    rw [getD_app _ (by omega)] at h1
    refine mem_ready.2 ⟨h1, o, ho, fun e he hb => ?_⟩
    have := h2 e he hb
    have hlt2 := (tail2_pre h ho).1 e he hb
    rwa [getD_app _ (by omega)] at this
  · exfalso
    rw [Array.getElem?_append_right (by omega)] at ho
    obtain ⟨j0, hj1, hj0, hlast⟩ := last_left _ rfl hl
    rcases tail2_tail h ho (hs ▸ hj1) with ⟨e, he, hb, rfl⟩ | ⟨j', p, hjj, hp, e, he, hb, rfl⟩
    · have := h2 e he hb
      rw [getD_app _ hj1] at this
      simp [hj1] at hj0 this
      rw [hj0] at this
      cases this
    · have hj' : j' < listed.size := by rw [hs]; exact (Array.getElem?_eq_some_iff.1 hp).1
      have := hd j' p hp (hlast j' hjj hj') hj' e he hb
      rw [hj0] at this
      cases this
theorem wpOp_app2 (h : tailOk2 md pre tail = true) {i : Nat} (hi : i < pre.size) {K K' : Act → World → Prop} {a : Act} {w : World} (hK : ∀ a w, K a w → K' a w)
    (hw : wpOp P pre (behind P md pre tail Q) i K a w) : wpOp P (pre ++ tail) Q i K' a w := by
  have ho : pre[i]? = some pre[i] := Array.getElem?_eq_getElem hi
  have ho' : (pre ++ tail)[i]? = some pre[i] := by rw [Array.getElem?_append_left hi]; exact ho
  have hpre := fun g b => (tail2_pre h ho).2 g b
  unfold wpOp at *
  simp only [ho, ho'] at hw ⊢
  have hy : Region.wanted pre[i] (yielded (pre ++ tail) a.tmps) = Region.wanted pre[i] (yielded pre a.tmps) := by
    unfold Region.wanted
    cases hg : (pre[i]).guard with
    | none => rfl
    | some gb =>
      obtain ⟨g, b⟩ := gb
      have hlt := hpre g b hg
      simp only [yielded, Array.getElem?_append_left hlt]
  rw [hy]
  split
  · rename_i hc
    rw [if_pos hc] at hw
    rcases hw with hw | ⟨_, a', w', hq⟩
    · left
      unfold Oper.wp at *
      generalize (execOp a.eval pre[i]).run P w = r at *
      cases r with
      | ok n w' =>
        cases n <;> simp only [Oper.upon] at hw ⊢ <;>
          first
            | exact hK _ _ hw
            | exact Calls.mono hw (fun e w'' he => by cases e <;> first | exact hK _ _ he | exact he | (obtain ⟨_, _, hq⟩ := he; exact hq.elim))
            | exact Rows.mono hw (fun _ _ he => hK _ _ he)
      | halt x w' => cases x <;> simp only [Oper.upon] at hw ⊢ <;> exact hw
    · exact hq.elim
  · rename_i hc
    rw [if_neg hc] at hw
    exact hK _ _ hw
theorem down_set {listed : Array Bool} (hd : Down md pre listed) {i : Nat} {o : Oper} (h1 : listed.getD i true = false) (ho : pre[i]? = some o) (h2 : ∀ e ∈ o.after, Region.binds md e = true → listed.getD e.on false = true) : Down md pre (listed.setIfInBounds i true) := by
  have up : ∀ k, listed.getD k true = true → (listed.setIfInBounds i true).getD k true = true := by
    intro k hk
    rw [Array.getD_eq_getD_getElem?] at hk ⊢
    rw [Array.getElem?_setIfInBounds]
    split
    · split <;> rfl
    · exact hk
  have up2 : ∀ k, listed.getD k false = true → listed.getD k true = true := by
    intro k hk
    rw [Array.getD_eq_getD_getElem?] at hk ⊢
    cases h : listed[k]? with
    | none => rfl
    | some b => rw [h] at hk; simpa using hk
  intro k p hp hk hlt e he hb
  by_cases ek : k = i
  · subst ek
    rw [ho] at hp
    cases hp
    exact up _ (up2 _ (h2 e he hb))
  · refine up _ (hd k p hp ?_ (by simpa using hlt) e he hb)
    rw [Array.getD_eq_getD_getElem?, Array.getElem?_setIfInBounds, if_neg (Ne.symm ek), ← Array.getD_eq_getD_getElem?] at hk
    exact hk
theorem wpAny_tail2 (h : tailOk2 md pre tail = true) : ∀ (fuel : Nat) (listed : Array Bool) (a : Act) (w : World), listed.size = pre.size → left listed = fuel → Down md pre listed →
    wpAny P md pre (behind P md pre tail Q) fuel listed a w → wpAny P md (pre ++ tail) Q (fuel + tail.size) (listed ++ Array.replicate tail.size false) a w
  | 0, listed, a, w, hs, hf, hd, hw => by
    have e := left_zero hf
    rw [hs] at e
    rw [e, Nat.zero_add]
    exact hw.2
  | fuel + 1, listed, a, w, hs, hf, hd, hw => by
    have hne : left listed ≠ 0 := by omega
    rw [show fuel + 1 + tail.size = (fuel + tail.size) + 1 by omega]
    refine ⟨fun e => ?_, fun i hi => ?_⟩
    · exfalso
      obtain ⟨j, hj⟩ := List.exists_mem_of_ne_nil _ (ready_some2 h hs hne)
      have : j ∈ Region.ready md (pre ++ tail) (listed ++ Array.replicate tail.size false) := by
        obtain ⟨h1, o, ho, h2⟩ := mem_ready.1 hj
        have hlt := (Array.getElem?_eq_some_iff.1 ho).1
        refine mem_ready.2 ⟨by rw [getD_app _ (by omega)]; exact h1, o, by rw [Array.getElem?_append_left hlt]; exact ho, fun e he hb => ?_⟩
        have := (tail2_pre h ho).1 e he hb
        rw [getD_app _ (by omega)]
        exact h2 e he hb
      rw [e] at this
      cases this
    · have hr := ready_pre2 h hs hne hd hi
      obtain ⟨h1, o, ho, h2⟩ := mem_ready.1 hr
      have hlt := (Array.getElem?_eq_some_iff.1 ho).1
      rw [set_app (by omega)]
      exact wpOp_app2 h hlt (fun a' w' hK => wpAny_tail2 h fuel _ a' w' (by simp [hs]) (by have := left_set h1; omega) (down_set hd h1 ho h2) hK) (hw.2 i hr)
end
section
variable {P : Program} {r : Option Nat} {Q : Exit → Array Value → World → Prop} {t : Array Value} {w : World}
theorem rel_half (n k : Nat) : Rel (n + k) (2 ^ n - 1) (Array.replicate n true ++ Array.replicate k false) := by
  refine ⟨by simp, fun j => ?_⟩
  rw [Nat.testBit_two_pow_sub_one, Array.getD_eq_getD_getElem?]
  by_cases h : j < n
  · rw [Array.getElem?_append_left (by simpa using h)]
    simp [h]
  · rw [Array.getElem?_append_right (by simpa using h)]
    by_cases h2 : j - n < k
    · simp [h, h2]
    · simp [h, Array.getElem?_eq_none (show (Array.replicate k false).size ≤ j - n by simp; omega)]
/-- A drawn region by two trees: the one for the first ones, in whose class of worlds their values do not change; behind it the one for the others. -/
theorem region_tree2 {c : Code} {id : Nat} (n k : Nat) (T1 T2 : Sch) (pre ops : Array Oper) (hops : regOps c = ops) (hpre : ((regOps c).toList.take n).toArray = pre) (hc : c = .region id (regOps c) true) (hm : P.follows .mixedOrders = true)
    (hnd : (regOps c).all (fun o => !isDefer o.op) = true) (hns : Region.noSelect (regOps c) = true) (hns1 : Region.noSelect ((regOps c).toList.take n).toArray = true) (hok : tailOk2 .any ((regOps c).toList.take n).toArray ((regOps c).toList.drop n).toArray = true)
    (hlen1 : lenT T1 = n) (hlen2 : lenT T2 = k) (hsz : ((regOps c).toList.take n).toArray.size = n) (hsz2 : ((regOps c).toList.drop n).toArray.size = k) (heven1 : evenT T1 = true) (heven2 : evenT T2 = true)
    (needs1 needs : List Nat) (hneeds1 : needsOf .any ((regOps c).toList.take n).toArray = needs1) (hneeds : needsOf .any (regOps c) = needs) (hchk1 : okT .any ((regOps c).toList.take n).toArray needs1 T1 0 (Array.replicate n false) = true) (hchk2 : okT .any (regOps c) needs T2 (2 ^ n - 1) (Array.replicate n true ++ Array.replicate k false) = true)
    (S : World → Prop)
    (h : ∀ ds (Q' Qh : Exit → Act → World → Prop), (∀ t W, Keep w W → Q .normal t W → Q' .normal { tmps := t, defers := ds } W) → (∀ a W, seqT P ops (fun _ => True) Q' T2 a W → Qh .normal a W) →
      seqT P pre S Qh T1 { tmps := t, defers := ds } w.drew) : Exec P r c t w Q := by
  intro hc' ds
  subst hops
  subst hpre
  generalize hops : regOps c = ops at *
  rw [hc]
  refine wpIn_mono (Q := fun e a W => match e with
        | .normal => a.defers = ds ∧ Keep w W ∧ Q .normal a.tmps W
        | _ => False) ?_ ?_
  · refine wpIn_region_draw fun tt => ?_
    simp only [Region.schedule, hm, Bool.true_or, if_true]
    have e : (ops.toList.take n).toArray ++ (ops.toList.drop n).toArray = ops := by
      apply Array.ext'
      simp
    have hs : ops.size = n + k := by rw [← e, Array.size_append, hsz, hsz2]
    have h0 := h ds (fun e a W => match e with
        | .normal => a.defers = ds ∧ Keep w W ∧ Q .normal a.tmps W
        | _ => False) (behind P .any (ops.toList.take n).toArray (ops.toList.drop n).toArray (fun e a W => match e with
        | .normal => a.defers = ds ∧ Keep w W ∧ Q .normal a.tmps W
        | _ => False)) (fun t W hk hq => ⟨rfl, hk, hq⟩) (fun a W hq => by
      have h3 := tree_any (S := fun _ => True) (P := P) hns hneeds (fun i t x hx c a v W hq => hq.elim) T2 (2 ^ n - 1) (Array.replicate n true ++ Array.replicate k false) a W (hs ▸ rel_half n k) hchk2 heven2 hq
      rw [hlen2] at h3
      have h4 := wpAny_of_held _ _ _ _ h3
      show wpAny P .any ((ops.toList.take n).toArray ++ (ops.toList.drop n).toArray) _ (ops.toList.drop n).toArray.size (Array.replicate (ops.toList.take n).toArray.size true ++ Array.replicate (ops.toList.drop n).toArray.size false) a W
      rw [hsz, hsz2, e]
      exact h4)
    have h2 := tree_any (S := S) (P := P) hns1 hneeds1 (fun i t x hx c a v W hq => hq.elim) T1 0 (Array.replicate n false) _ _ ⟨by simp [hsz], fun j => by rw [Nat.zero_testBit, Array.getD_eq_getD_getElem?, Array.getElem?_replicate]; split <;> rfl⟩ hchk1 heven1 h0
    rw [hlen1] at h2
    have h1 := wpAny_tail2 hok n (Array.replicate n false) _ _ (by simp [hsz]) (by simp [left]) (fun i o hp hk hlt => absurd hk (by simp at hlt ⊢; simp [hlt])) (wpAny_of_held _ _ _ _ h2)
    have e2 : Array.replicate n false ++ Array.replicate (ops.toList.drop n).toArray.size false = Array.replicate ops.size false := by
      rw [hsz2, hs, Array.replicate_append_replicate]
    rw [e, e2, hsz2, ← hs] at h1
    exact ops_in hnd (fun a W hq => hq) _ _ _ (wpAny_sound ops.size tt _ _ _ h1)
  · rintro e a W hq
    cases e with
    | normal => exact ⟨hq.2.1, ⟨[], hq.1, trivial⟩, hq.2.2⟩
    | panic c => exact hq.elim
    | exit id => exact hq.elim
    | goto l => exact hq.elim
    | ret => exact hq.elim
    | outgrown => exact hq.elim
end
end Go.TL
end

section
set_option linter.unusedVariables false
set_option linter.unusedSimpArgs false
namespace Go.Proofs.Ytafmgmaelnpehaa
open Go.RowKit Go.TL Go.Shelf Go.Fu
attribute [local go_sem] Oper.semAt_some
open PFurrowAsks Go.Proofs.YtafmgmaelnpehaaW.PrintWords
abbrev RowU (w : World) (A : Option Addr) (l : List Int) : Prop := ReadsInt w .u16 A l.length l
theorem put_eq (l : List Value) (ds : List Deferred) (d : Nat) (v : Value) : ({ tmps := l.toArray, defers := ds } : Act).put (some d) v = { tmps := (l.set d v).toArray, defers := ds } := by
  simp [Act.put]
theorem put_none (a : Act) (v : Value) : a.put none v = a := rfl
def dw0t : It := ⟨(Op.load 45 (Operand.tmp 2)), some 7, 45, true, none⟩
def dw1t : It := ⟨(Op.load 3 (Operand.tmp 1)), some 8, 3, true, none⟩
def dw2t : It := ⟨(Op.load 45 (Operand.tmp 2)), some 9, 45, true, none⟩
def dw3t : It := ⟨(Op.call { callee := (Callee.builtin Builtin.len), args := #[(Operand.tmp 9)], argTypes := #[45] }), some 10, 3, true, none⟩
def dw4t : It := ⟨(Op.binOp BinOp.rem 3 (Operand.tmp 8) (Operand.tmp 10) 3), some 11, 3, true, none⟩
def dw5t : It := ⟨(Op.indexAddr 45 (Operand.tmp 7) (Operand.tmp 11)), some 12, 0, true, none⟩
def dw6t : It := ⟨(Op.load 109 (Operand.tmp 12)), some 13, 109, true, none⟩
def dw7t : It := ⟨(Op.convert 109 3 (Operand.tmp 13)), some 14, 3, true, none⟩
def dw8t : It := ⟨(Op.load 3 (Operand.tmp 1)), some 15, 3, true, none⟩
def dw9t : It := ⟨(Op.binOp BinOp.mul 3 (Operand.const (Value.int IntKind.i64 23)) (Operand.tmp 15) 3), some 16, 3, true, none⟩
def dw10t : It := ⟨(Op.binOp BinOp.add 3 (Operand.tmp 14) (Operand.tmp 16) 3), some 17, 3, true, none⟩
def dw11 : It := ⟨(Op.move (Operand.tmp 0)), some 18, 3, false, none⟩
def dw12 : It := ⟨(Op.binOp BinOp.rem 3 (Operand.tmp 17) (Operand.tmp 18) 3), some 19, 3, false, none⟩
def dw13 : It := ⟨(Op.assign (Operand.tmp 19)), some 4, 3, false, none⟩
set_option maxRecDepth 100000 in
set_option maxHeartbeats 1000000 in
theorem draw_c {W : World} {ra rb q c n : Nat} {A : Option Addr} {bs : List Int} (hA : Boxed W ra 3 (.int .i64 ((q : Nat) : Int))) (hB : Boxed W rb 45 (.slice A bs.length c)) (hby : RowU W A bs) (hfar : ∀ a, A = some a → a.block ≠ ra) (hbs : ∀ b ∈ bs, 0 ≤ b ∧ b ≤ 65535) (hpos : 0 < bs.length) (hq : q ≤ 1000) (hn : 0 < n) (hn2 : n ≤ 100) (hab : ra ≠ rb) :
    Calls Try.prog 75 #[.int .i64 ((n : Nat) : Int), .pointer (some ⟨ra, 0, none⟩), .pointer (some ⟨rb, 0, none⟩)] W fun e w' => (∃ v : Int, e = .returned (.int .i64 v) ∧ 0 ≤ v ∧ v < n) ∧ W.grownBy w' (some ra) ∧ Boxed w' ra 3 (.int .i64 ((q : Int) + 1)) := by
  refine calls_of_exec Try.func75 rfl ?_
  simp only [Try.ntmps75, List.size_toArray, List.length_cons, List.length_nil, Nat.reduceAdd, Nat.reduceSub, Array.replicate_succ, Array.replicate_zero, List.push_toArray, List.append_toArray, List.nil_append, List.cons_append]
  refine exec_seq (exec_region_o fun ds => ?_)
  gi_wp2
  refine eq_mk (Keep.refl _) ?_
  show Exec _ _ _ _ _ _
  have a0 := hA.cell
  have af := hA.frozen
  have hw : IntKind.i64.wrap ((q : Int) + 1) = (q : Int) + 1 := IntWalk.i64_in _ (by omega)
  refine exec_seq (exec_region_o fun ds => ?_)
  gi_wp2
  refine eq_mk ((Keep.refl _).setCell _ _) ?_
  show Exec _ _ _ _ _ _
  have hA2 : Boxed (W.setCell ⟨ra, 0, none⟩ (.int .i64 ((q : Int) + 1))) ra 3 (.int .i64 ((q : Int) + 1)) := by (simp only [Boxed, Box2, heap_alloc_at, heap_set_at, World.size_alloc, World.size_setCell]; repeat (first | rfl | exact hA | rw [if_pos (by omega)] | rw [if_neg (by omega)] | rw [show _ = _ from hA]))
  have hB2 : Boxed (W.setCell ⟨ra, 0, none⟩ (.int .i64 ((q : Int) + 1))) rb 45 (.slice A bs.length c) := (Below.heap_setCell W _ _ _ (by show rb ≠ ra; omega)).trans hB
  have hG : W.grownBy (W.setCell ⟨ra, 0, none⟩ (.int .i64 ((q : Int) + 1))) (some ra) := ⟨rfl, rfl, rfl, by simp, fun j hj hne => Below.heap_setCell W _ _ _ (fun e => hne (by rw [e]))⟩
  have hm : (q + 1) % bs.length < bs.length := Nat.mod_lt _ hpos
  obtain ⟨ab, hab2, hcb⟩ := ReadsInt.at_ hby (((q + 1) % bs.length : Nat) : Int) (by omega) (by omega)
  subst hab2
  rw [Int.toNat_natCast] at hcb
  have hbl : bs.length ≤ 9223372036854775807 := hby.2.1
  have hbd : 0 ≤ rd bs (((q + 1) % bs.length : Nat) : Int) ∧ rd bs (((q + 1) % bs.length : Nat) : Int) ≤ 65535 := by
    unfold rd
    rw [Int.toNat_natCast, List.getD_eq_getElem?_getD, List.getElem?_eq_getElem hm]
    exact hbs _ (List.getElem_mem hm)
  obtain ⟨v, hv⟩ : ∃ v, rd bs (((q + 1) % bs.length : Nat) : Int) = v := ⟨_, rfl⟩
  rw [hv] at hcb hbd
  have hcV : (W.setCell ⟨ra, 0, none⟩ (.int .i64 ((q : Int) + 1))).cell? (ab.add ((q + 1) % bs.length)) = some (.int .u16 v) := by
    rw [← hcb]
    refine World.cell?_of_block (Below.heap_setCell W _ _ _ ?_)
    show (ab.add _).block ≠ ra
    rw [show ∀ j, (ab.add j).block = ab.block from fun j => by unfold Addr.add; split <;> rfl]
    exact hfar ab rfl
  have e1 : Int.tmod ((q : Int) + 1) (bs.length : Int) = (((q + 1) % bs.length : Nat) : Int) := by rw [Int.tmod_eq_emod_of_nonneg (by omega)]; push_cast; rfl
  generalize (q + 1) % bs.length = m at *
  have hk1 : 0 ≤ (q : Int) + 1 ∧ (q : Int) + 1 ≤ 1001 := by omega
  generalize (q : Int) + 1 = k at *
  clear a0 af hw hA hB hcb hby hv
  have hX : W.grownBy (W.setCell ⟨ra, 0, none⟩ (.int .i64 k)) (some ra) ∧ Boxed (W.setCell ⟨ra, 0, none⟩ (.int .i64 k)) ra 3 (.int .i64 k) := ⟨hG, hA2⟩
  generalize W.setCell ⟨ra, 0, none⟩ (.int .i64 k) = X at *
  clear hG
  obtain ⟨z, hz⟩ : ∃ z, (v + 23 * k) % (n : Int) = z := ⟨_, rfl⟩
  refine exec_cut (fun t' W' => (W.grownBy W' (some ra) ∧ Boxed W' ra 3 (.int .i64 k)) ∧ Slots [none, none, none, none, some (.int .i64 z), none, none, none, none, none, none, none, none, none, none, none, none, none, none, none] t') ?_ ?_
  · have cA : ∀ W', W' = X.drew → W'.cell? ⟨ra, 0, none⟩ = some (.int .i64 k) := fun W' h => by rw [h]; exact hA2.cell
    have cB : ∀ W', W' = X.drew → W'.cell? ⟨rb, 0, none⟩ = some (.slice (some ab) bs.length c) := fun W' h => by rw [h]; exact hB2.cell
    have cV : ∀ W', W' = X.drew → W'.cell? (ab.add m) = some (.int .u16 v) := fun W' h => by rw [h]; exact hcV
    have hne : bs ≠ [] := fun e => by rw [e] at hpos; cases hpos
    have hu45 := Try.underlying45
    have e2 : IntKind.i64.wrap v = v := IntWalk.i64_in _ (by omega)
    have e3 : IntKind.i64.wrap (23 * k) = 23 * k := IntWalk.i64_in _ (by omega)
    have e4 : IntKind.i64.wrap (v + 23 * k) = v + 23 * k := IntWalk.i64_in _ (by omega)
    have e5 : Int.tmod (v + 23 * k) (n : Int) = z := by rw [← hz]; exact Int.tmod_eq_emod_of_nonneg (by omega)
    have hn0 : n ≠ 0 := by omega
    have hS : X.drew = X.drew := rfl
    have hKW : Keep X X.drew := (Keep.refl X).drew
    replace hX : W.grownBy X.drew (some ra) ∧ Boxed X.drew ra 3 (.int .i64 k) := ⟨⟨hX.1.os, hX.1.tape, hX.1.output, hX.1.size, hX.1.block⟩, hX.2⟩
    clear hA2 hB2 hcV
    refine region_tree (c := (sub (Try.f75.body.getD .skip) [1, 1, 0])) (id := 2) (.one 0 true (.one 1 true (.one 2 true (.one 3 true (.one 4 true (.one 5 true (.one 6 true (.one 7 true (.one 8 true (.one 9 true (.one 10 true (.one 11 false (.one 12 false (.one 13 false (.nil))))))))))))))) (Opq (regOps (sub (Try.f75.body.getD .skip) [1, 1, 0]))) rfl (by kernel_rfl) (by kernel_rfl) (by kernel_rfl) (by kernel_rfl) (by kernel_rfl) (by kernel_rfl) [0, 0, 0, 4, 10, 17, 32, 64, 0, 256, 640, 0, 3072, 8191] (by kernel_rfl) (by kernel_rfl) (fun W2 => W2 = X.drew) (fun _ _ _ => False) (fun _ _ _ h => h.elim) (fun _ _ _ _ _ _ _ _ h => h.elim) fun ds Q' hQn hQp => ?_
    refine tr_take dw0t (.slice (some ab) bs.length c) (by kernel_rfl) rfl (by first | exact rfl | trivial) (fun wq hq => ?_) (hS) ?_; (focus (simp [go_sem, mkO, dw0t, cB wq hq]; done)); simp only [dw0t, put_eq, List.set_cons_succ, List.set_cons_zero]
    refine tr_take dw1t (.int .i64 k) (by kernel_rfl) rfl (by first | exact rfl | trivial) (fun wq hq => ?_) (hS) ?_; (focus (simp [go_sem, mkO, dw1t, cA wq hq]; done)); simp only [dw1t, put_eq, List.set_cons_succ, List.set_cons_zero]
    refine tr_take dw2t (.slice (some ab) bs.length c) (by kernel_rfl) rfl (by first | exact rfl | trivial) (fun wq hq => ?_) (hS) ?_; (focus (simp [go_sem, mkO, dw2t, cB wq hq]; done)); simp only [dw2t, put_eq, List.set_cons_succ, List.set_cons_zero]
    refine tr_take dw3t (.int .i64 ((bs.length : Nat) : Int)) (by kernel_rfl) rfl (by first | exact rfl | trivial) (fun wq hq => ?_) (hS) ?_; (focus (simp [go_sem, mkO, dw3t]; done)); simp only [dw3t, put_eq, List.set_cons_succ, List.set_cons_zero]
    refine tr_take dw4t (.int .i64 ((m : Nat) : Int)) (by kernel_rfl) rfl (by first | exact rfl | trivial) (fun wq hq => ?_) (hS) ?_; (focus (simp [go_sem, mkO, dw4t, e1, hpos, hne]; done)); simp only [dw4t, put_eq, List.set_cons_succ, List.set_cons_zero]
    refine tr_take dw5t (.pointer (some (ab.add m))) (by kernel_rfl) rfl (by first | exact rfl | trivial) (fun wq hq => ?_) (hS) ?_; (focus (simp [go_sem, mkO, dw5t, hu45, hm]; done)); simp only [dw5t, put_eq, List.set_cons_succ, List.set_cons_zero]
    refine tr_take dw6t (.int .u16 v) (by kernel_rfl) rfl (by first | exact rfl | trivial) (fun wq hq => ?_) (hS) ?_; (focus (simp [go_sem, mkO, dw6t, cV wq hq]; done)); simp only [dw6t, put_eq, List.set_cons_succ, List.set_cons_zero]
    refine tr_take dw7t (.int .i64 v) (by kernel_rfl) rfl (by first | exact rfl | trivial) (fun wq hq => ?_) (hS) ?_; (focus (simp [go_sem, mkO, dw7t, e2]; done)); simp only [dw7t, put_eq, List.set_cons_succ, List.set_cons_zero]
    refine tr_take dw8t (.int .i64 k) (by kernel_rfl) rfl (by first | exact rfl | trivial) (fun wq hq => ?_) (hS) ?_; (focus (simp [go_sem, mkO, dw8t, cA wq hq]; done)); simp only [dw8t, put_eq, List.set_cons_succ, List.set_cons_zero]
    refine tr_take dw9t (.int .i64 (23 * k)) (by kernel_rfl) rfl (by first | exact rfl | trivial) (fun wq hq => ?_) (hS) ?_; (focus (simp [go_sem, mkO, dw9t, e3]; done)); simp only [dw9t, put_eq, List.set_cons_succ, List.set_cons_zero]
    refine tr_take dw10t (.int .i64 (v + 23 * k)) (by kernel_rfl) rfl (by first | exact rfl | trivial) (fun wq hq => ?_) (hS) ?_; (focus (simp [go_sem, mkO, dw10t, e4]; done)); simp only [dw10t, put_eq, List.set_cons_succ, List.set_cons_zero]
    refine tr_make dw11 (.int .i64 ((n : Nat) : Int)) _ (by kernel_rfl) rfl (by first | exact rfl | trivial) ?_ (hS) ?_; (focus (exact rfl)); simp only [dw11, put_eq, List.set_cons_succ, List.set_cons_zero]
    refine tr_make dw12 (.int .i64 z) _ (by kernel_rfl) rfl (by first | exact rfl | trivial) ?_ (hS) ?_; (focus (simp [go_sem, mkO, dw12, e5, hn0]; done)); simp only [dw12, put_eq, List.set_cons_succ, List.set_cons_zero]
    refine tr_make dw13 (.int .i64 z) _ (by kernel_rfl) rfl (by first | exact rfl | trivial) ?_ (hS) ?_; (focus (exact rfl)); simp only [dw13, put_eq, List.set_cons_succ, List.set_cons_zero]
    exact hQn _ _ hKW ⟨hX, (by simp only [Slots, Fits, and_self])⟩
  · rintro t' Y ⟨hY, hSl⟩
    obtain ⟨x, hx⟩ := Slots.open_ hSl; simp only [fill, Nat.reduceAdd] at hx; subst hx; clear hSl
    refine exec_ret ⟨.inr rfl, fun W' hG => ⟨.int .i64 z, by simp [results, Try.f75, go_sem], ⟨_, rfl, by rw [← hz]; exact Int.emod_nonneg _ (by omega), by rw [← hz]; exact Int.emod_lt_of_pos _ (by omega)⟩, ?_, ?_⟩⟩
    · have hb := hG.below (Nat.le_refl _) hY.1.size
      exact ⟨hb.os.trans hY.1.os, hb.tape.trans hY.1.tape, hb.output.trans hY.1.output, Nat.le_trans hY.1.size hb.size, fun j hj hne => (hb.block j hj).trans (hY.1.block j hj hne)⟩
    · exact hG.boxed hY.2
end Go.Proofs.Ytafmgmaelnpehaa
end

section
set_option linter.unusedVariables false
set_option linter.unusedSimpArgs false
namespace Go.Proofs.Ytafmgmaelnpehaa
open Go.RowKit Go.TL Go.Shelf Go.Fu
attribute [local go_sem] Oper.semAt_some
open PFurrowAsks Go.Proofs.YtafmgmaelnpehaaW.PrintWords
set_option maxRecDepth 100000 in
theorem draws_c (A : Option Addr) (n c : Nat) (w : World) : Calls Try.prog 32 #[.slice A n c] w fun e w' => e = .returned (.func (.func 75) #[] #[.pointer (some ⟨w.heap.size + 1, 0, none⟩), .pointer (some ⟨w.heap.size, 0, none⟩)]) ∧ Below w.heap.size w w' ∧ Boxed w' w.heap.size 45 (.slice A n c) ∧ Boxed w' (w.heap.size + 1) 3 (.int .i64 0) ∧ w.heap.size + 1 + 1 ≤ w'.heap.size := by
  refine calls_of_exec Try.func32 rfl ?_
  simp only [Try.ntmps32, List.size_toArray, List.length_cons, List.length_nil, Nat.reduceAdd, Nat.reduceSub, Array.replicate_succ, Array.replicate_zero, List.push_toArray, List.append_toArray, List.nil_append, List.cons_append]
  refine exec_seq (exec_region_o fun ds => ?_)
  gi_wp2
  refine eq_mk ((Keep.refl _).alloc _) ?_
  show Exec _ _ _ _ _ _
  have b0 := Boxed.new w 45 (.slice A n c)
  have hB := (Below.refl w.heap.size w).alloc (Nat.le_refl _) (.cells #[.slice A n c] 45)
  have hz : (w.alloc (.cells #[.slice A n c] 45)).heap.size = w.heap.size + 1 := by simp
  generalize w.alloc (.cells #[.slice A n c] 45) = X at *
  refine exec_seq (exec_region_o fun ds => ?_)
  gi_wp2
  refine eq_mk ((Keep.refl _).alloc _) ?_
  show Exec _ _ _ _ _ _
  have ha := (Below.refl X.heap.size X).alloc (Nat.le_refl _) (.cells #[.int .i64 0] 3)
  have b1 := Boxed.new X 3 (.int .i64 0)
  rw [hz] at b1
  have hz2 : (X.alloc (.cells #[.int .i64 0] 3)).heap.size = w.heap.size + 1 + 1 := by simp [hz]
  replace b0 : Boxed (X.alloc (.cells #[.int .i64 0] 3)) w.heap.size 45 (.slice A n c) := (ha.block _ (by omega)).trans b0
  replace hB := hB.trans (ha.mono hB.size)
  generalize X.alloc (.cells #[.int .i64 0] 3) = Y at *
  clear ha hz
  clear X
  refine exec_seq (exec_region_o fun ds => ?_)
  gi_wp2
  refine eq_mk (Keep.refl _) ?_
  show Exec _ _ _ _ _ _
  refine exec_ret ⟨.inr rfl, fun W' hG => ⟨_, by simp [results, Try.f32, go_sem], rfl, hB.trans (hG.below (Nat.le_refl _) hB.size), hG.boxed b0, hG.boxed b1, by have := hG.size; omega⟩⟩
def eT (q : Nat) : TypeId := if q < 3 then 28 else 3
def sT (q : Nat) : Nat := if q < 3 then 2 else 1
def tT (q : Nat) : TypeId := if q < 3 then 22 else 33
def upd {α : Type} (f : Nat → α) (q : Nat) (x : α) : Nat → α := fun p => if p = q then x else f p
/-- Five rows that grow, each in a block of its own: three of spans, two of numbers. -/
structure Own5 (W : World) (B : Nat) (v : Nat → Value) (n : Nat → Nat) (xs : Nat → List Value) : Prop where
  own : ∀ q, q < 5 → W.ownsRow B (eT q) (sT q) (v q) (n q) (xs q)
  ne : ∀ p q, p < 5 → q < 5 → p ≠ q → (v p).ownBlock = none ∨ (v p).ownBlock ≠ (v q).ownBlock
theorem Own5.start (W : World) (B : Nat) : Own5 W B (fun _ => .slice none 0 0) (fun _ => 0) (fun _ => []) := ⟨fun q _ => ⟨by simp, .inl ⟨rfl, rfl⟩⟩, fun p q _ _ _ => .inl rfl⟩
theorem Own5.kept {W W' : World} {B : Nat} {v : Nat → Value} {n : Nat → Nat} {xs : Nat → List Value} {row : Option Nat} (h : Own5 W B v n xs) (hg : W.grownBy W' row) (hr : ∀ j, row = some j → j < B) : Own5 W' B v n xs :=
  ⟨fun q hq => (h.own q hq).kept hg (by
    cases e : (v q).ownBlock with
    | none => exact .inl rfl
    | some j =>
      right
      intro c
      have := (h.own q hq).lt j e
      have := hr j c.symm
      omega), h.ne⟩
theorem append_info (q : Nat) : ∃ (i : TypeInfo) (z : Value) (b : Nat), Try.prog.underlying (tT q) = some (.slice (eT q)) ∧ Try.prog.info? (eT q) = some i ∧ i.zero = some z ∧ i.size = sT q ∧ i.bytes = b ∧ z.cells.size = sT q ∧ 0 < sT q ∧ b ≤ 16 := by
  unfold tT eT sT
  by_cases h : q < 3
  · simp only [if_pos h]
    obtain ⟨i0, hi0, hz⟩ : ∃ i0, Try.prog.info? 28 = some i0 ∧ (i0.zero, i0.size, i0.bytes) = (some (.agg #[(.int .i64 0), (.int .i64 0)]), 2, 16) := by
      have := info28
      cases h : Try.prog.info? 28 with
      | none => rw [h] at this; cases this
      | some i0 => rw [h] at this; exact ⟨i0, rfl, Option.some.inj this⟩
    simp only [Prod.mk.injEq] at hz
    exact ⟨i0, _, 16, Try.underlying22, hi0, hz.1, hz.2.1, hz.2.2, rfl, by decide, by decide⟩
  · simp only [if_neg h]
    obtain ⟨j0, hj0, jz⟩ : ∃ i0, Try.prog.info? 3 = some i0 ∧ (i0.zero, i0.size, i0.bytes) = (some (.int .i64 0), 1, 8) := by
      have := info3
      cases h : Try.prog.info? 3 with
      | none => rw [h] at this; cases this
      | some i0 => rw [h] at this; exact ⟨i0, rfl, Option.some.inj this⟩
    simp only [Prod.mk.injEq] at jz
    exact ⟨j0, _, 8, Try.underlying33, hj0, jz.1, jz.2.1, jz.2.2, rfl, by decide, by decide⟩
theorem Own5.app {W : World} {B : Nat} {v : Nat → Value} {n : Nat → Nat} {xs : Nat → List Value} (h : Own5 W B v n xs) (hB : B ≤ W.heap.size) {q : Nat} (hq : q < 5) (a : Addr) (c : Nat) (news : List Value) (hl : news.length = sT q) (hnews : ∀ j u, news[j]? = some u → W.cell? (a.add j) = some u) (h1 : ∀ u ∈ news, u.oneCell' = true) (hn : n q ≤ 100) (ty : TypeId) :
    ∃ v' W', (Builtin.append_ #[tT q, tT q] ty #[v q, .slice (some a) 1 c]).run Try.prog W = .ok v' W' ∧ Own5 W' B (upd v q v') (upd n q (n q + 1)) (upd xs q (xs q ++ news)) ∧ W.grownBy W' (v q).ownBlock := by
  obtain ⟨i, z, b, e1, e2, e3, e4, e5, e6, e7, e8⟩ := append_info q
  obtain ⟨v', W', hr, ho, hg, _, hat⟩ := run_append_own_at (P := Try.prog) W B (tT q) ty (eT q) i z (sT q) b e1 e2 e3 e4 e5 e6 e7 (v q) (n q) (xs q) (h.own q hq) a 1 c news (by rw [Nat.one_mul]; exact hl) hnews h1 (by unfold maxLen; omega) (by have : (n q + 1) * b ≤ 101 * 16 := Nat.mul_le_mul (by omega) e8; omega) hB
  refine ⟨v', W', hr, ⟨fun p hp => ?_, fun p r hp hr' hne => ?_⟩, hg⟩
  · unfold upd
    by_cases e : p = q
    · subst e
      simp only [if_true]
      exact ho
    · simp only [if_neg e]
      exact (h.own p hp).kept hg (h.ne p q hp hq e)
  · have old : ∀ p, p < 5 → ∀ j, (v p).ownBlock = some j → j < W.heap.size := fun p hp j hj => ((h.own p hp).lt j hj).2
    have key : ∀ s, s < 5 → s ≠ q → (v s).ownBlock = none ∨ (v s).ownBlock ≠ v'.ownBlock := by
      intro s hs hsq
      rcases hat with hat | hat
      · rw [hat]; exact h.ne s q hs hq hsq
      · cases e : (v s).ownBlock with
        | none => exact .inl rfl
        | some j =>
          right
          rw [hat]
          intro c
          have := old s hs j e
          have := Option.some.inj c
          omega
    unfold upd
    by_cases ep : p = q
    · by_cases er : r = q
      · exact absurd (ep.trans er.symm) hne
      · simp only [if_pos ep, if_neg er]
        rcases key r hr' er with k | k
        · cases e : v'.ownBlock with
          | none => exact .inl rfl
          | some j => right; rw [k]; simp
        · exact .inr (Ne.symm k)
    · by_cases er : r = q
      · simp only [if_neg ep, if_pos er]
        exact key p hp ep
      · simp only [if_neg ep, if_neg er]
        exact h.ne p r hp hr' hne
/-- What stands while the furrow is laid. -/
structure TrS (w : World) (rb ra b4 : Nat) (A : Option Addr) (c : Nat) (bs : List Int) (f0 f1 f2 : Value) (k : Nat) (v : Nat → Value) (n : Nat → Nat) (xs : Nat → List Value) (W : World) : Prop where
  below : Below w.heap.size w W
  cnt : Boxed W ra 3 (.int .i64 ((k : Nat) : Int))
  row : Boxed W rb 45 (.slice A bs.length c)
  box : Box3 W b4 24 f0 f1 f2
  own : Own5 W (b4 + 1) v n xs
  sz : b4 + 1 ≤ W.heap.size
structure TrC (w : World) (rb ra b4 : Nat) (A : Option Addr) (bs : List Int) : Prop where
  h0 : w.heap.size ≤ rb
  h1 : rb < ra
  h2 : ra < b4
  by_ : RowU w A bs
  bd : ∀ b ∈ bs, 0 ≤ b ∧ b ≤ 65535
  pos : 0 < bs.length
section
variable {w W W' : World} {rb ra b4 c k : Nat} {A : Option Addr} {bs : List Int} {f0 f1 f2 : Value} {v : Nat → Value} {n : Nat → Nat} {xs : Nat → List Value}
theorem TrC.far (hC : TrC w rb ra b4 A bs) : ∀ a, A = some a → a.block ≠ ra := by
  intro a ha e
  obtain ⟨a', ha', hc⟩ := ReadsInt.at_ hC.by_ 0 (by omega) (by have := hC.pos; omega)
  rw [ha] at ha'
  cases ha'
  have hb : (a.add (0 : Int).toNat).block = a.block := by unfold Addr.add; split <;> rfl
  have h0 := hC.h0
  have h1 := hC.h1
  unfold World.cell? at hc
  rw [hb, e, Array.getElem?_eq_none (by omega)] at hc
  simp at hc
theorem TrS.keepg (h : TrS w rb ra b4 A c bs f0 f1 f2 k v n xs W) (hC : TrC w rb ra b4 A bs) (hg : W.grownBy W' none) : TrS w rb ra b4 A c bs f0 f1 f2 k v n xs W' :=
  ⟨h.below.grown hg h.below.size (fun q e => by cases e), (hg.block _ h.cnt.lt (by simp)).trans h.cnt, (hg.block _ h.row.lt (by simp)).trans h.row, (hg.block _ h.box.lt (by simp)).trans h.box, h.own.kept hg (fun j e => by cases e), Nat.le_trans h.sz hg.size⟩
theorem grown_alloc (W : World) (o : Obj) : W.grownBy (W.alloc o) none := ⟨rfl, rfl, rfl, by simp, fun j hj _ => heap_alloc_old W o j hj⟩
theorem TrS.alloc (h : TrS w rb ra b4 A c bs f0 f1 f2 k v n xs W) (hC : TrC w rb ra b4 A bs) (o : Obj) : TrS w rb ra b4 A c bs f0 f1 f2 k v n xs (W.alloc o) := h.keepg hC (grown_alloc W o)
theorem TrS.belowed (h : TrS w rb ra b4 A c bs f0 f1 f2 k v n xs W) (hC : TrC w rb ra b4 A bs) (hb : Below W.heap.size W W') : TrS w rb ra b4 A c bs f0 f1 f2 k v n xs W' := h.keepg hC ⟨hb.os, hb.tape, hb.output, hb.size, fun j hj _ => hb.block j hj⟩
/-- A number is drawn. -/
theorem TrS.draw (h : TrS w rb ra b4 A c bs f0 f1 f2 k v n xs W) (hC : TrC w rb ra b4 A bs) (hk : k ≤ 1000) (m : Nat) (hm : 0 < m) (hm2 : m ≤ 100) :
    Calls Try.prog 75 #[.int .i64 ((m : Nat) : Int), .pointer (some ⟨ra, 0, none⟩), .pointer (some ⟨rb, 0, none⟩)] W fun e w' => (∃ z : Int, e = .returned (.int .i64 z) ∧ 0 ≤ z ∧ z < m) ∧ TrS w rb ra b4 A c bs f0 f1 f2 (k + 1) v n xs w' ∧ Keep W w' :=
  (draw_c h.cnt h.row (hC.by_.below h.below) hC.far hC.bd hC.pos hk hm hm2 (by have := hC.h1; omega)).mono fun e w' ⟨he, hg, hc⟩ =>
    ⟨he, ⟨h.below.grown hg h.below.size (fun q e => by have := hC.h0; have := hC.h1; cases e; omega), by push_cast; exact hc, (hg.block _ h.row.lt (by have := hC.h1; simp; omega)).trans h.row, (hg.block _ h.box.lt (by have := hC.h2; simp; omega)).trans h.box, h.own.kept hg (fun j e => by have := hC.h2; cases e; omega), Nat.le_trans h.sz hg.size⟩,
      (Keep.refl W).grown hg (fun j o e ho => by cases e; rw [h.cnt] at ho; cases ho; rfl)⟩
/-- Something is added to one of the rows. -/
theorem TrS.app (h : TrS w rb ra b4 A c bs f0 f1 f2 k v n xs W) (hC : TrC w rb ra b4 A bs) {q : Nat} (hq : q < 5) (a : Addr) (cc : Nat) (news : List Value) (hl : news.length = sT q) (hnews : ∀ j u, news[j]? = some u → W.cell? (a.add j) = some u) (h1 : ∀ u ∈ news, u.oneCell' = true) (hn : n q ≤ 100) (ty : TypeId) :
    ∃ v' W', (Builtin.append_ #[tT q, tT q] ty #[v q, .slice (some a) 1 cc]).run Try.prog W = .ok v' W' ∧ TrS w rb ra b4 A c bs f0 f1 f2 k (upd v q v') (upd n q (n q + 1)) (upd xs q (xs q ++ news)) W' ∧ Keep W W' := by
  obtain ⟨v', W', hr, ho, hg⟩ := h.own.app h.sz hq a cc news hl hnews h1 hn ty
  have lt := fun j => (h.own.own q hq).lt j
  have c0 := hC.h0
  have c1 := hC.h1
  have c2 := hC.h2
  have far : ∀ b, b ≤ b4 → some b ≠ (v q).ownBlock := fun b hb e => by have := (lt b e.symm).1; omega
  refine ⟨v', W', hr, ⟨h.below.grown hg h.below.size (fun j e => by have := (lt j e).1; omega), (hg.block _ h.cnt.lt (far _ (by omega))).trans h.cnt, (hg.block _ h.row.lt (far _ (by omega))).trans h.row, (hg.block _ h.box.lt (far _ (by omega))).trans h.box, ho, Nat.le_trans h.sz hg.size⟩, (Keep.refl W).grown hg (fun j o e hho => ?_)⟩
  rcases (h.own.own q hq).2 with ⟨e0, _⟩ | ⟨g, cap, cur, e0, _, hcur, _⟩
  · rw [e0] at e; cases e
  · rw [e0] at e
    cases e
    rw [hcur] at hho
    cases hho
    rfl
theorem TrS.set (h : TrS w rb ra b4 A c bs f0 f1 f2 k v n xs W) (hC : TrC w rb ra b4 A bs) {i : Nat} {u g0 g1 g2 : Value} (hb : Box3 (W.setCell ⟨b4, i, none⟩ u) b4 24 g0 g1 g2) : TrS w rb ra b4 A c bs g0 g1 g2 k v n xs (W.setCell ⟨b4, i, none⟩ u) := by
  have c0 := hC.h0
  have c1 := hC.h1
  have c2 := hC.h2
  refine ⟨h.below.setCell (p := ⟨b4, i, none⟩) (by show _ ≤ b4; omega) u, (Below.heap_setCell W _ u _ (by show ra ≠ b4; omega)).trans h.cnt, (Below.heap_setCell W _ u _ (by show rb ≠ b4; omega)).trans h.row, hb, ⟨fun q hq => own_far (h.own.own q hq) fun j hj => ?_, h.own.ne⟩, by simpa using h.sz⟩
  have := ((h.own.own q hq).lt j hj).1
  show j ≠ b4
  omega
end
theorem box3_frozen {W : World} {B : Nat} {t : TypeId} {a b c : Value} (h : Box3 W B t a b c) (j : Nat) : W.frozen? ⟨B, j, none⟩ = false := by simp [World.frozen?, show W.heap[B]? = _ from h]
theorem box3_set0 {W : World} {B : Nat} {t : TypeId} {a b c : Value} (h : Box3 W B t a b c) (u : Value) : Box3 (W.setCell ⟨B, 0, none⟩ u) B t u b c := heap_setCell_same W B 0 _ t u h
theorem box3_set1 {W : World} {B : Nat} {t : TypeId} {a b c : Value} (h : Box3 W B t a b c) (u : Value) : Box3 (W.setCell ⟨B, 1, none⟩ u) B t a u c := heap_setCell_same W B 1 _ t u h
theorem box3_set2 {W : World} {B : Nat} {t : TypeId} {a b c : Value} (h : Box3 W B t a b c) (u : Value) : Box3 (W.setCell ⟨B, 2, none⟩ u) B t a b u := heap_setCell_same W B 2 _ t u h
theorem exec_app {P : Program} {a : Act} {w w' : World} {v xv v' : Value} (x : It) (s y : Operand) (t : TypeId) (ho : x.op = .call { callee := .builtin .append, args := #[s, y], argTypes := #[t, t] }) (hs : a.eval s = v) (hx : a.eval y = xv)
    (hr : (Builtin.append_ #[t, t] x.ty #[v, xv]).run P w = .ok v' w') : (execOp a.eval (mkO x)).run P w = .ok (.value v') w' := by
  unfold execOp
  simp only [mkO, ho, resolve, invoke, builtin, Sem.run_bind, Sem.run_pure, Result.andThen_ok, List.map_toArray, List.map_cons, List.map_nil, hs, hx, hr]
theorem exec_app2 {P : Program} {a : Act} {w w' : World} {v xv v' : Value} (o : Oper) (s y : Operand) (t : TypeId) (ho : o.op = .call { callee := .builtin .append, args := #[s, y], argTypes := #[t, t] }) (hs : a.eval s = v) (hx : a.eval y = xv)
    (hr : (Builtin.append_ #[t, t] o.type #[v, xv]).run P w = .ok v' w') : (execOp a.eval o).run P w = .ok (.value v') w' := by
  unfold execOp
  simp only [ho, resolve, invoke, builtin, Sem.run_bind, Sem.run_pure, Result.andThen_ok, List.map_toArray, List.map_cons, List.map_nil, hs, hx, hr]
end Go.Proofs.Ytafmgmaelnpehaa
end

section
set_option linter.unusedVariables false
set_option linter.unusedSimpArgs false
namespace Go.Proofs.Ytafmgmaelnpehaa
open Go.RowKit Go.TL Go.Shelf Go.Fu
attribute [local go_sem] Oper.semAt_some
open PFurrowAsks Go.Proofs.YtafmgmaelnpehaaW.PrintWords
/-- A station as it truly is, and what is told of it. -/
structure Stn where
  o : Int
  w : Int
  d : Int
  x : S28
  y : S28
  z : S28
def Stn.Ok (s : Stn) : Prop := stOk s.x s.y s.z = true ∧ (s.x.f0 ≤ s.o ∧ s.o ≤ s.x.f1) ∧ (s.y.f0 ≤ s.w ∧ s.w ≤ s.y.f1) ∧ (s.z.f0 ≤ s.d ∧ s.d ≤ s.z.f1)
def soilG : List Stn → Int
  | [] => 0
  | s :: l => s.w * s.d + soilG l
theorem soilG_app (l : List Stn) (s : Stn) : soilG (l ++ [s]) = soilG l + s.w * s.d := by
  induction l with
  | nil => simp [soilG]
  | cons a l ih => simp only [List.cons_append, soilG, ih]; omega
def xsG (L : List Stn) : Nat → List Value
  | 0 => flat ((L.map Stn.x).map toP)
  | 1 => flat ((L.map Stn.y).map toP)
  | 2 => flat ((L.map Stn.z).map toP)
  | 3 => (L.map Stn.o).map (Value.int .i64)
  | _ => (L.map Stn.d).map (Value.int .i64)
theorem Own5.congr {W : World} {B : Nat} {v : Nat → Value} {n n' : Nat → Nat} {xs xs' : Nat → List Value} (h : Own5 W B v n xs) (hn : ∀ q, q < 5 → n q = n' q) (hx : ∀ q, q < 5 → xs q = xs' q) : Own5 W B v n' xs' :=
  ⟨fun q hq => by rw [← hn q hq, ← hx q hq]; exact h.own q hq, h.ne⟩
section
variable {w W W' : World} {rb ra b4 c k : Nat} {A : Option Addr} {bs : List Int} {f0 f1 f2 : Value} {v : Nat → Value} {n n' : Nat → Nat} {xs xs' : Nat → List Value}
theorem TrS.congr (h : TrS w rb ra b4 A c bs f0 f1 f2 k v n xs W) (hn : ∀ q, q < 5 → n q = n' q) (hx : ∀ q, q < 5 → xs q = xs' q) : TrS w rb ra b4 A c bs f0 f1 f2 k v n' xs' W := ⟨h.below, h.cnt, h.row, h.box, h.own.congr hn hx, h.sz⟩
theorem new_cells (W : World) (cs : List Value) (t : TypeId) : ∀ j u, cs[j]? = some u → (W.alloc (.cells cs.toArray t)).cell? ((⟨W.heap.size, 0, none⟩ : Addr).add j) = some u := by
  intro j u hj
  have h0 : (W.alloc (.cells cs.toArray t)).heap[W.heap.size]? = some (.cells cs.toArray t) := World.alloc_heap_new W _
  have hb : (⟨W.heap.size, 0, none⟩ : Addr).add j = ⟨W.heap.size, j, none⟩ := by
    unfold Addr.add
    split
    · rename_i h; rw [h]
    · simp
  rw [hb]
  unfold World.cell?
  rw [h0]
  simpa using hj
/-- A number is added. -/
theorem TrS.add1 (h : TrS w rb ra b4 A c bs f0 f1 f2 k v n xs W) (hC : TrC w rb ra b4 A bs) (q : Nat) (h3 : ¬ q < 3) (hq : q < 5) (u : Int) (hn : n q ≤ 100) (ty : TypeId) :
    ∃ v' W', (Builtin.append_ #[33, 33] ty #[v q, .slice (some ⟨W.heap.size, 0, none⟩) 1 1]).run Try.prog (W.alloc (.cells #[.int .i64 u] 3)) = .ok v' W' ∧ TrS w rb ra b4 A c bs f0 f1 f2 k (upd v q v') (upd n q (n q + 1)) (upd xs q (xs q ++ [.int .i64 u])) W' ∧ Keep W W' := by
  obtain ⟨v', W', hr, hS, hK⟩ := (h.alloc hC (.cells #[.int .i64 u] 3)).app hC hq ⟨W.heap.size, 0, none⟩ 1 [.int .i64 u] (by unfold sT; rw [if_neg h3]; rfl) (new_cells W [.int .i64 u] 3) (by intro x hx; rw [List.mem_singleton] at hx; subst hx; rfl) hn ty
  unfold tT at hr
  rw [if_neg h3] at hr
  exact ⟨v', W', hr, hS, ((Keep.refl W).alloc _).trans hK⟩
/-- A span is added. -/
theorem TrS.add2 (h : TrS w rb ra b4 A c bs f0 f1 f2 k v n xs W) (hC : TrC w rb ra b4 A bs) (q : Nat) (h3 : q < 3) (u1 u2 : Int) (hn : n q ≤ 100) (ty : TypeId) :
    ∃ v' W', (Builtin.append_ #[22, 22] ty #[v q, .slice (some ⟨W.heap.size, 0, none⟩) 1 1]).run Try.prog (W.alloc (.cells #[.int .i64 u1, .int .i64 u2] 28)) = .ok v' W' ∧ TrS w rb ra b4 A c bs f0 f1 f2 k (upd v q v') (upd n q (n q + 1)) (upd xs q (xs q ++ [.int .i64 u1, .int .i64 u2])) W' ∧ Keep W W' := by
  obtain ⟨v', W', hr, hS, hK⟩ := (h.alloc hC (.cells #[.int .i64 u1, .int .i64 u2] 28)).app hC (by omega) ⟨W.heap.size, 0, none⟩ 1 [.int .i64 u1, .int .i64 u2] (by unfold sT; rw [if_pos h3]; rfl) (new_cells W [.int .i64 u1, .int .i64 u2] 28) (by intro x hx; simp only [List.mem_cons, List.not_mem_nil, or_false] at hx; rcases hx with rfl | rfl <;> rfl) hn ty
  unfold tT at hr
  rw [if_pos h3] at hr
  exact ⟨v', W', hr, hS, ((Keep.refl W).alloc _).trans hK⟩
end
theorem wpListIn_app {F : Fence} {nF : Nat} {P : Program} {ops : Array Oper} {rest : List Oper} {o : Oper} {a : Act} {Q : Exit → Act → World → Prop} {w : World} (hgd : o.guard = none) (s y : Operand) (t : TypeId) (ho : o.op = .call { callee := .builtin .append, args := #[s, y], argTypes := #[t, t] }) {v xv v' : Value} {w' : World} (hs : a.eval s = v) (hx : a.eval y = xv)
    (hr : (Builtin.append_ #[t, t] o.type #[v, xv]).run P w = .ok v' w') (h : wpListIn F nF P ops Q rest (a.put o.dst v') w') : wpListIn F nF P ops Q (o :: rest) a w := by
  refine wpListIn_plain hgd fun K hK => ?_
  unfold Oper.wpIn
  refine ⟨by simp [Oper.about, ho, resolve, Target.leads, Sem.run_pure], ?_⟩
  rw [Oper.semAt_plain F _ _ (by rw [ho]; intro c hc'; cases hc')]
  simp [execOp, ho, resolve, invoke, builtin, hs, hx, hr, Result.andThen]
  exact hK _ _ h
end Go.Proofs.Ytafmgmaelnpehaa
end

section
set_option linter.unusedVariables false
set_option linter.unusedSimpArgs false
namespace Go.Proofs.Ytafmgmaelnpehaa
open Go.RowKit Go.TL Go.Shelf Go.Fu
attribute [local go_sem] Oper.semAt_some
open PFurrowAsks Go.Proofs.YtafmgmaelnpehaaW.PrintWords
theorem own_slice {w : World} {base size n : Nat} {e : TypeId} {v : Value} {xs : List Value} (h : w.ownsRow base e size v n xs) : ∃ A c, v = .slice A n c := by
  rcases h.2 with ⟨rfl, hn⟩ | ⟨g, cap, cur, rfl, _⟩
  · exact ⟨none, 0, by rw [hn]⟩
  · exact ⟨_, _, rfl⟩
def t11_0t : It := ⟨(Op.fieldAddr 24 (Operand.tmp 4) 0), some 58, 0, true, none⟩
def t11_1t : It := ⟨(Op.load 22 (Operand.tmp 58)), some 59, 22, true, none⟩
def t11_2t : It := ⟨(Op.move (Operand.tmp 8)), some 60, 3, true, none⟩
def t11_3t : It := ⟨(Op.move (Operand.tmp 3)), some 61, 46, true, none⟩
def t11_6t : It := ⟨(Op.move (Operand.tmp 8)), some 64, 3, true, none⟩
def t11_7t : It := ⟨(Op.move (Operand.tmp 3)), some 65, 46, true, none⟩
def t11_4 : It := ⟨(Op.call { callee := (Callee.value (Operand.tmp 61)), args := #[(Operand.const (Value.int IntKind.i64 4))], argTypes := #[3] }), some 62, 3, false, none⟩
def t11_5t : It := ⟨(Op.binOp BinOp.sub 3 (Operand.tmp 60) (Operand.tmp 62) 3), some 63, 3, true, none⟩
def t11_8 : It := ⟨(Op.call { callee := (Callee.value (Operand.tmp 65)), args := #[(Operand.const (Value.int IntKind.i64 4))], argTypes := #[3] }), some 66, 3, false, none⟩
def t11_9 : It := ⟨(Op.binOp BinOp.add 3 (Operand.tmp 64) (Operand.tmp 66) 3), some 67, 3, false, none⟩
def t11_10 : It := ⟨(Op.call { callee := (Callee.value (Operand.func 31)), args := #[(Operand.tmp 63), (Operand.tmp 67)], argTypes := #[3, 3] }), some 68, 28, false, none⟩
def t11_11 : It := ⟨(Op.buildSlice 22 1 #[(0, (Operand.tmp 68))]), some 69, 22, false, none⟩
def t11_12 : It := ⟨(Op.call { callee := (Callee.builtin Builtin.append), args := #[(Operand.tmp 59), (Operand.tmp 69)], argTypes := #[22, 22] }), some 70, 22, false, none⟩
def t11_13 : It := ⟨(Op.fieldAddr 24 (Operand.tmp 4) 0), some 71, 0, false, none⟩
def t11_14 : It := ⟨(Op.store 22 (Operand.tmp 71) (Operand.tmp 70)), none, 0, false, none⟩
set_option maxRecDepth 100000 in
set_option maxHeartbeats 4000000 in
theorem tl_11 {w : World} {rb ra b4 : Nat} {A : Option Addr} {c : Nat} {bs : List Int} {W : World} {k N : Nat} {v : Nat → Value} {n : Nat → Nat} {xs : Nat → List Value} {w5 w6 : Value} {so so8 so9 so10 mm : Int} (hC : TrC w rb ra b4 A bs) (hT : TrS w rb ra b4 A c bs (v 0) (v 1) (v 2) (k) (v) (n) (xs) W) (hk : k ≤ 500) (hn : n 0 ≤ 50) (ho : -9 ≤ so8 ∧ so8 ≤ 9) (t : Array Value) (hSl : Slots (none :: none :: none :: some (.func (.func 75) #[] #[.pointer (some ⟨ra, 0, none⟩), .pointer (some ⟨rb, 0, none⟩)]) :: some (.pointer (some ⟨b4, 0, none⟩)) :: some (w5) :: some (w6) :: some (.int .i64 so) :: some (.int .i64 so8) :: some (.int .i64 so9) :: some (.int .i64 so10) :: none :: none :: none :: o4 (o4 (o16 (some (.int .i64 ((N : Nat) : Int)) :: some (.int .i64 mm) :: o4 (o16 (o64 (o64 (o64 [])))))))) t) :
    Exec Try.prog none (sub (Try.f6.body.getD .skip) [1, 1, 1, 1, 1, 1, 0, 1, 0, 0, 1, 1, 0, 0, 1, 1, 0]) t W (andThen (fun t' W' => ∃ (u : Value) (a b : Int), 0 ≤ a ∧ a < (4 : Nat) ∧ 0 ≤ b ∧ b < (4 : Nat) ∧ TrS w rb ra b4 A c bs u (v 1) (v 2) (k + 1 + 1) (upd v 0 u) (upd n 0 (n 0 + 1)) (upd xs 0 (xs 0 ++ [.int .i64 (so8 - a), .int .i64 (so8 + b)])) W' ∧ Slots (none :: none :: none :: some (.func (.func 75) #[] #[.pointer (some ⟨ra, 0, none⟩), .pointer (some ⟨rb, 0, none⟩)]) :: some (.pointer (some ⟨b4, 0, none⟩)) :: some (w5) :: some (w6) :: some (.int .i64 so) :: some (.int .i64 so8) :: some (.int .i64 so9) :: some (.int .i64 so10) :: none :: none :: none :: o4 (o4 (o16 (some (.int .i64 ((N : Nat) : Int)) :: some (.int .i64 mm) :: o4 (o16 (o64 (o64 (o64 [])))))))) t') fun _ _ _ => False) := by
  obtain ⟨x, hx⟩ := Slots.open_ hSl; simp only [fill, Nat.reduceAdd] at hx; subst hx; clear hSl
  have hu22 := Try.underlying22
  have hu28 := Try.underlying28
  have cB0 : ∀ W', Box3 W' b4 24 (v 0) (v 1) (v 2) → W'.cell? ⟨b4, 0, none⟩ = some (v 0) := fun W' h => h.cell0
  have cB1 : ∀ W', Box3 W' b4 24 (v 0) (v 1) (v 2) → W'.cell? ⟨b4, 1, none⟩ = some (v 1) := fun W' h => h.cell1
  have cB2 : ∀ W', Box3 W' b4 24 (v 0) (v 1) (v 2) → W'.cell? ⟨b4, 2, none⟩ = some (v 2) := fun W' h => h.cell2
  have hKW : Keep W W.drew := (Keep.refl W).drew
  replace hT : TrS w rb ra b4 A c bs (v 0) (v 1) (v 2) (k) (v) (n) (xs) W.drew := ⟨hT.below.drew, hT.cnt, hT.row, hT.box, ⟨fun q hq => (hT.own.own q hq).drew, hT.own.ne⟩, hT.sz⟩
  refine region_tree2 (c := (sub (Try.f6.body.getD .skip) [1, 1, 1, 1, 1, 1, 0, 1, 0, 0, 1, 1, 0, 0, 1, 1, 0])) (id := 11) 13 2 (.one 0 true (.one 1 true (.one 2 true (.one 3 true (.one 6 true (.one 7 true (.one 4 false (.one 5 true (.one 8 false (.one 9 false (.one 10 false (.one 11 false (.one 12 false (.nil)))))))))))))) (.one 13 false (.one 14 false (.nil))) (Opq ((regOps (sub (Try.f6.body.getD .skip) [1, 1, 1, 1, 1, 1, 0, 1, 0, 0, 1, 1, 0, 0, 1, 1, 0])).toList.take 13).toArray) (Opq (regOps (sub (Try.f6.body.getD .skip) [1, 1, 1, 1, 1, 1, 0, 1, 0, 0, 1, 1, 0, 0, 1, 1, 0]))) rfl rfl rfl (by kernel_rfl) (by kernel_rfl) (by kernel_rfl) (by kernel_rfl) (by kernel_rfl) (by kernel_rfl) (by kernel_rfl) (by kernel_rfl) (by kernel_rfl) (by kernel_rfl) (by kernel_rfl) [0, 1, 0, 0, 8, 20, 0, 0, 144, 320, 800, 1024, 3074] [0, 1, 0, 0, 8, 20, 0, 0, 144, 320, 800, 1024, 3074, 8191, 16383] (by kernel_rfl) (by kernel_rfl) (by kernel_rfl) (by kernel_rfl) (fun W' => Box3 W' b4 24 (v 0) (v 1) (v 2)) fun ds Q' Qh hQn hQT => ?_
  generalize W.drew = X0 at *
  refine tr_take t11_0t (.pointer (some ⟨b4, 0, none⟩)) (by kernel_rfl) rfl (by first | exact rfl | trivial) (fun wq hq => ?_) (hT.box) ?_; (focus (simp [go_sem, mkO, t11_0t]; done)); simp only [t11_0t, put_eq, List.set_cons_succ, List.set_cons_zero]
  refine tr_take t11_1t (v 0) (by kernel_rfl) rfl (by first | exact rfl | trivial) (fun wq hq => ?_) (hT.box) ?_; (focus (simp [go_sem, mkO, t11_1t, cB0 wq hq]; done)); simp only [t11_1t, put_eq, List.set_cons_succ, List.set_cons_zero]
  refine tr_take t11_2t (.int .i64 so8) (by kernel_rfl) rfl (by first | exact rfl | trivial) (fun wq hq => ?_) (hT.box) ?_; (focus (exact rfl)); simp only [t11_2t, put_eq, List.set_cons_succ, List.set_cons_zero]
  refine tr_take t11_3t (.func (.func 75) #[] #[.pointer (some ⟨ra, 0, none⟩), .pointer (some ⟨rb, 0, none⟩)]) (by kernel_rfl) rfl (by first | exact rfl | trivial) (fun wq hq => ?_) (hT.box) ?_; (focus (exact rfl)); simp only [t11_3t, put_eq, List.set_cons_succ, List.set_cons_zero]
  refine tr_take t11_6t (.int .i64 so8) (by kernel_rfl) rfl (by first | exact rfl | trivial) (fun wq hq => ?_) (hT.box) ?_; (focus (exact rfl)); simp only [t11_6t, put_eq, List.set_cons_succ, List.set_cons_zero]
  refine tr_take t11_7t (.func (.func 75) #[] #[.pointer (some ⟨ra, 0, none⟩), .pointer (some ⟨rb, 0, none⟩)]) (by kernel_rfl) rfl (by first | exact rfl | trivial) (fun wq hq => ?_) (hT.box) ?_; (focus (exact rfl)); simp only [t11_7t, put_eq, List.set_cons_succ, List.set_cons_zero]
  refine tr_call t11_4 (f := 75) (args := #[.int .i64 4, .pointer (some ⟨ra, 0, none⟩), .pointer (some ⟨rb, 0, none⟩)]) (by kernel_rfl) rfl (by first | exact rfl | trivial) (by simp [go_sem, mkO, t11_4]) ?_
  refine (hT.draw hC (by omega) 4 (by omega) (by omega)).mono ?_
  rintro e2 X1 ⟨⟨a, rfl, a1, a2⟩, hT2, hK2⟩
  clear hT; have hT := hT2; clear hT2; replace hKW := hKW.trans hK2; clear hK2
  refine .inl ⟨_, rfl, hT.box, ?_⟩
  simp only [t11_4, put_eq, List.set_cons_succ, List.set_cons_zero]
  have w1 : IntKind.i64.wrap (so8 - a) = so8 - a := IntWalk.i64_in _ (by omega)
  refine tr_take t11_5t (.int .i64 (so8 - a)) (by kernel_rfl) rfl (by first | exact rfl | trivial) (fun wq hq => ?_) (hT.box) ?_; (focus (simp [go_sem, mkO, t11_5t, w1]; done)); simp only [t11_5t, put_eq, List.set_cons_succ, List.set_cons_zero]
  refine tr_call t11_8 (f := 75) (args := #[.int .i64 4, .pointer (some ⟨ra, 0, none⟩), .pointer (some ⟨rb, 0, none⟩)]) (by kernel_rfl) rfl (by first | exact rfl | trivial) (by simp [go_sem, mkO, t11_8]) ?_
  refine (hT.draw hC (by omega) 4 (by omega) (by omega)).mono ?_
  rintro e2 X2 ⟨⟨b, rfl, b1, b2⟩, hT2, hK2⟩
  clear hT; have hT := hT2; clear hT2; replace hKW := hKW.trans hK2; clear hK2
  refine .inl ⟨_, rfl, hT.box, ?_⟩
  simp only [t11_8, put_eq, List.set_cons_succ, List.set_cons_zero]
  have w2 : IntKind.i64.wrap (so8 + b) = so8 + b := IntWalk.i64_in _ (by omega)
  refine tr_make t11_9 (.int .i64 (so8 + b)) _ (by kernel_rfl) rfl (by first | exact rfl | trivial) ?_ (hT.box) ?_; (focus (simp [go_sem, mkO, t11_9, w2]; done)); simp only [t11_9, put_eq, List.set_cons_succ, List.set_cons_zero]
  refine tr_call t11_10 (f := 31) (args := #[.int .i64 (so8 - a), .int .i64 (so8 + b)]) (by kernel_rfl) rfl (by first | exact rfl | trivial) (by simp [go_sem, mkO, t11_10]) ?_
  refine (span_c (so8 - a) (so8 + b) _).mono ?_
  rintro e2 X3 ⟨rfl, hz⟩
  replace hT := hT.belowed hC hz; replace hKW := hKW.trans (Keep.of_below hz); clear hz
  refine .inl ⟨_, rfl, hT.box, ?_⟩
  simp only [t11_10, put_eq, List.set_cons_succ, List.set_cons_zero]
  obtain ⟨u0, X4, hr, hT2, hK2⟩ := hT.add2 hC 0 (by omega) (so8 - a) (so8 + b) (by first | omega | (simp only [upd]; omega) | (simp [upd]; omega)) 22
  refine tr_make t11_11 (.slice (some ⟨X3.heap.size, 0, none⟩) 1 1) (X3.alloc (.cells #[.int .i64 (so8 - a), .int .i64 (so8 + b)] 28)) (by kernel_rfl) rfl (by first | exact rfl | trivial) (by simp [go_sem, mkO, t11_11, hu22, hu28]) (hT.alloc hC _).box ?_; simp only [t11_11, put_eq, List.set_cons_succ, List.set_cons_zero]
  refine tr_make t11_12 u0 X4 (by kernel_rfl) rfl (by first | exact rfl | trivial) (exec_app t11_12 _ _ _ rfl rfl rfl hr) hT2.box ?_; simp only [t11_12, put_eq, List.set_cons_succ, List.set_cons_zero]
  clear hT hr; have hT := hT2; clear hT2; replace hKW := hKW.trans hK2; clear hK2
  obtain ⟨A0, c0, e0⟩ := own_slice (hT.own.own 0 (by omega)); replace e0 : u0 = .slice A0 (n 0 + 1) c0 := by have a : u0 = _ := e0; rw [a]; simp [upd]
  refine hQT _ _ ?_
  refine tr_make t11_13 (.pointer (some ⟨b4, 0, none⟩)) X4 (by kernel_rfl) rfl (by first | exact rfl | trivial) ?_ (trivial) ?_; (focus (simp [go_sem, mkO, t11_13]; done)); simp only [t11_13, put_eq, List.set_cons_succ, List.set_cons_zero]
  have s0 := hT.box.cell0; have s1 := box3_frozen hT.box 0
  refine tr_store t11_14 (X4.setCell ⟨b4, 0, none⟩ u0) (by kernel_rfl) rfl (by first | exact rfl | trivial) (by simp [go_sem, mkO, t11_14, s0, s1, e0]) trivial ?_; simp only [t11_14, put_none]
  replace hT := hT.set hC (box3_set0 hT.box u0); replace hKW := hKW.setCell ⟨b4, 0, none⟩ u0; clear s0 s1
  generalize X4.setCell ⟨b4, 0, none⟩ u0 = X5 at *
  exact hQn _ _ hKW ⟨u0, a, b, a1, a2, b1, b2, hT, (by simp only [Slots, Fits, and_self])⟩
end Go.Proofs.Ytafmgmaelnpehaa
end

section
set_option linter.unusedVariables false
set_option linter.unusedSimpArgs false
namespace Go.Proofs.Ytafmgmaelnpehaa
open Go.RowKit Go.TL Go.Shelf Go.Fu
attribute [local go_sem] Oper.semAt_some
open PFurrowAsks Go.Proofs.YtafmgmaelnpehaaW.PrintWords
def t12_0t : It := ⟨(Op.fieldAddr 24 (Operand.tmp 4) 1), some 72, 0, true, none⟩
def t12_1t : It := ⟨(Op.load 22 (Operand.tmp 72)), some 73, 22, true, none⟩
def t12_2t : It := ⟨(Op.move (Operand.tmp 9)), some 74, 3, true, none⟩
def t12_3t : It := ⟨(Op.move (Operand.tmp 3)), some 75, 46, true, none⟩
def t12_6t : It := ⟨(Op.move (Operand.tmp 9)), some 78, 3, true, none⟩
def t12_7t : It := ⟨(Op.move (Operand.tmp 3)), some 79, 46, true, none⟩
def t12_13t : It := ⟨(Op.fieldAddr 24 (Operand.tmp 4) 2), some 85, 0, true, none⟩
def t12_14t : It := ⟨(Op.load 22 (Operand.tmp 85)), some 86, 22, true, none⟩
def t12_15t : It := ⟨(Op.move (Operand.tmp 10)), some 87, 3, true, none⟩
def t12_16t : It := ⟨(Op.move (Operand.tmp 3)), some 88, 46, true, none⟩
def t12_19t : It := ⟨(Op.move (Operand.tmp 10)), some 91, 3, true, none⟩
def t12_20t : It := ⟨(Op.move (Operand.tmp 3)), some 92, 46, true, none⟩
def t12_4 : It := ⟨(Op.call { callee := (Callee.value (Operand.tmp 75)), args := #[(Operand.const (Value.int IntKind.i64 5))], argTypes := #[3] }), some 76, 3, false, none⟩
def t12_5t : It := ⟨(Op.binOp BinOp.sub 3 (Operand.tmp 74) (Operand.tmp 76) 3), some 77, 3, true, none⟩
def t12_8 : It := ⟨(Op.call { callee := (Callee.value (Operand.tmp 79)), args := #[(Operand.const (Value.int IntKind.i64 5))], argTypes := #[3] }), some 80, 3, false, none⟩
def t12_9 : It := ⟨(Op.binOp BinOp.add 3 (Operand.tmp 78) (Operand.tmp 80) 3), some 81, 3, false, none⟩
def t12_10 : It := ⟨(Op.call { callee := (Callee.value (Operand.func 31)), args := #[(Operand.tmp 77), (Operand.tmp 81)], argTypes := #[3, 3] }), some 82, 28, false, none⟩
def t12_11 : It := ⟨(Op.buildSlice 22 1 #[(0, (Operand.tmp 82))]), some 83, 22, false, none⟩
def t12_12 : It := ⟨(Op.call { callee := (Callee.builtin Builtin.append), args := #[(Operand.tmp 73), (Operand.tmp 83)], argTypes := #[22, 22] }), some 84, 22, false, none⟩
def t12_26t : It := ⟨(Op.fieldAddr 24 (Operand.tmp 4) 1), some 98, 0, true, none⟩
def t12_17 : It := ⟨(Op.call { callee := (Callee.value (Operand.tmp 88)), args := #[(Operand.const (Value.int IntKind.i64 5))], argTypes := #[3] }), some 89, 3, false, none⟩
def t12_18t : It := ⟨(Op.binOp BinOp.sub 3 (Operand.tmp 87) (Operand.tmp 89) 3), some 90, 3, true, none⟩
def t12_21 : It := ⟨(Op.call { callee := (Callee.value (Operand.tmp 92)), args := #[(Operand.const (Value.int IntKind.i64 5))], argTypes := #[3] }), some 93, 3, false, none⟩
def t12_22 : It := ⟨(Op.binOp BinOp.add 3 (Operand.tmp 91) (Operand.tmp 93) 3), some 94, 3, false, none⟩
def t12_23 : It := ⟨(Op.call { callee := (Callee.value (Operand.func 31)), args := #[(Operand.tmp 90), (Operand.tmp 94)], argTypes := #[3, 3] }), some 95, 28, false, none⟩
def t12_24 : It := ⟨(Op.buildSlice 22 1 #[(0, (Operand.tmp 95))]), some 96, 22, false, none⟩
def t12_25 : It := ⟨(Op.call { callee := (Callee.builtin Builtin.append), args := #[(Operand.tmp 86), (Operand.tmp 96)], argTypes := #[22, 22] }), some 97, 22, false, none⟩
def t12_27 : It := ⟨(Op.store 22 (Operand.tmp 98) (Operand.tmp 84)), none, 0, false, none⟩
def t12_28 : It := ⟨(Op.fieldAddr 24 (Operand.tmp 4) 2), some 99, 0, false, none⟩
def t12_29 : It := ⟨(Op.store 22 (Operand.tmp 99) (Operand.tmp 97)), none, 0, false, none⟩
set_option maxRecDepth 100000 in
set_option maxHeartbeats 4000000 in
theorem tl_12 {w : World} {rb ra b4 : Nat} {A : Option Addr} {c : Nat} {bs : List Int} {W : World} {k N : Nat} {v : Nat → Value} {n : Nat → Nat} {xs : Nat → List Value} {w5 w6 : Value} {so so8 so9 so10 mm : Int} (hC : TrC w rb ra b4 A bs) (hT : TrS w rb ra b4 A c bs (v 0) (v 1) (v 2) (k) (v) (n) (xs) W) (hk : k ≤ 500) (hn : n 1 ≤ 50) (hn2 : n 2 ≤ 50) (ho : 0 ≤ so9 ∧ so9 ≤ 100) (ho2 : 0 ≤ so10 ∧ so10 ≤ 100) (t : Array Value) (hSl : Slots (none :: none :: none :: some (.func (.func 75) #[] #[.pointer (some ⟨ra, 0, none⟩), .pointer (some ⟨rb, 0, none⟩)]) :: some (.pointer (some ⟨b4, 0, none⟩)) :: some (w5) :: some (w6) :: some (.int .i64 so) :: some (.int .i64 so8) :: some (.int .i64 so9) :: some (.int .i64 so10) :: none :: none :: none :: o4 (o4 (o16 (some (.int .i64 ((N : Nat) : Int)) :: some (.int .i64 mm) :: o4 (o16 (o64 (o64 (o64 [])))))))) t) :
    Exec Try.prog none (sub (Try.f6.body.getD .skip) [1, 1, 1, 1, 1, 1, 0, 1, 0, 0, 1, 1, 0, 0, 1, 1, 1, 0]) t W (andThen (fun t' W' => ∃ (u1 u2 : Value) (a b f g : Int), 0 ≤ a ∧ a < (5 : Nat) ∧ 0 ≤ b ∧ b < (5 : Nat) ∧ 0 ≤ f ∧ f < (5 : Nat) ∧ 0 ≤ g ∧ g < (5 : Nat) ∧ TrS w rb ra b4 A c bs (v 0) u1 u2 (k + 1 + 1 + 1 + 1) (upd (upd v 1 u1) 2 u2) (upd (upd n 1 (n 1 + 1)) 2 ((upd n 1 (n 1 + 1)) 2 + 1)) (upd (upd xs 1 (xs 1 ++ [.int .i64 (so9 - a), .int .i64 (so9 + b)])) 2 ((upd xs 1 (xs 1 ++ [.int .i64 (so9 - a), .int .i64 (so9 + b)])) 2 ++ [.int .i64 (so10 - f), .int .i64 (so10 + g)])) W' ∧ Slots (none :: none :: none :: some (.func (.func 75) #[] #[.pointer (some ⟨ra, 0, none⟩), .pointer (some ⟨rb, 0, none⟩)]) :: some (.pointer (some ⟨b4, 0, none⟩)) :: some (w5) :: some (w6) :: some (.int .i64 so) :: some (.int .i64 so8) :: some (.int .i64 so9) :: some (.int .i64 so10) :: none :: none :: none :: o4 (o4 (o16 (some (.int .i64 ((N : Nat) : Int)) :: some (.int .i64 mm) :: o4 (o16 (o64 (o64 (o64 [])))))))) t') fun _ _ _ => False) := by
  obtain ⟨x, hx⟩ := Slots.open_ hSl; simp only [fill, Nat.reduceAdd] at hx; subst hx; clear hSl
  have hu22 := Try.underlying22
  have hu28 := Try.underlying28
  have cB0 : ∀ W', Box3 W' b4 24 (v 0) (v 1) (v 2) → W'.cell? ⟨b4, 0, none⟩ = some (v 0) := fun W' h => h.cell0
  have cB1 : ∀ W', Box3 W' b4 24 (v 0) (v 1) (v 2) → W'.cell? ⟨b4, 1, none⟩ = some (v 1) := fun W' h => h.cell1
  have cB2 : ∀ W', Box3 W' b4 24 (v 0) (v 1) (v 2) → W'.cell? ⟨b4, 2, none⟩ = some (v 2) := fun W' h => h.cell2
  have hKW : Keep W W.drew := (Keep.refl W).drew
  replace hT : TrS w rb ra b4 A c bs (v 0) (v 1) (v 2) (k) (v) (n) (xs) W.drew := ⟨hT.below.drew, hT.cnt, hT.row, hT.box, ⟨fun q hq => (hT.own.own q hq).drew, hT.own.ne⟩, hT.sz⟩
  refine region_tree2 (c := (sub (Try.f6.body.getD .skip) [1, 1, 1, 1, 1, 1, 0, 1, 0, 0, 1, 1, 0, 0, 1, 1, 1, 0])) (id := 12) 27 3 (.one 0 true (.one 1 true (.one 2 true (.one 3 true (.one 6 true (.one 7 true (.one 13 true (.one 14 true (.one 15 true (.one 16 true (.one 19 true (.one 20 true (.one 4 false (.one 5 true (.one 8 false (.one 9 false (.one 10 false (.one 11 false (.one 12 false (.one 26 true (.one 17 false (.one 18 true (.one 21 false (.one 22 false (.one 23 false (.one 24 false (.one 25 false (.nil)))))))))))))))))))))))))))) (.one 27 false (.one 28 false (.one 29 false (.nil)))) (Opq ((regOps (sub (Try.f6.body.getD .skip) [1, 1, 1, 1, 1, 1, 0, 1, 0, 0, 1, 1, 0, 0, 1, 1, 1, 0])).toList.take 27).toArray) (Opq (regOps (sub (Try.f6.body.getD .skip) [1, 1, 1, 1, 1, 1, 0, 1, 0, 0, 1, 1, 0, 0, 1, 1, 1, 0]))) rfl rfl rfl (by kernel_rfl) (by kernel_rfl) (by kernel_rfl) (by kernel_rfl) (by kernel_rfl) (by kernel_rfl) (by kernel_rfl) (by kernel_rfl) (by kernel_rfl) (by kernel_rfl) (by kernel_rfl) [0, 1, 0, 0, 8, 20, 0, 0, 144, 320, 800, 1024, 3074, 0, 8192, 0, 0, 69632, 163840, 0, 0, 1179648, 2621440, 6553600, 8388608, 25182208, 32767] [0, 1, 0, 0, 8, 20, 0, 0, 144, 320, 800, 1024, 3074, 0, 8192, 0, 0, 69632, 163840, 0, 0, 1179648, 2621440, 6553600, 8388608, 25182208, 32767, 100696063, 268435455, 536870911] (by kernel_rfl) (by kernel_rfl) (by kernel_rfl) (by kernel_rfl) (fun W' => Box3 W' b4 24 (v 0) (v 1) (v 2)) fun ds Q' Qh hQn hQT => ?_
  generalize W.drew = X0 at *
  refine tr_take t12_0t (.pointer (some ⟨b4, 1, none⟩)) (by kernel_rfl) rfl (by first | exact rfl | trivial) (fun wq hq => ?_) (hT.box) ?_; (focus (simp [go_sem, mkO, t12_0t]; done)); simp only [t12_0t, put_eq, List.set_cons_succ, List.set_cons_zero]
  refine tr_take t12_1t (v 1) (by kernel_rfl) rfl (by first | exact rfl | trivial) (fun wq hq => ?_) (hT.box) ?_; (focus (simp [go_sem, mkO, t12_1t, cB1 wq hq]; done)); simp only [t12_1t, put_eq, List.set_cons_succ, List.set_cons_zero]
  refine tr_take t12_2t (.int .i64 so9) (by kernel_rfl) rfl (by first | exact rfl | trivial) (fun wq hq => ?_) (hT.box) ?_; (focus (exact rfl)); simp only [t12_2t, put_eq, List.set_cons_succ, List.set_cons_zero]
  refine tr_take t12_3t (.func (.func 75) #[] #[.pointer (some ⟨ra, 0, none⟩), .pointer (some ⟨rb, 0, none⟩)]) (by kernel_rfl) rfl (by first | exact rfl | trivial) (fun wq hq => ?_) (hT.box) ?_; (focus (exact rfl)); simp only [t12_3t, put_eq, List.set_cons_succ, List.set_cons_zero]
  refine tr_take t12_6t (.int .i64 so9) (by kernel_rfl) rfl (by first | exact rfl | trivial) (fun wq hq => ?_) (hT.box) ?_; (focus (exact rfl)); simp only [t12_6t, put_eq, List.set_cons_succ, List.set_cons_zero]
  refine tr_take t12_7t (.func (.func 75) #[] #[.pointer (some ⟨ra, 0, none⟩), .pointer (some ⟨rb, 0, none⟩)]) (by kernel_rfl) rfl (by first | exact rfl | trivial) (fun wq hq => ?_) (hT.box) ?_; (focus (exact rfl)); simp only [t12_7t, put_eq, List.set_cons_succ, List.set_cons_zero]
  refine tr_take t12_13t (.pointer (some ⟨b4, 2, none⟩)) (by kernel_rfl) rfl (by first | exact rfl | trivial) (fun wq hq => ?_) (hT.box) ?_; (focus (simp [go_sem, mkO, t12_13t]; done)); simp only [t12_13t, put_eq, List.set_cons_succ, List.set_cons_zero]
  refine tr_take t12_14t (v 2) (by kernel_rfl) rfl (by first | exact rfl | trivial) (fun wq hq => ?_) (hT.box) ?_; (focus (simp [go_sem, mkO, t12_14t, cB2 wq hq]; done)); simp only [t12_14t, put_eq, List.set_cons_succ, List.set_cons_zero]
  refine tr_take t12_15t (.int .i64 so10) (by kernel_rfl) rfl (by first | exact rfl | trivial) (fun wq hq => ?_) (hT.box) ?_; (focus (exact rfl)); simp only [t12_15t, put_eq, List.set_cons_succ, List.set_cons_zero]
  refine tr_take t12_16t (.func (.func 75) #[] #[.pointer (some ⟨ra, 0, none⟩), .pointer (some ⟨rb, 0, none⟩)]) (by kernel_rfl) rfl (by first | exact rfl | trivial) (fun wq hq => ?_) (hT.box) ?_; (focus (exact rfl)); simp only [t12_16t, put_eq, List.set_cons_succ, List.set_cons_zero]
  refine tr_take t12_19t (.int .i64 so10) (by kernel_rfl) rfl (by first | exact rfl | trivial) (fun wq hq => ?_) (hT.box) ?_; (focus (exact rfl)); simp only [t12_19t, put_eq, List.set_cons_succ, List.set_cons_zero]
  refine tr_take t12_20t (.func (.func 75) #[] #[.pointer (some ⟨ra, 0, none⟩), .pointer (some ⟨rb, 0, none⟩)]) (by kernel_rfl) rfl (by first | exact rfl | trivial) (fun wq hq => ?_) (hT.box) ?_; (focus (exact rfl)); simp only [t12_20t, put_eq, List.set_cons_succ, List.set_cons_zero]
  refine tr_call t12_4 (f := 75) (args := #[.int .i64 5, .pointer (some ⟨ra, 0, none⟩), .pointer (some ⟨rb, 0, none⟩)]) (by kernel_rfl) rfl (by first | exact rfl | trivial) (by simp [go_sem, mkO, t12_4]) ?_
  refine (hT.draw hC (by omega) 5 (by omega) (by omega)).mono ?_
  rintro e2 X1 ⟨⟨a, rfl, a1, a2⟩, hT2, hK2⟩
  clear hT; have hT := hT2; clear hT2; replace hKW := hKW.trans hK2; clear hK2
  refine .inl ⟨_, rfl, hT.box, ?_⟩
  simp only [t12_4, put_eq, List.set_cons_succ, List.set_cons_zero]
  have w1 : IntKind.i64.wrap (so9 - a) = so9 - a := IntWalk.i64_in _ (by omega)
  refine tr_take t12_5t (.int .i64 (so9 - a)) (by kernel_rfl) rfl (by first | exact rfl | trivial) (fun wq hq => ?_) (hT.box) ?_; (focus (simp [go_sem, mkO, t12_5t, w1]; done)); simp only [t12_5t, put_eq, List.set_cons_succ, List.set_cons_zero]
  refine tr_call t12_8 (f := 75) (args := #[.int .i64 5, .pointer (some ⟨ra, 0, none⟩), .pointer (some ⟨rb, 0, none⟩)]) (by kernel_rfl) rfl (by first | exact rfl | trivial) (by simp [go_sem, mkO, t12_8]) ?_
  refine (hT.draw hC (by omega) 5 (by omega) (by omega)).mono ?_
  rintro e2 X2 ⟨⟨b, rfl, b1, b2⟩, hT2, hK2⟩
  clear hT; have hT := hT2; clear hT2; replace hKW := hKW.trans hK2; clear hK2
  refine .inl ⟨_, rfl, hT.box, ?_⟩
  simp only [t12_8, put_eq, List.set_cons_succ, List.set_cons_zero]
  have w2 : IntKind.i64.wrap (so9 + b) = so9 + b := IntWalk.i64_in _ (by omega)
  refine tr_make t12_9 (.int .i64 (so9 + b)) _ (by kernel_rfl) rfl (by first | exact rfl | trivial) ?_ (hT.box) ?_; (focus (simp [go_sem, mkO, t12_9, w2]; done)); simp only [t12_9, put_eq, List.set_cons_succ, List.set_cons_zero]
  refine tr_call t12_10 (f := 31) (args := #[.int .i64 (so9 - a), .int .i64 (so9 + b)]) (by kernel_rfl) rfl (by first | exact rfl | trivial) (by simp [go_sem, mkO, t12_10]) ?_
  refine (span_c (so9 - a) (so9 + b) _).mono ?_
  rintro e2 X3 ⟨rfl, hz⟩
  replace hT := hT.belowed hC hz; replace hKW := hKW.trans (Keep.of_below hz); clear hz
  refine .inl ⟨_, rfl, hT.box, ?_⟩
  simp only [t12_10, put_eq, List.set_cons_succ, List.set_cons_zero]
  obtain ⟨u1, X4, hr, hT2, hK2⟩ := hT.add2 hC 1 (by omega) (so9 - a) (so9 + b) (by first | omega | (simp only [upd]; omega) | (simp [upd]; omega)) 22
  refine tr_make t12_11 (.slice (some ⟨X3.heap.size, 0, none⟩) 1 1) (X3.alloc (.cells #[.int .i64 (so9 - a), .int .i64 (so9 + b)] 28)) (by kernel_rfl) rfl (by first | exact rfl | trivial) (by simp [go_sem, mkO, t12_11, hu22, hu28]) (hT.alloc hC _).box ?_; simp only [t12_11, put_eq, List.set_cons_succ, List.set_cons_zero]
  refine tr_make t12_12 u1 X4 (by kernel_rfl) rfl (by first | exact rfl | trivial) (exec_app t12_12 _ _ _ rfl rfl rfl hr) hT2.box ?_; simp only [t12_12, put_eq, List.set_cons_succ, List.set_cons_zero]
  clear hT hr; have hT := hT2; clear hT2; replace hKW := hKW.trans hK2; clear hK2
  obtain ⟨A1, c1, e1⟩ := own_slice (hT.own.own 1 (by omega)); replace e1 : u1 = .slice A1 (n 1 + 1) c1 := by have a : u1 = _ := e1; rw [a]; simp [upd]
  refine tr_take t12_26t (.pointer (some ⟨b4, 1, none⟩)) (by kernel_rfl) rfl (by first | exact rfl | trivial) (fun wq hq => ?_) (hT.box) ?_; (focus (simp [go_sem, mkO, t12_26t]; done)); simp only [t12_26t, put_eq, List.set_cons_succ, List.set_cons_zero]
  refine tr_call t12_17 (f := 75) (args := #[.int .i64 5, .pointer (some ⟨ra, 0, none⟩), .pointer (some ⟨rb, 0, none⟩)]) (by kernel_rfl) rfl (by first | exact rfl | trivial) (by simp [go_sem, mkO, t12_17]) ?_
  refine (hT.draw hC (by omega) 5 (by omega) (by omega)).mono ?_
  rintro e2 X5 ⟨⟨f, rfl, f1, f2⟩, hT2, hK2⟩
  clear hT; have hT := hT2; clear hT2; replace hKW := hKW.trans hK2; clear hK2
  refine .inl ⟨_, rfl, hT.box, ?_⟩
  simp only [t12_17, put_eq, List.set_cons_succ, List.set_cons_zero]
  have w3 : IntKind.i64.wrap (so10 - f) = so10 - f := IntWalk.i64_in _ (by omega)
  refine tr_take t12_18t (.int .i64 (so10 - f)) (by kernel_rfl) rfl (by first | exact rfl | trivial) (fun wq hq => ?_) (hT.box) ?_; (focus (simp [go_sem, mkO, t12_18t, w3]; done)); simp only [t12_18t, put_eq, List.set_cons_succ, List.set_cons_zero]
  refine tr_call t12_21 (f := 75) (args := #[.int .i64 5, .pointer (some ⟨ra, 0, none⟩), .pointer (some ⟨rb, 0, none⟩)]) (by kernel_rfl) rfl (by first | exact rfl | trivial) (by simp [go_sem, mkO, t12_21]) ?_
  refine (hT.draw hC (by omega) 5 (by omega) (by omega)).mono ?_
  rintro e2 X6 ⟨⟨g, rfl, g1, g2⟩, hT2, hK2⟩
  clear hT; have hT := hT2; clear hT2; replace hKW := hKW.trans hK2; clear hK2
  refine .inl ⟨_, rfl, hT.box, ?_⟩
  simp only [t12_21, put_eq, List.set_cons_succ, List.set_cons_zero]
  have w4 : IntKind.i64.wrap (so10 + g) = so10 + g := IntWalk.i64_in _ (by omega)
  refine tr_make t12_22 (.int .i64 (so10 + g)) _ (by kernel_rfl) rfl (by first | exact rfl | trivial) ?_ (hT.box) ?_; (focus (simp [go_sem, mkO, t12_22, w4]; done)); simp only [t12_22, put_eq, List.set_cons_succ, List.set_cons_zero]
  refine tr_call t12_23 (f := 31) (args := #[.int .i64 (so10 - f), .int .i64 (so10 + g)]) (by kernel_rfl) rfl (by first | exact rfl | trivial) (by simp [go_sem, mkO, t12_23]) ?_
  refine (span_c (so10 - f) (so10 + g) _).mono ?_
  rintro e2 X7 ⟨rfl, hz⟩
  replace hT := hT.belowed hC hz; replace hKW := hKW.trans (Keep.of_below hz); clear hz
  refine .inl ⟨_, rfl, hT.box, ?_⟩
  simp only [t12_23, put_eq, List.set_cons_succ, List.set_cons_zero]
  obtain ⟨u2, X8, hr, hT2, hK2⟩ := hT.add2 hC 2 (by omega) (so10 - f) (so10 + g) (by first | omega | (simp only [upd]; omega) | (simp [upd]; omega)) 22
  refine tr_make t12_24 (.slice (some ⟨X7.heap.size, 0, none⟩) 1 1) (X7.alloc (.cells #[.int .i64 (so10 - f), .int .i64 (so10 + g)] 28)) (by kernel_rfl) rfl (by first | exact rfl | trivial) (by simp [go_sem, mkO, t12_24, hu22, hu28]) (hT.alloc hC _).box ?_; simp only [t12_24, put_eq, List.set_cons_succ, List.set_cons_zero]
  refine tr_make t12_25 u2 X8 (by kernel_rfl) rfl (by first | exact rfl | trivial) (exec_app t12_25 _ _ _ rfl rfl rfl hr) hT2.box ?_; simp only [t12_25, put_eq, List.set_cons_succ, List.set_cons_zero]
  clear hT hr; have hT := hT2; clear hT2; replace hKW := hKW.trans hK2; clear hK2
  obtain ⟨A2, c2, e2⟩ := own_slice (hT.own.own 2 (by omega)); replace e2 : u2 = .slice A2 (n 2 + 1) c2 := by have a : u2 = _ := e2; rw [a]; simp [upd]
  refine hQT _ _ ?_
  have s0 := hT.box.cell1; have s1 := box3_frozen hT.box 1
  refine tr_store t12_27 (X8.setCell ⟨b4, 1, none⟩ u1) (by kernel_rfl) rfl (by first | exact rfl | trivial) (by simp [go_sem, mkO, t12_27, s0, s1, e1]) trivial ?_; simp only [t12_27, put_none]
  replace hT := hT.set hC (box3_set1 hT.box u1); replace hKW := hKW.setCell ⟨b4, 1, none⟩ u1; clear s0 s1
  generalize X8.setCell ⟨b4, 1, none⟩ u1 = X9 at *
  refine tr_make t12_28 (.pointer (some ⟨b4, 2, none⟩)) X9 (by kernel_rfl) rfl (by first | exact rfl | trivial) ?_ (trivial) ?_; (focus (simp [go_sem, mkO, t12_28]; done)); simp only [t12_28, put_eq, List.set_cons_succ, List.set_cons_zero]
  have s0 := hT.box.cell2; have s1 := box3_frozen hT.box 2
  refine tr_store t12_29 (X9.setCell ⟨b4, 2, none⟩ u2) (by kernel_rfl) rfl (by first | exact rfl | trivial) (by simp [go_sem, mkO, t12_29, s0, s1, e2]) trivial ?_; simp only [t12_29, put_none]
  replace hT := hT.set hC (box3_set2 hT.box u2); replace hKW := hKW.setCell ⟨b4, 2, none⟩ u2; clear s0 s1
  generalize X9.setCell ⟨b4, 2, none⟩ u2 = X10 at *
  exact hQn _ _ hKW ⟨u1, u2, a, b, f, g, a1, a2, b1, b2, f1, f2, g1, g2, hT, (by simp only [Slots, Fits, and_self])⟩
end Go.Proofs.Ytafmgmaelnpehaa
end

section
set_option linter.unusedVariables false
set_option linter.unusedSimpArgs false
namespace Go.Proofs.Ytafmgmaelnpehaa
open Go.RowKit Go.TL Go.Shelf Go.Fu
attribute [local go_sem] Oper.semAt_some
open PFurrowAsks Go.Proofs.YtafmgmaelnpehaaW.PrintWords
theorem Stn.Ok.bd {s : Stn} (h : s.Ok) : 0 ≤ s.w ∧ s.w ≤ 100 ∧ 0 ≤ s.d ∧ s.d ≤ 100 := by
  obtain ⟨h1, _, h2, h3⟩ := h
  unfold stOk at h1
  simp only [Bool.and_eq_true, decide_eq_true_eq] at h1
  omega
theorem soilG_bd (L : List Stn) (h : ∀ s ∈ L, s.Ok) : 0 ≤ soilG L ∧ soilG L ≤ 10000 * (L.length : Int) := by
  induction L with
  | nil => simp [soilG]
  | cons s l ih =>
    have a := ih fun x hx => h x (List.mem_cons_of_mem _ hx)
    have b := (h s List.mem_cons_self).bd
    have c1 : 0 ≤ s.w * s.d := Int.mul_nonneg b.1 b.2.2.1
    have c2 : s.w * s.d ≤ 100 * 100 := Int.mul_le_mul b.2.1 b.2.2.2 b.2.2.1 (by omega)
    simp only [soilG, List.length_cons]
    omega
def TlI (w : World) (rb ra b4 : Nat) (A : Option Addr) (c : Nat) (bs : List Int) (N j : Nat) (t : Array Value) (W : World) : Prop :=
  ∃ (L : List Stn) (v : Nat → Value), L.length ≤ N ∧ j = N - L.length ∧ (∀ s ∈ L, s.Ok) ∧ TrS w rb ra b4 A c bs (v 0) (v 1) (v 2) (1 + 9 * L.length) v (fun _ => L.length) (xsG L) W ∧ Slots (none :: none :: none :: some (.func (.func 75) #[] #[.pointer (some ⟨ra, 0, none⟩), .pointer (some ⟨rb, 0, none⟩)]) :: some (.pointer (some ⟨b4, 0, none⟩)) :: some (v 3) :: some (v 4) :: some (.int .i64 (soilG L)) :: none :: none :: o4 (o4 (o4 (o16 (some (.int .i64 ((N : Nat) : Int)) :: some (.int .i64 ((L.length : Nat) : Int)) :: o4 (o16 (o64 (o64 (o64 []))))))))) t
def TlM (w : World) (rb ra b4 : Nat) (A : Option Addr) (c : Nat) (bs : List Int) (N m : Nat) (t : Array Value) (W : World) : Prop :=
  ∃ (L : List Stn) (v : Nat → Value), L.length = m + 1 ∧ (∀ s ∈ L, s.Ok) ∧ TrS w rb ra b4 A c bs (v 0) (v 1) (v 2) (1 + 9 * L.length) v (fun _ => L.length) (xsG L) W ∧ Slots (none :: none :: none :: some (.func (.func 75) #[] #[.pointer (some ⟨ra, 0, none⟩), .pointer (some ⟨rb, 0, none⟩)]) :: some (.pointer (some ⟨b4, 0, none⟩)) :: some (v 3) :: some (v 4) :: some (.int .i64 (soilG L)) :: none :: none :: o4 (o4 (o4 (o16 (some (.int .i64 ((N : Nat) : Int)) :: some (.int .i64 ((L.length - 1 : Nat) : Int)) :: o4 (o16 (o64 (o64 (o64 []))))))))) t
set_option maxRecDepth 100000 in
set_option maxHeartbeats 4000000 in
theorem tl_loop {w : World} {rb ra b4 : Nat} {A : Option Addr} {c : Nat} {bs : List Int} {V : World} {N : Nat} (hN : N ≤ 8) (hC : TrC w rb ra b4 A bs) (hT : TrS w rb ra b4 A c bs (.slice none 0 0) (.slice none 0 0) (.slice none 0 0) 1 (fun _ => .slice none 0 0) (fun _ => 0) (fun _ => []) V) (t : Array Value) (hSl : Slots (none :: none :: none :: some (.func (.func 75) #[] #[.pointer (some ⟨ra, 0, none⟩), .pointer (some ⟨rb, 0, none⟩)]) :: some (.pointer (some ⟨b4, 0, none⟩)) :: some (.slice none 0 0) :: some (.slice none 0 0) :: some (.int .i64 0) :: none :: none :: o4 (o4 (o4 (o16 (some (.int .i64 ((N : Nat) : Int)) :: some (.int .i64 0) :: o4 (o16 (o64 (o64 (o64 []))))))))) t) :
    Exec Try.prog none (sub (Try.f6.body.getD .skip) [1, 1, 1, 1, 1, 1, 0, 1]) t V (andThen (fun t' W' => ∃ (L : List Stn) (v : Nat → Value), L.length = N ∧ (∀ s ∈ L, s.Ok) ∧ TrS w rb ra b4 A c bs (v 0) (v 1) (v 2) (1 + 9 * L.length) v (fun _ => L.length) (xsG L) W' ∧ Slots (none :: none :: none :: some (.func (.func 75) #[] #[.pointer (some ⟨ra, 0, none⟩), .pointer (some ⟨rb, 0, none⟩)]) :: some (.pointer (some ⟨b4, 0, none⟩)) :: some (v 3) :: some (v 4) :: some (.int .i64 (soilG L)) :: o4 (o16 (o16 (o16 (o64 (o64 (o64 []))))))) t') fun _ _ _ => False) := by
  refine exec_block ?_
  refine exec_loop (TlI w rb ra b4 A c bs N) N ⟨[], fun _ => .slice none 0 0, by simp, by simp, by simp, hT.congr (fun q hq => rfl) (fun q hq => by match q, hq with | 0, _ => rfl | 1, _ => rfl | 2, _ => rfl | 3, _ => rfl | 4, _ => rfl), by simpa [soilG] using hSl⟩ ?_
  clear hSl t hT
  clear V
  rintro j t W ⟨L, v, hL, hj, hOk, hT, hSl⟩
  obtain ⟨x, hx⟩ := Slots.open_ hSl; simp only [fill, Nat.reduceAdd] at hx; subst hx; clear hSl
  refine exec_seq (exec_region_o fun ds => ?_)
  gi_wp2
  refine eq_mk (Keep.refl _) ?_
  show Exec _ _ _ _ _ _
  refine exec_seq (exec_cond (b := decide (L.length < N)) (by first | rfl | (show Value.bool _ = _; congr 1; apply decide_eq_decide.2; omega)) (fun hp => ?_) (fun hp => ?_))
  · have hlt : L.length < N := of_decide_eq_true hp
    refine exec_skip ?_
    show Exec _ _ _ _ _ _
    have hsb := soilG_bd L hOk
    obtain ⟨so, hso⟩ : ∃ x, soilG L = x := ⟨_, rfl⟩
    rw [hso] at hsb
    simp only [hso]
    refine exec_cut (TlM w rb ra b4 A c bs N L.length) ?_ ?_
    · obtain ⟨m, hm⟩ : ∃ m, L.length = m := ⟨_, rfl⟩
      rw [hm] at hT
      have hmm : m < N := by omega
      refine exec_block (exec_seq (exec_region_o fun ds => ?_))
      gi_wp2_with fail
      refine ⟨trivial, rfl, (callsIn_wide.2 (hT.draw hC (by omega) 19 (by omega) (by omega))).mono ?_⟩
      rintro e X1 ⟨⟨z1, rfl, a1, a2⟩, hT1, hK1⟩
      have hw1 : IntKind.i64.wrap (z1 - 9) = z1 - 9 := IntWalk.i64_in _ (by omega)
      clear hT
      gi_wp2_with fail
      refine ⟨trivial, rfl, (callsIn_wide.2 (hT1.draw hC (by omega) 40 (by omega) (by omega))).mono ?_⟩
      rintro e X2 ⟨⟨z2, rfl, b1, b2⟩, hT2, hK2⟩
      have hw2 : IntKind.i64.wrap (10 + z2) = 10 + z2 := IntWalk.i64_in _ (by omega)
      clear hT1
      gi_wp2_with fail
      refine ⟨trivial, rfl, (callsIn_wide.2 (hT2.draw hC (by omega) 30 (by omega) (by omega))).mono ?_⟩
      rintro e X3 ⟨⟨z3, rfl, c1, c2⟩, hT3, hK3⟩
      have hw3 : IntKind.i64.wrap (5 + z3) = 5 + z3 := IntWalk.i64_in _ (by omega)
      clear hT2
      gi_wp2
      refine eq_mk ((hK1.trans hK2).trans hK3) ?_
      show Exec _ _ _ _ _ _
      clear hK1 hK2 hK3 hw1 hw2 hw3
      clear X1 X2 W
      obtain ⟨o, ho⟩ : ∃ o, z1 - 9 = o := ⟨_, rfl⟩
      obtain ⟨wd, hwd⟩ : ∃ o, 10 + z2 = o := ⟨_, rfl⟩
      obtain ⟨dp, hdp⟩ : ∃ o, 5 + z3 = o := ⟨_, rfl⟩
      simp only [ho, hwd, hdp]
      have ob : -9 ≤ o ∧ o ≤ 9 := by omega
      have wb : 10 ≤ wd ∧ wd ≤ 49 := by omega
      have db : 5 ≤ dp ∧ dp ≤ 34 := by omega
      clear ho hwd hdp a1 a2 b1 b2 c1 c2
      obtain ⟨v3, Y1, hr3, hT4, hK4⟩ := hT3.add1 hC 3 (by omega) (by omega) o (by show m ≤ 100; omega) 33
      obtain ⟨v4, Y2, hr4, hT5, hK5⟩ := hT4.add1 hC 4 (by omega) (by omega) dp (by simp only [upd]; simp; omega) 33
      have hr4' : (Builtin.append_ #[33, 33] 33 #[v 4, .slice (some ⟨Y1.heap.size, 0, none⟩) 1 1]).run Try.prog (Y1.alloc (.cells #[.int .i64 dp] 3)) = .ok v4 Y2 := hr4
      clear hr4 hT4 hT3
      refine exec_seq (exec_region_o fun ds => ?_)
      gi_wp2_with (first | (gi_at_builtin; refine wpListIn_app rfl _ _ 33 rfl rfl rfl hr3 ?_) | (gi_at_builtin; refine wpListIn_app rfl _ _ 33 rfl rfl rfl hr4' ?_))
      refine eq_mk (hK4.trans hK5) ?_
      show Exec _ _ _ _ _ _
      clear hK4 hK5 hr3 hr4'
      refine exec_seq ((tl_11 (k := 1 + 9 * m + 1 + 1 + 1) (N := N) (v := upd (upd v 3 v3) 4 v4) (w5 := v3) (w6 := v4) (so := so) (so8 := o) (so9 := wd) (so10 := dp) (mm := (m : Int)) hC hT5 (by omega) (by simp [upd]; omega) ob _ (by simp only [Slots, Fits, and_self])).mono ?_)
      intro e t' Z hh
      obtain ⟨rfl, u0, a, b, a1, a2, b1, b2, hT6, hSl⟩ := only_normal hh
      clear hh hT5 x
      obtain ⟨x, hx⟩ := Slots.open_ hSl; simp only [fill, Nat.reduceAdd] at hx; subst hx; clear hSl
      show Exec _ _ _ _ _ _
      refine exec_seq ((tl_12 (k := 1 + 9 * m + 1 + 1 + 1 + 1 + 1) (N := N) (v := upd (upd (upd v 3 v3) 4 v4) 0 u0) (w5 := v3) (w6 := v4) (so := so) (so8 := o) (so9 := wd) (so10 := dp) (mm := (m : Int)) hC hT6 (by omega) (by simp [upd]; omega) (by simp [upd]; omega) ⟨by omega, by omega⟩ ⟨by omega, by omega⟩ _ (by simp only [Slots, Fits, and_self])).mono ?_)
      intro e t' Z2 hh
      obtain ⟨rfl, u1, u2, p, q, f, g, p1, p2, q1, q2, f1, f2, g1, g2, hT7, hSl⟩ := only_normal hh
      clear hh hT6 x
      obtain ⟨x, hx⟩ := Slots.open_ hSl; simp only [fill, Nat.reduceAdd] at hx; subst hx; clear hSl
      show Exec _ _ _ _ _ _
      have c1 : 0 ≤ wd * dp := Int.mul_nonneg (by omega) (by omega)
      have c2 : wd * dp ≤ 49 * 34 := Int.mul_le_mul wb.2 db.2 (by omega) (by omega)
      have e1 : IntKind.i64.wrap (wd * dp) = wd * dp := IntWalk.i64_in _ (by omega)
      have e2 : IntKind.i64.wrap (so + wd * dp) = so + wd * dp := IntWalk.i64_in _ (by omega)
      refine exec_region_o fun ds => ?_
      gi_wp2
      refine eq_mk (Keep.refl _) ?_
      have hlen : (L ++ [(⟨o, wd, dp, ⟨o - a, o + b⟩, ⟨wd - p, wd + q⟩, ⟨dp - f, dp + g⟩⟩ : Stn)]).length = m + 1 := by rw [List.length_append, hm]; rfl
      refine ⟨L ++ [⟨o, wd, dp, ⟨o - a, o + b⟩, ⟨wd - p, wd + q⟩, ⟨dp - f, dp + g⟩⟩], upd (upd (upd (upd (upd v 3 v3) 4 v4) 0 u0) 1 u1) 2 u2, by rw [hlen, hm], fun s hs => ?_, ?_, ?_⟩
      · rw [List.mem_append, List.mem_singleton] at hs
        rcases hs with hs | rfl
        · exact hOk s hs
        · refine ⟨?_, ⟨by show o - a ≤ o; omega, by show o ≤ o + b; omega⟩, ⟨by show wd - p ≤ wd; omega, by show wd ≤ wd + q; omega⟩, ⟨by show dp - f ≤ dp; omega, by show dp ≤ dp + g; omega⟩⟩
          unfold stOk
          simp only [Bool.and_eq_true, decide_eq_true_eq]
          refine ⟨⟨⟨⟨?_, ?_, ?_⟩, ?_⟩, ?_, ?_, ?_⟩, ?_, ?_, ?_⟩ <;> omega
      · rw [hlen, show 1 + 9 * (m + 1) = 1 + 9 * m + 1 + 1 + 1 + 1 + 1 + 1 + 1 + 1 + 1 by omega]
        refine hT7.congr (fun r hr => ?_) (fun r hr => ?_)
        · match r, hr with
          | 0, _ => simp [upd]
          | 1, _ => simp [upd]
          | 2, _ => simp [upd]
          | 3, _ => simp [upd]
          | 4, _ => simp [upd]
        · match r, hr with
          | 0, _ => simp [upd, xsG, flat_app, flat, toP]
          | 1, _ => simp [upd, xsG, flat_app, flat, toP]
          | 2, _ => simp [upd, xsG, flat_app, flat, toP]
          | 3, _ => simp [upd, xsG]
          | 4, _ => simp [upd, xsG]
      · rw [hlen, soilG_app, hso, show m + 1 - 1 = m from rfl]
        simp only [Slots, Fits, and_self]
        simp [upd, hm]
    · clear hT hOk hso hsb
      rintro t' W' ⟨L', v', hL', hOk, hT, hSl⟩
      clear x
      obtain ⟨x, hx⟩ := Slots.open_ hSl; simp only [fill, Nat.reduceAdd] at hx; subst hx; clear hSl
      have hl1 : L'.length - 1 = L.length := by omega
      rw [hl1]
      have hwr : IntKind.i64.wrap ((L.length : Int) + 1) = ((L'.length : Nat) : Int) := by rw [IntWalk.i64_in _ (by omega), hL']; norm_cast
      refine exec_region_o fun ds => ?_
      gi_wp2
      refine eq_mk (Keep.refl _) ⟨j - 1, by omega, L', v', by omega, by omega, hOk, hT, by simp only [Slots, Fits, and_self]; simp; try omega⟩
  · have hlN : L.length = N := by have := of_decide_eq_false hp; omega
    refine exec_exit ?_
    first | exact Exists.intro L ⟨hlN, hOk, v, hT, (by simp only [Slots, Fits, and_self])⟩ | exact ⟨L, v, hlN, hOk, hT, (by simp only [Slots, Fits, and_self])⟩ | exact ⟨L, hlN, hOk, v, hT, (by simp only [Slots, Fits, and_self])⟩
end Go.Proofs.Ytafmgmaelnpehaa
end

section
set_option linter.unusedVariables false
set_option linter.unusedSimpArgs false
namespace Go.Proofs.Ytafmgmaelnpehaa
open Go.RowKit Go.TL Go.Fu
open PFurrowAsks Go.Proofs.YtafmgmaelnpehaaW.PrintWords
structure Laid (G : Fur) (L : List Stn) : Prop where
  ok : ∀ s ∈ L, s.Ok
  n8 : L.length ≤ 8
  e0 : G.l0 = L.map Stn.x
  e1 : G.l1 = L.map Stn.y
  e2 : G.l2 = L.map Stn.z
section
variable {G : Fur} {L : List Stn}
theorem Laid.len (h : Laid G L) : G.l0.length = L.length := by rw [h.e0, List.length_map]
theorem Laid.va (h : Laid G L) : G.va = true := by
  unfold Fur.va valid
  rw [h.e0, h.e1, h.e2]
  simp only [Bool.and_eq_true, decide_eq_true_eq, List.length_map]
  refine ⟨⟨⟨h.n8, trivial⟩, trivial⟩, (stsOk_all _ _ _ _ _).2 fun j _ hj => ?_⟩
  have hj' : j < L.length := by omega
  have := (h.ok _ (List.getElem_mem hj')).1
  simpa [rd_T28, hj'] using this
theorem Laid.truth (h : Laid G L) : Truth G.pl (fnOf (L.map Stn.o)) := by
  intro i hi
  rw [G.pl_len, h.len] at hi
  have := (h.ok _ (List.getElem_mem hi)).2.1
  unfold InS Fur.pl
  rw [h.e0]
  simpa [fnOf, toP, hi] using this
theorem Laid.depth (h : Laid G L) (j : Nat) (hj : j < L.length) : (G.d j).1 ≤ ((L.map Stn.d).getD j 0) ∧ ((L.map Stn.d).getD j 0) ≤ (G.d j).2 := by
  have := (h.ok _ (List.getElem_mem hj)).2.2.2
  unfold Fur.d
  rw [h.e2]
  simpa [toP, hj] using this
theorem take_snoc {α : Type} (L : List α) (m : Nat) (h : m < L.length) : L.take (m + 1) = L.take m ++ [L[m]'h] := by
  rw [List.take_add_one, List.getElem?_eq_getElem h]
  rfl
theorem Laid.sum (h : Laid G L) : ∀ m, m ≤ L.length → (sumL (listOf G.soil L.length) m).1 ≤ soilG (L.take m) ∧ soilG (L.take m) ≤ (sumL (listOf G.soil L.length) m).2
  | 0, _ => by simp [sumL, soilG]
  | m + 1, hm => by
    have ih := h.sum m (by omega)
    have hs := h.ok _ (List.getElem_mem (show m < L.length by omega))
    have hb := hs.bd
    obtain ⟨s1, _, s2, s3⟩ := hs
    unfold stOk at s1
    simp only [Bool.and_eq_true, decide_eq_true_eq] at s1
    have g : (listOf G.soil L.length).getD m (0, 0) = G.soil m := by simp [listOf, List.getD_eq_getElem?_getD, show m < L.length by omega]
    have gs : G.soil m = ((L[m]'(by omega)).z.f0 * (L[m]'(by omega)).y.f0, (L[m]'(by omega)).z.f1 * (L[m]'(by omega)).y.f1) := by
      unfold Fur.soil Fur.d Fur.wd
      rw [h.e1, h.e2]
      simp [toP, show m < L.length by omega]
    rw [take_snoc L m (by omega), soilG_app]
    unfold sumL
    rw [g, gs]
    generalize L[m]'(by omega) = s at *
    simp only
    have p1 : s.z.f0 * s.y.f0 ≤ s.d * s.w := Int.mul_le_mul s3.1 s2.1 (by omega) (by omega)
    have p2 : s.d * s.w ≤ s.z.f1 * s.y.f1 := Int.mul_le_mul s3.2 s2.2 (by omega) (by omega)
    rw [Int.mul_comm s.w s.d]
    omega
theorem Laid.soil (h : Laid G L) : (soilV G.va G).1.1 ≤ soilG L ∧ soilG L ≤ (soilV G.va G).1.2 ∧ (soilV G.va G).2 = 0 := by
  have hl : G.l2.length = L.length := by rw [h.e2, List.length_map]
  unfold soilV
  rw [h.va, if_pos rfl, hl]
  have := h.sum L.length (Nat.le_refl _)
  rw [List.take_length] at this
  exact ⟨this.1, this.2, rfl⟩
theorem freeS_zero (l : List (Int × Int)) : freeS 0 l = l := by
  apply List.ext_getElem
  · exact freeS_len 0 l
  · intro i h1 h2
    have e1 : (freeS 0 l)[i]'h1 = (freeS 0 l).getD i (0, 0) := by rw [List.getD_eq_getElem?_getD, List.getElem?_eq_getElem h1]; rfl
    have e2 : l[i]'h2 = l.getD i (0, 0) := by rw [List.getD_eq_getElem?_getD, List.getElem?_eq_getElem h2]; rfl
    rw [e1, e2, freeS_get _ _ _ h2, if_neg (by simp)]
theorem wrong_none {l : List (Int × Int)} {most : Int} {r : Nat} (hok : ∀ x ∈ l, okSpan x) (hm : 0 ≤ most) (h : IsWrong l most r) (hle : (leastN l : Int) ≤ most) : r = 0 := by
  obtain ⟨x, hx, hxm⟩ := (least_spec l hok).1
  have h2 : canB (freeS 0 l) (upP most) = true := by
    rw [freeS_zero]
    exact (canB_most hok hm).2 ⟨x, hx, by omega⟩
  have h3 := h.min 0 (Nat.two_pow_pos _) h2
  have h0 : ones 8 0 = 0 := rfl
  have h4 := h3.2 (by omega)
  omega
theorem bit_n {p : Nat → Bool} {n i : Nat} (h8 : n ≤ 8) (hi : i < n) : bits .and .i64 (((setN p n : Nat) : Int) / 2 ^ i) 1 = if p i then 1 else 0 := by
  rw [andb_is _ _ (Nat.lt_of_lt_of_le (setN_lt p n) (show 2 ^ n ≤ 2 ^ 8 from Nat.pow_le_pow_right (by omega) h8)) (by omega), setN_bit]
  by_cases h : p i = true
  · rw [if_pos ⟨by omega, h⟩, if_pos h]; rfl
  · rw [if_neg (fun c => h c.2), if_neg h]; rfl
end
theorem at_in2 {F : Fur} (hv : F.va = true) {k : Nat} (h1 : 1 ≤ k) (h2 : k + 1 < F.l0.length) (w : World) (h : F.At w) :
    Calls Try.prog 17 #[F.val, .int .i64 k] w fun e w' => e = .returned (.tuple #[.agg #[.int .i64 (atF F.pl k).1, .int .i64 (atF F.pl k).2], .int .i64 0]) ∧ Below w.heap.size w w' := by
  have h3 := At_c F k w h (by have := Fur.le8 hv; omega)
  have e : atV F.va F.pl k = (atF F.pl k, 0) := by
    unfold atV
    rw [hv, if_pos rfl, if_pos ⟨by omega, by rw [F.pl_len]; omega⟩, Int.toNat_natCast]
  rw [e] at h3
  exact h3
end Go.Proofs.Ytafmgmaelnpehaa
end

section
set_option linter.unusedVariables false
set_option linter.unusedSimpArgs false
namespace Go.Proofs.Ytafmgmaelnpehaa
open Go.RowKit Go.TL Go.Shelf Go.Fu
attribute [local go_sem] Oper.semAt_some
open PFurrowAsks Go.Proofs.YtafmgmaelnpehaaW.PrintWords
theorem flat_twot (l : List S28) (j : Nat) (p : S28) (h : l[j]? = some p) : ((flat (l.map toP)).drop (j * 2)).take 2 = [.int .i64 p.f0, .int .i64 p.f1] := by
  induction l generalizing j with
  | nil => simp at h
  | cons a l ih =>
    cases j with
    | zero =>
      simp only [List.getElem?_cons_zero, Option.some.injEq] at h
      subst h
      rfl
    | succ j =>
      have := ih j (by simpa using h)
      rw [show (j + 1) * 2 = j * 2 + 2 by omega]
      exact this
theorem own_R28t {w : World} {base : Nat} {v : Value} {l : List S28} (h : w.ownsRow base 28 2 v l.length (flat (l.map toP))) : Kd.R k28 28 w base (fun _ => True) v l := by
  refine ⟨fun _ _ => trivial, flat (l.map toP), h, ?_, fun j p hp => ?_⟩
  · show _ = l.length * 2
    rw [flat_len, List.length_map]
  · show k28.M _ _ _ p (((flat (l.map toP)).drop (j * 2)).take 2)
    rw [flat_twot l j p hp]
    exact k28_mkM _ _ _ _
section
variable {w W : World} {rb ra b4 c k : Nat} {A : Option Addr} {bs : List Int} {f0 f1 f2 : Value} {v : Nat → Value} {L : List Stn}
theorem tr_span (h : TrS w rb ra b4 A c bs f0 f1 f2 k v (fun _ => L.length) (xsG L) W) (q : Nat) (hq : q < 3) (l : List S28) (hl : l.length = L.length) (hx : xsG L q = flat (l.map toP)) : ∃ A' c', v q = .slice A' l.length c' ∧ l.length ≤ c' ∧ Row W A' l := by
  have o := h.own.own q (by omega)
  rw [hx] at o
  have e1 : eT q = 28 := by unfold eT; rw [if_pos hq]
  have e2 : sT q = 2 := by unfold sT; rw [if_pos hq]
  rw [e1, e2] at o
  exact Kd.R_reads (own_R28t (by rw [hl]; exact o))
theorem tr_ints (h : TrS w rb ra b4 A c bs f0 f1 f2 k v (fun _ => L.length) (xsG L) W) (q : Nat) (hq : ¬ q < 3) (h5 : q < 5) (l : List Int) (hl : l.length = L.length) (hx : xsG L q = l.map (Value.int .i64)) : ∃ A' c', v q = .slice A' l.length c' ∧ l.length ≤ c' ∧ RowI W A' l := by
  have o := h.own.own q h5
  rw [hx] at o
  have e1 : eT q = 3 := by unfold eT; rw [if_neg hq]
  have e2 : sT q = 1 := by unfold sT; rw [if_neg hq]
  rw [e1, e2] at o
  exact own_rowI (base := b4 + 1) (by rw [hl]; exact o)
/-- The furrow that is laid, and the rows of what is so. -/
theorem tr_fur (h : TrS w rb ra b4 A c bs f0 f1 f2 k v (fun _ => L.length) (xsG L) W) (hok : ∀ s ∈ L, s.Ok) (h8 : L.length ≤ 8) :
    ∃ (G : Fur) (A5 : Option Addr) (c5 : Nat) (A6 : Option Addr) (c6 : Nat), v 0 = G.s0 ∧ v 1 = G.s1 ∧ v 2 = G.s2 ∧ v 3 = .slice A5 (L.map Stn.o).length c5 ∧ v 4 = .slice A6 (L.map Stn.d).length c6 ∧ Laid G L ∧
      ∀ f0 f1 f2 k W, TrS w rb ra b4 A c bs f0 f1 f2 k v (fun _ => L.length) (xsG L) W → G.At W ∧ ((L.map Stn.o).length ≤ c5 ∧ RowI W A5 (L.map Stn.o)) ∧ ((L.map Stn.d).length ≤ c6 ∧ RowI W A6 (L.map Stn.d)) := by
  obtain ⟨A0, c0, e0, _, _⟩ := tr_span h 0 (by omega) (L.map Stn.x) (List.length_map _) rfl
  obtain ⟨A1, c1, e1, _, _⟩ := tr_span h 1 (by omega) (L.map Stn.y) (List.length_map _) rfl
  obtain ⟨A2, c2, e2, _, _⟩ := tr_span h 2 (by omega) (L.map Stn.z) (List.length_map _) rfl
  obtain ⟨A3, c3, e3, _, _⟩ := tr_ints h 3 (by omega) (by omega) (L.map Stn.o) (List.length_map _) rfl
  obtain ⟨A4, c4, e4, _, _⟩ := tr_ints h 4 (by omega) (by omega) (L.map Stn.d) (List.length_map _) rfl
  refine ⟨⟨A0, c0, L.map Stn.x, A1, c1, L.map Stn.y, A2, c2, L.map Stn.z⟩, A3, c3, A4, c4, e0, e1, e2, e3, e4, ⟨hok, h8, rfl, rfl, rfl⟩, fun g0 g1 g2 k' W' h' => ?_⟩
  obtain ⟨B0, d0, x0, y0, z0⟩ := tr_span h' 0 (by omega) (L.map Stn.x) (List.length_map _) rfl
  obtain ⟨B1, d1, x1, y1, z1⟩ := tr_span h' 1 (by omega) (L.map Stn.y) (List.length_map _) rfl
  obtain ⟨B2, d2, x2, y2, z2⟩ := tr_span h' 2 (by omega) (L.map Stn.z) (List.length_map _) rfl
  obtain ⟨B3, d3, x3, y3, z3⟩ := tr_ints h' 3 (by omega) (by omega) (L.map Stn.o) (List.length_map _) rfl
  obtain ⟨B4, d4, x4, y4, z4⟩ := tr_ints h' 4 (by omega) (by omega) (L.map Stn.d) (List.length_map _) rfl
  rw [e0] at x0
  rw [e1] at x1
  rw [e2] at x2
  rw [e3] at x3
  rw [e4] at x4
  simp only [Value.slice.injEq, true_and] at x0 x1 x2 x3 x4
  obtain ⟨rfl, rfl⟩ := x0
  obtain ⟨rfl, rfl⟩ := x1
  obtain ⟨rfl, rfl⟩ := x2
  obtain ⟨rfl, rfl⟩ := x3
  obtain ⟨rfl, rfl⟩ := x4
  exact ⟨⟨z0, y0, z1, y1, z2, y2⟩, ⟨y3, z3⟩, ⟨y4, z4⟩⟩
end
end Go.Proofs.Ytafmgmaelnpehaa
end

section
set_option linter.unusedVariables false
set_option linter.unusedSimpArgs false
namespace Go.Proofs.Ytafmgmaelnpehaa
open Go.RowKit Go.TL Go.Shelf Go.Fu
attribute [local go_sem] Oper.semAt_some
open PFurrowAsks Go.Proofs.YtafmgmaelnpehaaW.PrintWords
set_option maxRecDepth 100000 in
set_option maxHeartbeats 4000000 in
theorem tt_27a {V : World} {ra rb b4 a23 i : Nat} {w5 w6 : Value} {own sS sC s0 s1 : Int} (b23 : Box2 V a23 28 s0 s1) (hi8 : i ≤ 64) (h1 : s0 ≤ own) (h2 : own ≤ s1) (hc : bits .and .i64 (sC / 2 ^ i) 1 = 1) (hc2 : bits .and .i64 (sC / 2 ^ min i 64) 1 = 1) (t : Array Value) (hSl : Slots (none :: none :: none :: some (.func (.func 75) #[] #[.pointer (some ⟨ra, 0, none⟩), .pointer (some ⟨rb, 0, none⟩)]) :: some (.pointer (some ⟨b4, 0, none⟩)) :: some (w5) :: some (w6) :: o4 (some (.int .i64 own) :: none :: none :: some (.int .i64 sS) :: some (.int .i64 sC) :: none :: o4 (some (.int .i64 ((i : Nat) : Int)) :: some (.int .i64 own) :: some (.pointer (some ⟨a23, 0, none⟩)) :: some (.int .i64 0) :: none :: none :: none :: o16 (o16 (o64 (o64 (o64 []))))))) t) :
    Exec Try.prog none (sub (Try.f6.body.getD .skip) [1, 1, 1, 1, 1, 1, 1, 1, 1, 1, 1, 1, 1, 0, 1, 0, 0, 1, 0, 0, 1, 1, 0]) t V (andThen (fun t' W' => Below V.heap.size V W' ∧ Slots (none :: none :: none :: some (.func (.func 75) #[] #[.pointer (some ⟨ra, 0, none⟩), .pointer (some ⟨rb, 0, none⟩)]) :: some (.pointer (some ⟨b4, 0, none⟩)) :: some (w5) :: some (w6) :: o4 (some (.int .i64 own) :: none :: none :: some (.int .i64 sS) :: some (.int .i64 sC) :: none :: o4 (some (.int .i64 ((i : Nat) : Int)) :: some (.int .i64 own) :: some (.pointer (some ⟨a23, 0, none⟩)) :: some (.int .i64 0) :: none :: none :: o4 (o16 (o16 (o16 (o64 (o64 (some (.bool false) :: o4 (o4 (o4 (o16 (o16 []))))))))))))) t') fun _ _ _ => False) := by
  obtain ⟨x, hx⟩ := Slots.open_ hSl; simp only [fill, Nat.reduceAdd] at hx; subst hx; clear hSl
  have hu28 := Try.underlying28
  have d0 := b23.cell0
  have d1 := b23.cell1
  have hmin : min i 64 = i := by omega
  have hin1 : (decide (s0 ≤ own) && decide (own ≤ s1)) = true := by simp [h1, h2]
  clear h1 h2
  refine exec_region_o fun ds => ?_
  show (Code.region _ _ _).wpIn _ _ _ _ _ _
  gi_wp2_with fail
  refine ⟨trivial, rfl, (callsIn_wide.2 (inside_c own s0 s1 V)).mono ?_⟩
  rintro e X ⟨rfl, hx⟩
  rw [hin1]
  have hK := Keep.of_below hx
  have HX := Lib.hid hx
  clear hx d0 d1 b23 hin1
  gi_wp2
  all_goals (refine eq_mk hK ⟨HX.out, ?_⟩; simp only [Slots, Fits, and_self]; try simp; try omega)
end Go.Proofs.Ytafmgmaelnpehaa
end

section
set_option linter.unusedVariables false
set_option linter.unusedSimpArgs false
namespace Go.Proofs.Ytafmgmaelnpehaa
open Go.RowKit Go.TL Go.Shelf Go.Fu
attribute [local go_sem] Oper.semAt_some
open PFurrowAsks Go.Proofs.YtafmgmaelnpehaaW.PrintWords
set_option maxRecDepth 100000 in
set_option maxHeartbeats 4000000 in
theorem tt_27b {V : World} {ra rb b4 a23 i : Nat} {w5 w6 : Value} {own most sS sC s0 s1 : Int} (b23 : Box2 V a23 28 s0 s1) (hi8 : i ≤ 64) (h1 : s0 ≤ own) (h2 : own ≤ s1) (hne : ¬ own = most) (hc : bits .and .i64 (sS / 2 ^ i) 1 = 0) (hc2 : bits .and .i64 (sS / 2 ^ min i 64) 1 = 0) (t : Array Value) (hSl : Slots (none :: none :: none :: some (.func (.func 75) #[] #[.pointer (some ⟨ra, 0, none⟩), .pointer (some ⟨rb, 0, none⟩)]) :: some (.pointer (some ⟨b4, 0, none⟩)) :: some (w5) :: some (w6) :: o4 (some (.int .i64 most) :: none :: none :: some (.int .i64 sS) :: some (.int .i64 sC) :: none :: o4 (some (.int .i64 ((i : Nat) : Int)) :: some (.int .i64 own) :: some (.pointer (some ⟨a23, 0, none⟩)) :: some (.int .i64 0) :: none :: none :: none :: o16 (o16 (o64 (o64 (o64 []))))))) t) :
    Exec Try.prog none (sub (Try.f6.body.getD .skip) [1, 1, 1, 1, 1, 1, 1, 1, 1, 1, 1, 1, 1, 0, 1, 0, 0, 1, 0, 0, 1, 1, 0]) t V (andThen (fun t' W' => Below V.heap.size V W' ∧ Slots (none :: none :: none :: some (.func (.func 75) #[] #[.pointer (some ⟨ra, 0, none⟩), .pointer (some ⟨rb, 0, none⟩)]) :: some (.pointer (some ⟨b4, 0, none⟩)) :: some (w5) :: some (w6) :: o4 (some (.int .i64 most) :: none :: none :: some (.int .i64 sS) :: some (.int .i64 sC) :: none :: o4 (some (.int .i64 ((i : Nat) : Int)) :: some (.int .i64 own) :: some (.pointer (some ⟨a23, 0, none⟩)) :: some (.int .i64 0) :: none :: none :: o4 (o16 (o16 (o16 (o64 (o64 (some (.bool false) :: o4 (o4 (o4 (o16 (o16 []))))))))))))) t') fun _ _ _ => False) := by
  obtain ⟨x, hx⟩ := Slots.open_ hSl; simp only [fill, Nat.reduceAdd] at hx; subst hx; clear hSl
  have hu28 := Try.underlying28
  have d0 := b23.cell0
  have d1 := b23.cell1
  have hmin : min i 64 = i := by omega
  have hin1 : (decide (s0 ≤ own) && decide (own ≤ s1)) = true := by simp [h1, h2]
  clear h1 h2
  refine exec_region_o fun ds => ?_
  show (Code.region _ _ _).wpIn _ _ _ _ _ _
  gi_wp2_with fail
  refine ⟨trivial, rfl, (callsIn_wide.2 (inside_c own s0 s1 V)).mono ?_⟩
  rintro e X ⟨rfl, hx⟩
  rw [hin1]
  have hK := Keep.of_below hx
  have HX := Lib.hid hx
  clear hx d0 d1 b23 hin1
  gi_wp2
  all_goals (refine eq_mk hK ⟨HX.out, ?_⟩; simp only [Slots, Fits, and_self]; try simp; try omega)
end Go.Proofs.Ytafmgmaelnpehaa
end

section
set_option linter.unusedVariables false
set_option linter.unusedSimpArgs false
namespace Go.Proofs.Ytafmgmaelnpehaa
open Go.RowKit Go.TL Go.Shelf Go.Fu
attribute [local go_sem] Oper.semAt_some
open PFurrowAsks Go.Proofs.YtafmgmaelnpehaaW.PrintWords
def ThI (w : World) (rb ra b4 c k n c5 : Nat) (A A5 : Option Addr) (bs : List Int) (G : Fur) (v : Nat → Value) (L : List Stn) (w6 : Value) (most sS sC : Int) (j : Nat) (t : Array Value) (W : World) : Prop :=
  ∃ i : Nat, 1 ≤ i ∧ (i + 1 ≤ n ∨ i = 1) ∧ j = n - i ∧ TrS w rb ra b4 A c bs G.s0 G.s1 G.s2 k v (fun _ => L.length) (xsG L) W ∧ Slots (none :: none :: none :: some (.func (.func 75) #[] #[.pointer (some ⟨ra, 0, none⟩), .pointer (some ⟨rb, 0, none⟩)]) :: some (.pointer (some ⟨b4, 0, none⟩)) :: some (.slice A5 n c5) :: some (w6) :: o4 (some (.int .i64 most) :: none :: none :: some (.int .i64 sS) :: some (.int .i64 sC) :: none :: o4 (some (.int .i64 ((i : Nat) : Int)) :: none :: none :: o4 (o16 (o16 (o64 (o64 (o64 [])))))))) t
def ThM (w : World) (rb ra b4 c k n c5 : Nat) (A A5 : Option Addr) (bs : List Int) (G : Fur) (v : Nat → Value) (L : List Stn) (w6 : Value) (most sS sC : Int) (i : Nat) (t : Array Value) (W : World) : Prop := TrS w rb ra b4 A c bs G.s0 G.s1 G.s2 k v (fun _ => L.length) (xsG L) W ∧ Slots (none :: none :: none :: some (.func (.func 75) #[] #[.pointer (some ⟨ra, 0, none⟩), .pointer (some ⟨rb, 0, none⟩)]) :: some (.pointer (some ⟨b4, 0, none⟩)) :: some (.slice A5 n c5) :: some (w6) :: o4 (some (.int .i64 most) :: none :: none :: some (.int .i64 sS) :: some (.int .i64 sC) :: none :: o4 (some (.int .i64 ((i : Nat) : Int)) :: none :: none :: o4 (o16 (o16 (o64 (o64 (o64 [])))))))) t
set_option maxRecDepth 100000 in
set_option maxHeartbeats 4000000 in
theorem th_loop {w : World} {rb ra b4 c k n c5 : Nat} {A A5 : Option Addr} {bs : List Int} {G : Fur} {v : Nat → Value} {L : List Stn} {ol : List Int} {w6 : Value} {most sS sC : Int} {V : World} (hC : TrC w rb ra b4 A bs) (hn8 : n ≤ 8) (hva : G.va = true) (hlen : G.l0.length = n) (hol : ol.length = n) (htr : Truth G.pl (fnOf ol)) (hM : mostL G.pl (fnOf ol) = most)
    (hS : ∀ i, i + 1 < n → bits .and .i64 (sS / 2 ^ i) 1 = if worstS G.pl i then 1 else 0) (hCc : ∀ i, i + 1 < n → bits .and .i64 (sC / 2 ^ i) 1 = if worstC G.pl i then 1 else 0)
    (hA : ∀ W, TrS w rb ra b4 A c bs G.s0 G.s1 G.s2 k v (fun _ => L.length) (xsG L) W → G.At W ∧ n ≤ c5 ∧ RowI W A5 ol) (hT : TrS w rb ra b4 A c bs G.s0 G.s1 G.s2 k v (fun _ => L.length) (xsG L) V) (t : Array Value) (hSl : Slots (none :: none :: none :: some (.func (.func 75) #[] #[.pointer (some ⟨ra, 0, none⟩), .pointer (some ⟨rb, 0, none⟩)]) :: some (.pointer (some ⟨b4, 0, none⟩)) :: some (.slice A5 n c5) :: some (w6) :: o4 (some (.int .i64 most) :: none :: none :: some (.int .i64 sS) :: some (.int .i64 sC) :: none :: o4 (some (.int .i64 1) :: none :: none :: o4 (o16 (o16 (o64 (o64 (o64 [])))))))) t) :
    Exec Try.prog none (sub (Try.f6.body.getD .skip) [1, 1, 1, 1, 1, 1, 1, 1, 1, 1, 1, 1, 1, 0, 1]) t V (andThen (fun t' W' => TrS w rb ra b4 A c bs G.s0 G.s1 G.s2 k v (fun _ => L.length) (xsG L) W' ∧ Slots (none :: none :: none :: some (.func (.func 75) #[] #[.pointer (some ⟨ra, 0, none⟩), .pointer (some ⟨rb, 0, none⟩)]) :: some (.pointer (some ⟨b4, 0, none⟩)) :: none :: some (w6) :: none :: o4 (o16 (o16 (o16 (o64 (o64 (o64 []))))))) t') fun _ _ _ => False) := by
  have hok := Fur.okS hva
  have hpl := G.pl_len
  have hbd : ∀ x ∈ ol, -1000 ≤ x ∧ x ≤ 1000 := truth_bd hok (by omega) htr
  refine exec_block ?_
  refine exec_loop (ThI w rb ra b4 c k n c5 A A5 bs G v L w6 most sS sC) (n - 1) ⟨1, Nat.le_refl _, .inr rfl, by omega, hT, hSl⟩ ?_
  clear hSl hT
  clear V t
  rintro j t W ⟨i, h1, hi, hj, hT, hSl⟩
  obtain ⟨x, hx⟩ := Slots.open_ hSl; simp only [fill, Nat.reduceAdd] at hx; subst hx; clear hSl
  have hw : IntKind.i64.wrap ((i : Int) + 1) = ((i + 1 : Nat) : Int) := by rw [IntWalk.i64_in _ (by omega)]; norm_cast
  refine exec_seq (exec_seq (exec_region_o fun ds => ?_))
  gi_wp2
  refine eq_mk (Keep.refl _) ?_
  show Exec _ _ _ _ _ _
  refine exec_cond (b := decide (i + 1 < n)) (by first | rfl | (show Value.bool _ = _; simp; done) | (show Value.bool _ = _; congr 1; apply decide_eq_decide.2; omega)) (fun hp => ?_) (fun hp => ?_)
  · have h2 : i + 1 < n := of_decide_eq_true hp
    have sta := sta_is hok htr h1 (by omega)
    have hSk := hS i h2
    have hCk := hCc i h2
    obtain ⟨hG, hc5, hr5⟩ := hA W hT
    have hbc : Calls Try.prog 35 #[.slice A5 n c5, .int .i64 i] W fun e w' => e = .returned (.int .i64 (bnd (fnOf ol) i)) ∧ Below W.heap.size W w' := by
      have := bent_c (w := W) (c := c5) hr5 (by omega) (by omega) hbd h1 (show i + 1 < ol.length by omega)
      rw [hol] at this
      exact this
    have hac := fun (W : World) (h : G.At W) => at_in2 hva h1 (by omega) W h
    clear hS hCc hp hbd
    refine exec_skip ?_
    show Exec _ _ _ _ _ _
    refine exec_cut (ThM w rb ra b4 c k n c5 A A5 bs G v L w6 most sS sC i) ?_ ?_
    · refine exec_block ?_
      refine exec_seq (exec_region_o fun ds => ?_)
      gi_wp2_with fail
      refine ⟨trivial, rfl, (callsIn_wide.2 hbc).mono ?_⟩
      rintro e X ⟨rfl, hx⟩
      replace hT := hT.belowed hC hx
      have hK := Keep.of_below hx
      clear hx hbc hG hr5
      obtain ⟨own, hown⟩ : ∃ o, bnd (fnOf ol) i = o := ⟨_, rfl⟩
      obtain ⟨st, hst⟩ : ∃ s, atF G.pl i = s := ⟨_, rfl⟩
      obtain ⟨s0, s1⟩ := st
      obtain ⟨a1, a2, _, _, a5, a6, a7, _⟩ := sta
      rw [hst] at a6 a7
      simp only [hst] at hac
      rw [hM] at a1 a2 a5
      rw [hown] at a1 a2 a5 a6 a7 ⊢
      have HOK := Lib.hid (And.intro a1 (And.intro a2 (And.intro a5 (And.intro a6 (And.intro a7 (And.intro hSk hCk))))))
      clear a1 a2 a5 a6 a7 hst hSk hCk hown
      gi_wp2
      refine eq_mk hK ?_
      show Exec _ _ _ _ _ _
      clear hK
      clear W
      have c0 := hT.box.cell0
      have c1 := hT.box.cell1
      have c2 := hT.box.cell2
      refine exec_seq (exec_region_o fun ds => ?_)
      gi_wp2_with fail
      refine ⟨trivial, rfl, (callsIn_wide.2 (hac X (hA X hT).1)).mono ?_⟩
      rintro e Y ⟨rfl, hy⟩
      replace hT := hT.belowed hC hy
      have hK := Keep.of_below hy
      clear hy c0 c1 c2 hac
      gi_wp2
      refine eq_mk (hK.alloc _) ?_
      show Exec _ _ _ _ _ _
      replace hT := hT.alloc hC (.cells #[.int .i64 s0, .int .i64 s1] 28)
      have q23 := Box2.new Y 28 s0 s1
      generalize Y.alloc (.cells #[.int .i64 s0, .int .i64 s1] 28) = Z at *
      clear hK
      generalize Y.heap.size = a23 at *
      clear X Y
      obtain ⟨a1, a2, a5, a6, a7, hSk, hCk⟩ := HOK.out
      clear HOK
      have hmin : min i 64 = i := by omega
      refine exec_cut (fun t' W' => Below Z.heap.size Z W' ∧ Slots (none :: none :: none :: some (.func (.func 75) #[] #[.pointer (some ⟨ra, 0, none⟩), .pointer (some ⟨rb, 0, none⟩)]) :: some (.pointer (some ⟨b4, 0, none⟩)) :: some (.slice A5 n c5) :: some (w6) :: o4 (some (.int .i64 most) :: none :: none :: some (.int .i64 sS) :: some (.int .i64 sC) :: none :: o4 (some (.int .i64 ((i : Nat) : Int)) :: some (.int .i64 own) :: some (.pointer (some ⟨a23, 0, none⟩)) :: some (.int .i64 0) :: none :: none :: o4 (o16 (o16 (o16 (o64 (o64 (some (.bool false) :: o4 (o4 (o4 (o16 (o16 []))))))))))))) t') ?_ ?_
      · by_cases f : own = most
        · subst f
          rw [if_pos (a1 rfl)] at hCk
          refine (tt_27a (sS := sS) (rb := rb) (ra := ra) (b4 := b4) (i := i) (w5 := .slice A5 n c5) (w6 := w6) q23 (by omega) a6 a7 hCk (by rw [hmin]; exact hCk) _ (by simp only [Slots, Fits, and_self])).mono ?_
          intro e t' V h
          obtain ⟨rfl, h⟩ := only_normal h
          exact h
        · rw [if_neg (fun h => f (a2 h))] at hSk
          refine (tt_27b (sC := sC) (rb := rb) (ra := ra) (b4 := b4) (i := i) (w5 := .slice A5 n c5) (w6 := w6) q23 (by omega) a6 a7 f hSk (by rw [hmin]; exact hSk) _ (by simp only [Slots, Fits, and_self])).mono ?_
          intro e t' V h
          obtain ⟨rfl, h⟩ := only_normal h
          exact h
      rintro t' W' ⟨hz, hSl⟩
      clear x a1 a2 a5 a6 a7 hSk hCk q23
      obtain ⟨x, hx⟩ := Slots.open_ hSl; simp only [fill, Nat.reduceAdd] at hx; subst hx; clear hSl
      replace hT := hT.belowed hC hz
      refine exec_cond (b := false) rfl (fun h => by cases h) (fun _ => exec_skip ?_)
      exact ⟨hT, (by simp only [Slots, Fits, and_self])⟩
    · clear hT hbc hac hSk hCk sta hG hr5
      rintro t' W' ⟨hT, hSl⟩
      clear x hw
      obtain ⟨x, hx⟩ := Slots.open_ hSl; simp only [fill, Nat.reduceAdd] at hx; subst hx; clear hSl
      have hw : IntKind.i64.wrap ((i : Int) + 1) = ((i + 1 : Nat) : Int) := by rw [IntWalk.i64_in _ (by omega)]; norm_cast
      refine exec_region_o fun ds => ?_
      gi_wp2
      exact eq_mk (Keep.refl _) ⟨n - (i + 1), by omega, i + 1, by omega, .inl (by omega), rfl, hT, by simp only [Slots, Fits, and_self]; simp⟩
  · refine exec_exit ?_
    show _ ∧ _
    exact ⟨hT, (by simp only [Slots, Fits, and_self])⟩
end Go.Proofs.Ytafmgmaelnpehaa
end

section
set_option linter.unusedVariables false
set_option linter.unusedSimpArgs false
namespace Go.Proofs.Ytafmgmaelnpehaa
open Go.RowKit Go.TL Go.Shelf Go.Fu
attribute [local go_sem] Oper.semAt_some
open PFurrowAsks Go.Proofs.YtafmgmaelnpehaaW.PrintWords
set_option maxRecDepth 100000 in
set_option maxHeartbeats 4000000 in
theorem tt_34a {V : World} {i n : Nat} {w6 : Value} {own least sS sC : Int} (hi8 : i ≤ 64) (hlt : own < least) (hc : bits .and .i64 (sC / 2 ^ i) 1 = 1) (hc2 : bits .and .i64 (sC / 2 ^ min i 64) 1 = 1) (t : Array Value) (hSl : Slots (none :: o4 (o4 (o16 (some (.int .i64 least) :: some (.int .i64 sS) :: some (.int .i64 sC) :: some (.int .i64 0) :: some (.int .i64 ((i : Nat) : Int)) :: some (.int .i64 own) :: none :: none :: o4 (o4 (o16 (o16 (o16 (o64 (o64 (some (w6) :: some (.int .i64 ((n : Nat) : Int)) :: some (.int .i64 ((i : Nat) : Int)) :: o16 (o16 [])))))))))))) t) :
    Exec Try.prog none (sub (Try.f6.body.getD .skip) [1, 1, 1, 1, 1, 1, 1, 1, 1, 1, 1, 1, 1, 1, 1, 1, 0, 1, 0, 0, 1, 1, 0, 0, 1, 0]) t V (andThen (fun t' W' => Below V.heap.size V W' ∧ Slots (none :: o4 (o4 (o16 (some (.int .i64 least) :: some (.int .i64 sS) :: some (.int .i64 sC) :: some (.int .i64 0) :: some (.int .i64 ((i : Nat) : Int)) :: some (.int .i64 own) :: none :: none :: o4 (o4 (o16 (o16 (o16 (o64 (o64 (some (w6) :: some (.int .i64 ((n : Nat) : Int)) :: some (.int .i64 ((i : Nat) : Int)) :: none :: o4 (o4 (o4 (o16 (some (.bool false) :: none :: none :: []))))))))))))))) t') fun _ _ _ => False) := by
  obtain ⟨x, hx⟩ := Slots.open_ hSl; simp only [fill, Nat.reduceAdd] at hx; subst hx; clear hSl
  have hmin : min i 64 = i := by omega
  have HX := Lib.hid (Below.refl V.heap.size V)
  refine exec_region_o fun ds => ?_
  show (Code.region _ _ _).wpIn _ _ _ _ _ _
  gi_wp2
  all_goals (refine eq_mk (Keep.refl _) ⟨HX.out, ?_⟩; simp only [Slots, Fits, and_self]; try simp; try omega)
end Go.Proofs.Ytafmgmaelnpehaa
end

section
set_option linter.unusedVariables false
set_option linter.unusedSimpArgs false
namespace Go.Proofs.Ytafmgmaelnpehaa
open Go.RowKit Go.TL Go.Shelf Go.Fu
attribute [local go_sem] Oper.semAt_some
open PFurrowAsks Go.Proofs.YtafmgmaelnpehaaW.PrintWords
set_option maxRecDepth 100000 in
set_option maxHeartbeats 4000000 in
theorem tt_34b {V : World} {i n : Nat} {w6 : Value} {own least sS sC : Int} (hi8 : i ≤ 64) (hlt : ¬ own < least) (hc : bits .and .i64 (sS / 2 ^ i) 1 = 0) (hc2 : bits .and .i64 (sS / 2 ^ min i 64) 1 = 0) (t : Array Value) (hSl : Slots (none :: o4 (o4 (o16 (some (.int .i64 least) :: some (.int .i64 sS) :: some (.int .i64 sC) :: some (.int .i64 0) :: some (.int .i64 ((i : Nat) : Int)) :: some (.int .i64 own) :: none :: none :: o4 (o4 (o16 (o16 (o16 (o64 (o64 (some (w6) :: some (.int .i64 ((n : Nat) : Int)) :: some (.int .i64 ((i : Nat) : Int)) :: o16 (o16 [])))))))))))) t) :
    Exec Try.prog none (sub (Try.f6.body.getD .skip) [1, 1, 1, 1, 1, 1, 1, 1, 1, 1, 1, 1, 1, 1, 1, 1, 0, 1, 0, 0, 1, 1, 0, 0, 1, 0]) t V (andThen (fun t' W' => Below V.heap.size V W' ∧ Slots (none :: o4 (o4 (o16 (some (.int .i64 least) :: some (.int .i64 sS) :: some (.int .i64 sC) :: some (.int .i64 0) :: some (.int .i64 ((i : Nat) : Int)) :: some (.int .i64 own) :: none :: none :: o4 (o4 (o16 (o16 (o16 (o64 (o64 (some (w6) :: some (.int .i64 ((n : Nat) : Int)) :: some (.int .i64 ((i : Nat) : Int)) :: none :: o4 (o4 (o4 (o16 (some (.bool false) :: none :: none :: []))))))))))))))) t') fun _ _ _ => False) := by
  obtain ⟨x, hx⟩ := Slots.open_ hSl; simp only [fill, Nat.reduceAdd] at hx; subst hx; clear hSl
  have hmin : min i 64 = i := by omega
  have HX := Lib.hid (Below.refl V.heap.size V)
  refine exec_region_o fun ds => ?_
  show (Code.region _ _ _).wpIn _ _ _ _ _ _
  gi_wp2
  all_goals (refine eq_mk (Keep.refl _) ⟨HX.out, ?_⟩; simp only [Slots, Fits, and_self]; try simp; try omega)
end Go.Proofs.Ytafmgmaelnpehaa
end

section
set_option linter.unusedVariables false
set_option linter.unusedSimpArgs false
namespace Go.Proofs.Ytafmgmaelnpehaa
open Go.RowKit Go.TL Go.Shelf Go.Fu
attribute [local go_sem] Oper.semAt_some
open PFurrowAsks Go.Proofs.YtafmgmaelnpehaaW.PrintWords
def TkI (V : World) (n c6 : Nat) (A6 : Option Addr) (least sS sC : Int) (j : Nat) (t : Array Value) (W : World) : Prop := ∃ i : Nat, i ≤ n ∧ j = n - i ∧ Below V.heap.size V W ∧ Slots (none :: o4 (o4 (o16 (some (.int .i64 least) :: some (.int .i64 sS) :: some (.int .i64 sC) :: some (.int .i64 0) :: o4 (o4 (o4 (o16 (o16 (o16 (o64 (o64 (some (.slice A6 n c6) :: some (.int .i64 ((n : Nat) : Int)) :: some (.int .i64 ((i : Nat) : Int)) :: o16 (o16 []))))))))))))) t
def TkM (V : World) (n c6 : Nat) (A6 : Option Addr) (least sS sC : Int) (i : Nat) (t : Array Value) (W : World) : Prop := Below V.heap.size V W ∧ Slots (none :: o4 (o4 (o16 (some (.int .i64 least) :: some (.int .i64 sS) :: some (.int .i64 sC) :: some (.int .i64 0) :: o4 (o4 (o4 (o16 (o16 (o16 (o64 (o64 (some (.slice A6 n c6) :: some (.int .i64 ((n : Nat) : Int)) :: some (.int .i64 ((i : Nat) : Int)) :: o16 (o16 []))))))))))))) t
set_option maxRecDepth 100000 in
set_option maxHeartbeats 4000000 in
theorem tk_loop {V : World} {n c6 : Nat} {A6 : Option Addr} {dl : List Int} {least sS sC : Int} {G : Fur} (hn8 : n ≤ 8) (hdl : dl.length = n) (hr : RowI V A6 dl) (hd : ∀ j, j < n → (G.d j).1 ≤ dl.getD j 0 ∧ dl.getD j 0 ≤ (G.d j).2)
    (hS : ∀ i, i < n → bits .and .i64 (sS / 2 ^ i) 1 = if decide ((G.d i).2 < least) then 1 else 0) (hCc : ∀ i, i < n → bits .and .i64 (sC / 2 ^ i) 1 = if decide ((G.d i).1 < least) then 1 else 0) (t : Array Value) (hSl : Slots (none :: o4 (o4 (o16 (some (.int .i64 least) :: some (.int .i64 sS) :: some (.int .i64 sC) :: some (.int .i64 0) :: o4 (o4 (o4 (o16 (o16 (o16 (o64 (o64 (some (.slice A6 n c6) :: some (.int .i64 ((n : Nat) : Int)) :: some (.int .i64 0) :: o16 (o16 []))))))))))))) t) :
    Exec Try.prog none (sub (Try.f6.body.getD .skip) [1, 1, 1, 1, 1, 1, 1, 1, 1, 1, 1, 1, 1, 1, 1, 1, 0, 1]) t V (andThen (fun t' W' => Below V.heap.size V W' ∧ Slots (o4 (o4 (o4 (o16 (o16 (o16 (o64 (o64 (o64 []))))))))) t') fun _ _ _ => False) := by
  have hu33 := Try.underlying33
  refine exec_block ?_
  refine exec_loop (TkI V n c6 A6 least sS sC) n ⟨0, by omega, by omega, Below.refl _ _, by simpa using hSl⟩ ?_
  clear hSl t
  rintro j t W ⟨i, hi, hj, hB, hSl⟩
  obtain ⟨x, hx⟩ := Slots.open_ hSl; simp only [fill, Nat.reduceAdd] at hx; subst hx; clear hSl
  refine exec_seq (exec_region_o fun ds => ?_)
  gi_wp2
  refine eq_mk (Keep.refl _) ?_
  show Exec _ _ _ _ _ _
  refine exec_seq (exec_cond (b := decide (i < n)) rfl (fun hp => ?_) (fun hp => ?_))
  · have hil : i < n := of_decide_eq_true hp
    refine exec_skip ?_
    show Exec _ _ _ _ _ _
    have hSi := hS i hil
    have hCi := hCc i hil
    have hdi := hd i hil
    obtain ⟨ad, hA, hcell⟩ := Kd.at_int hr (i : Int) (by omega) (by omega)
    rw [Int.toNat_natCast] at hcell
    have hrd : rd dl (i : Int) = dl.getD i 0 := by unfold rd; rw [Int.toNat_natCast]
    rw [hrd] at hcell
    generalize dl.getD i 0 = own at *
    subst hA
    have hcW := (Grow.of_below (B := 0) hB).cell hcell
    have hiI : (i : Int) < n := by omega
    have hmin : min i 64 = i := by omega
    refine exec_cut (TkM V n c6 (some ad) least sS sC i) ?_ ?_
    · refine exec_block (exec_seq (exec_region_o fun ds => ?_))
      gi_wp2
      refine eq_mk (Keep.refl _) ?_
      show Exec _ _ _ _ _ _
      refine exec_cut (fun t' W' => Below W.heap.size W W' ∧ Slots (none :: o4 (o4 (o16 (some (.int .i64 least) :: some (.int .i64 sS) :: some (.int .i64 sC) :: some (.int .i64 0) :: some (.int .i64 ((i : Nat) : Int)) :: some (.int .i64 own) :: none :: none :: o4 (o4 (o16 (o16 (o16 (o64 (o64 (some (.slice (some ad) n c6) :: some (.int .i64 ((n : Nat) : Int)) :: some (.int .i64 ((i : Nat) : Int)) :: none :: o4 (o4 (o4 (o16 (some (.bool false) :: none :: none :: []))))))))))))))) t') ?_ ?_
      · by_cases f : own < least
        · rw [if_pos (decide_eq_true (by omega))] at hCi
          refine (tt_34a (sS := sS) (i := i) (n := n) (w6 := .slice (some ad) n c6) (by omega) f hCi (by rw [hmin]; exact hCi) _ (by simp only [Slots, Fits, and_self])).mono ?_
          intro e t' V h
          obtain ⟨rfl, h⟩ := only_normal h
          exact h
        · rw [if_neg (by simp; omega)] at hSi
          refine (tt_34b (sC := sC) (i := i) (n := n) (w6 := .slice (some ad) n c6) (by omega) f hSi (by rw [hmin]; exact hSi) _ (by simp only [Slots, Fits, and_self])).mono ?_
          intro e t' V h
          obtain ⟨rfl, h⟩ := only_normal h
          exact h
      rintro t' W' ⟨hz, hSl⟩
      clear x
      obtain ⟨x, hx⟩ := Slots.open_ hSl; simp only [fill, Nat.reduceAdd] at hx; subst hx; clear hSl
      refine exec_cond (b := false) rfl (fun h => by cases h) (fun _ => exec_skip ?_)
      exact ⟨hB.trans (hz.mono hB.size), (by simp only [Slots, Fits, and_self])⟩
    · clear hB hSi hCi hdi hcW hcell
      rintro t' W' ⟨hB, hSl⟩
      clear x
      obtain ⟨x, hx⟩ := Slots.open_ hSl; simp only [fill, Nat.reduceAdd] at hx; subst hx; clear hSl
      have hw : IntKind.i64.wrap ((i : Int) + 1) = ((i + 1 : Nat) : Int) := by rw [IntWalk.i64_in _ (by omega)]; norm_cast
      refine exec_region_o fun ds => ?_
      gi_wp2
      exact eq_mk (Keep.refl _) ⟨j - 1, by omega, i + 1, by omega, by omega, hB, by simp only [Slots, Fits, and_self]; simp⟩
  · refine exec_exit ?_
    show _ ∧ _
    exact ⟨hB, (by simp only [Slots, Fits, and_self])⟩
end Go.Proofs.Ytafmgmaelnpehaa
end

section
set_option linter.unusedVariables false
set_option linter.unusedSimpArgs false
namespace Go.Proofs.Ytafmgmaelnpehaa
open Go.RowKit Go.TL Go.Shelf Go.Fu
attribute [local go_sem] Oper.semAt_some
open PFurrowAsks Go.Proofs.YtafmgmaelnpehaaW.PrintWords
set_option maxRecDepth 100000 in
set_option maxHeartbeats 4000000 in
theorem tt_20 {V : World} {ra rb b4 a12 a19 : Nat} {w5 w6 : Value} {so most sS sC lo hi p q : Int} (b12 : Box2 V a12 28 lo hi) (b19 : Box2 V a19 28 p q) (h1 : lo ≤ most) (h2 : most ≤ hi) (h3 : p ≤ so) (h4 : so ≤ q) (t : Array Value) (hSl : Slots (none :: none :: none :: some (.func (.func 75) #[] #[.pointer (some ⟨ra, 0, none⟩), .pointer (some ⟨rb, 0, none⟩)]) :: some (.pointer (some ⟨b4, 0, none⟩)) :: some (w5) :: some (w6) :: some (.int .i64 so) :: none :: none :: none :: some (.int .i64 most) :: some (.pointer (some ⟨a12, 0, none⟩)) :: some (.int .i64 0) :: some (.int .i64 sS) :: some (.int .i64 sC) :: some (.int .i64 0) :: some (.int .i64 0) :: some (.int .i64 0) :: some (.pointer (some ⟨a19, 0, none⟩)) :: some (.int .i64 0) :: none :: none :: none :: o4 (o16 (o16 (o64 (o64 (o64 [])))))) t) :
    Exec Try.prog none (sub (Try.f6.body.getD .skip) [1, 1, 1, 1, 1, 1, 1, 1, 1, 1, 1, 1, 0, 0]) t V (andThen (fun t' W' => Below V.heap.size V W' ∧ Slots (none :: none :: none :: some (.func (.func 75) #[] #[.pointer (some ⟨ra, 0, none⟩), .pointer (some ⟨rb, 0, none⟩)]) :: some (.pointer (some ⟨b4, 0, none⟩)) :: some (w5) :: some (w6) :: some (.int .i64 so) :: none :: none :: none :: some (.int .i64 most) :: some (.pointer (some ⟨a12, 0, none⟩)) :: some (.int .i64 0) :: some (.int .i64 sS) :: some (.int .i64 sC) :: some (.int .i64 0) :: some (.int .i64 0) :: some (.int .i64 0) :: some (.pointer (some ⟨a19, 0, none⟩)) :: some (.int .i64 0) :: none :: none :: o4 (o4 (o64 (o64 (some (.bool false) :: o4 (o4 (o4 (o16 (o64 []))))))))) t') fun _ _ _ => False) := by
  obtain ⟨x, hx⟩ := Slots.open_ hSl; simp only [fill, Nat.reduceAdd] at hx; subst hx; clear hSl
  have hu28 := Try.underlying28
  have d0 := b12.cell0
  have d1 := b12.cell1
  have hin1 : (decide (lo ≤ most) && decide (most ≤ hi)) = true := by simp [h1, h2]
  have hin2 : (decide (p ≤ so) && decide (so ≤ q)) = true := by simp [h3, h4]
  clear h1 h2 h3 h4
  refine exec_region_o fun ds => ?_
  show (Code.region _ _ _).wpIn _ _ _ _ _ _
  gi_wp2_with fail
  refine ⟨trivial, rfl, (callsIn_wide.2 (inside_c most lo hi V)).mono ?_⟩
  rintro e X ⟨rfl, hx⟩
  rw [hin1]
  have hK := Keep.of_below hx
  replace b19 := box2_below hx b19
  have HX := Lib.hid hx
  clear hx d0 d1 b12 hin1
  have d0 := b19.cell0
  have d1 := b19.cell1
  gi_wp2_with fail
  refine ⟨trivial, rfl, (callsIn_wide.2 (inside_c so p q X)).mono ?_⟩
  rintro e Y ⟨rfl, hy⟩
  rw [hin2]
  replace hK := hK.trans (Keep.of_below hy)
  have HY := Lib.hid (HX.out.trans (hy.mono HX.out.size))
  clear hy d0 d1 b19 hin2
  gi_wp2
  exact eq_mk hK ⟨HY.out, (by simp only [Slots, Fits, and_self])⟩
end Go.Proofs.Ytafmgmaelnpehaa
end

section
set_option linter.unusedVariables false
set_option linter.unusedSimpArgs false
namespace Go.Proofs.Ytafmgmaelnpehaa
open Go.RowKit Go.TL Go.Shelf Go.Fu
attribute [local go_sem] Oper.semAt_some
open PFurrowAsks Go.Proofs.YtafmgmaelnpehaaW.PrintWords
set_option maxRecDepth 100000 in
set_option maxHeartbeats 4000000 in
theorem true_any (A : Option Addr) (c : Nat) (bs : List Int) (w : World) (hby : RowU w A bs) (hbs : ∀ b ∈ bs, 0 ≤ b ∧ b ≤ 65535) : Calls Try.prog 6 #[.slice A bs.length c] w fun e w' => e = .returned (.bool true) ∧ Below w.heap.size w w' := by
  refine calls_of_exec Try.func6 rfl ?_
  simp only [Try.ntmps6, List.size_toArray, List.length_cons, List.length_nil, Nat.reduceAdd, Nat.reduceSub, Array.replicate_succ, Array.replicate_zero, List.push_toArray, List.append_toArray, List.nil_append, List.cons_append]
  refine exec_seq (exec_region_o fun ds => ?_)
  gi_wp2
  refine eq_mk (Keep.refl _) ?_
  show Exec _ _ _ _ _ _
  refine exec_seq (exec_seq (exec_region_o fun ds => ?_))
  gi_wp2
  refine eq_mk (Keep.refl _) ?_
  show Exec _ _ _ _ _ _
  by_cases hp : bs.length = 0
  · have hB := Below.refl w.heap.size w
    refine exec_cond (b := true) (by first | rfl | (show Value.bool _ = _; simp; omega) | (show Value.bool _ = _; simp; exact List.length_eq_zero_iff.1 hp)) (fun _ => ?_) (fun h => by cases h)
    refine exec_seq (exec_region_o fun ds => ?_)
    gi_wp2_with fail
    refine ⟨trivial, rfl, (callsIn_wide.2 (alive_any _)).mono ?_⟩
    rintro e Q ⟨rfl, hq⟩
    gi_wp2
    refine eq_mk (Keep.of_below hq) ?_
    show Exec _ _ _ _ _ _
    exact exec_ret ⟨.inr rfl, fun W' hG => ⟨.bool true, by simp [results, Try.f6, go_sem], rfl, (hB.trans (hq.mono hB.size)).trans (hG.below (Nat.le_refl _) (hB.trans (hq.mono hB.size)).size)⟩⟩
  refine exec_cond (b := false) (by first | rfl | (show Value.bool _ = _; simp; omega) | (show Value.bool _ = _; simp; intro c; rw [c] at hp; exact hp rfl)) (fun h => by cases h) (fun _ => exec_skip ?_)
  show Exec _ _ _ _ _ _
  refine exec_seq (exec_region_o fun ds => ?_)
  gi_wp2_with fail
  refine ⟨trivial, rfl, (callsIn_wide.2 (draws_c A bs.length c w)).mono ?_⟩
  rintro e Y ⟨rfl, hy, h45, h3, hsz⟩
  have hK := Keep.of_below hy
  gi_wp2
  refine eq_mk hK ?_
  show Exec _ _ _ _ _ _
  clear hK
  refine exec_seq (exec_region_o fun ds => ?_)
  gi_wp2
  refine eq_mk ((Keep.refl _).alloc _) ?_
  show Exec _ _ _ _ _ _
  have hC : TrC w w.heap.size (w.heap.size + 1) Y.heap.size A bs := ⟨Nat.le_refl _, by omega, by omega, hby, hbs, by omega⟩
  have hT : TrS w w.heap.size (w.heap.size + 1) Y.heap.size A c bs (.slice none 0 0) (.slice none 0 0) (.slice none 0 0) 0 (fun _ => .slice none 0 0) (fun _ => 0) (fun _ => []) (Y.alloc (.cells #[.slice none 0 0, .slice none 0 0, .slice none 0 0] 24)) := by
    have ha := (Below.refl Y.heap.size Y).alloc (Nat.le_refl _) (.cells #[.slice none 0 0, .slice none 0 0, .slice none 0 0] 24)
    exact ⟨hy.trans (ha.mono hy.size), (ha.block _ (by omega)).trans h3, (ha.block _ (by omega)).trans h45, Box3.new Y 24 _ _ _, Own5.start _ _, by simp⟩
  generalize Y.alloc (.cells #[.slice none 0 0, .slice none 0 0, .slice none 0 0] 24) = X at *
  clear hy h45 h3 hby hbs
  obtain ⟨b4, hb4⟩ : ∃ b, Y.heap.size = b := ⟨_, rfl⟩
  rw [hb4] at hC hT ⊢
  clear hsz hb4
  clear Y
  obtain ⟨ra, hra⟩ : ∃ b, w.heap.size + 1 = b := ⟨_, rfl⟩
  rw [hra] at hC hT ⊢
  clear hra
  refine exec_seq (exec_region_o fun ds => ?_)
  gi_wp2
  refine eq_mk (Keep.refl _) ?_
  show Exec _ _ _ _ _ _
  refine exec_seq (exec_region_o fun ds => ?_)
  gi_wp2
  refine eq_mk (Keep.refl _) ?_
  show Exec _ _ _ _ _ _
  refine exec_seq (exec_seq (exec_region_o fun ds => ?_))
  gi_wp2_with fail
  refine ⟨trivial, rfl, (callsIn_wide.2 (hT.draw hC (by omega) 9 (by omega) (by omega))).mono ?_⟩
  rintro e Y ⟨⟨z, rfl, z1, z2⟩, hT2, hK⟩
  clear hT
  gi_wp2
  refine eq_mk hK ?_
  show Exec _ _ _ _ _ _
  clear hK
  clear X
  obtain ⟨N, rfl⟩ : ∃ N : Nat, z = (N : Int) := ⟨z.toNat, by omega⟩
  have hN8 : N ≤ 8 := by omega
  clear z1 z2
  refine (tl_loop (N := N) hN8 hC hT2 _ (by simp only [Slots, Fits, and_self])).mono ?_
  intro e t' X0 hh
  obtain ⟨rfl, L, v, hLN, hok, hT, hSl⟩ := only_normal hh
  subst hLN
  clear hh hT2
  clear Y
  obtain ⟨x, hx⟩ := Slots.open_ hSl; simp only [fill, Nat.reduceAdd] at hx; subst hx; clear hSl
  obtain ⟨G, A5, c5, A6, c6, e0, e1, e2, e3, e4, hLd, hGA⟩ := tr_fur hT hok (by omega)
  rw [e0, e1, e2] at hT
  simp only [e3, e4]
  clear e0 e1 e2 e3 e4 hok
  have hol : (L.map Stn.o).length = L.length := List.length_map _
  have hdl : (L.map Stn.d).length = L.length := List.length_map _
  have hva := hLd.va
  have htr := hLd.truth
  have hso := hLd.soil
  have hdp := hLd.depth
  have hlen := hLd.len
  have hpl := G.pl_len
  obtain ⟨ol, hole⟩ : ∃ l, L.map Stn.o = l := ⟨_, rfl⟩
  obtain ⟨dl, hdle⟩ : ∃ l, L.map Stn.d = l := ⟨_, rfl⟩
  rw [hole] at hol htr
  rw [hdle] at hdl
  simp only [hdle] at hdp
  simp only [hole, hdle] at hGA ⊢
  clear hole hdle hLd
  obtain ⟨k, hk⟩ : ∃ k, 1 + 9 * L.length = k := ⟨_, rfl⟩
  rw [hk] at hT
  have hk5 : k ≤ 500 := by omega
  clear hk
  have hokS := Fur.okS hva
  have hbd : ∀ x ∈ ol, -1000 ≤ x ∧ x ≤ 1000 := truth_bd hokS (by omega) htr
  obtain ⟨most, hmost⟩ : ∃ m, mostF (fnOf ol) (ol.length - 2) = m := ⟨_, rfl⟩
  have hM : mostL G.pl (fnOf ol) = most := by unfold mostL; rw [hpl, hlen, ← hol]; exact hmost
  have hm0 : 0 ≤ most := by rw [← hmost]; exact mostF_nn _ _
  have hbe1 := (least_spec G.pl hokS).2 _ htr
  have hbe2 := (hi_spec G.pl hokS).2 _ htr
  rw [hM] at hbe1 hbe2
  have HTR := Lib.hid htr
  have HM := Lib.hid hM
  have HBE := Lib.hid (And.intro hbe1 hbe2)
  have HSO := Lib.hid hso
  have HDP := Lib.hid hdp
  have HVA := Lib.hid hva
  have HMC := Lib.hid (show ∀ W, RowI W A5 ol → ol.length ≤ c5 → Calls Try.prog 33 #[.slice A5 ol.length c5] W fun e w' => e = .returned (.int .i64 most) ∧ Below W.heap.size W w' from fun W hW hc => by
    have := most_c (w := W) hW hc (by omega) hbd
    rw [hmost] at this
    exact this)
  have HOL := Lib.hid hol
  have HDL := Lib.hid hdl
  have HLEN := Lib.hid hlen
  have HPL := Lib.hid hpl
  have HOK := Lib.hid hokS
  clear htr hM hbe1 hbe2 hso hdp hva hbd hmost hol hdl hlen hpl hokS
  have c0 := hT.box.cell0
  have c1 := hT.box.cell1
  have c2 := hT.box.cell2
  obtain ⟨hG, ⟨hc5, hr5⟩, ⟨hc6, hr6⟩⟩ := hGA _ _ _ _ _ hT
  refine exec_seq (exec_region_o fun ds => ?_)
  gi_wp2_with fail
  refine ⟨trivial, rfl, (callsIn_wide.2 (HMC.out X0 hr5 hc5)).mono ?_⟩
  rintro e X1 ⟨rfl, hy⟩
  replace hT := hT.belowed hC hy
  have hK := Keep.of_below hy
  clear hy c0 c1 c2 hG hc5 hr5 hc6 hr6
  gi_wp2
  refine eq_mk hK ?_
  show Exec _ _ _ _ _ _
  clear hK
  clear X0
  have c0 := hT.box.cell0
  have c1 := hT.box.cell1
  have c2 := hT.box.cell2
  obtain ⟨hG, ⟨hc5, hr5⟩, ⟨hc6, hr6⟩⟩ := hGA _ _ _ _ _ hT
  refine exec_seq (exec_region_o fun ds => ?_)
  gi_wp2_with fail
  refine ⟨trivial, rfl, (callsIn_wide.2 (Bend_c G X1 hG)).mono ?_⟩
  rintro e Y ⟨rfl, hy⟩
  replace hT := hT.belowed hC hy
  have hK := Keep.of_below hy
  clear hy c0 c1 c2 hG hc5 hr5 hc6 hr6
  obtain ⟨pa, hpa⟩ : ∃ x, (bendV G.va G.pl).1.1 = x := ⟨_, rfl⟩
  rw [hpa]
  have Hpa := Lib.hid hpa
  clear hpa
  obtain ⟨pb, hpb⟩ : ∃ x, (bendV G.va G.pl).1.2 = x := ⟨_, rfl⟩
  rw [hpb]
  have Hpb := Lib.hid hpb
  clear hpb
  obtain ⟨pc, hpc⟩ : ∃ x, (bendV G.va G.pl).2 = x := ⟨_, rfl⟩
  rw [hpc]
  have Hpc := Lib.hid hpc
  clear hpc
  gi_wp2
  refine eq_mk (hK.alloc _) ?_
  show Exec _ _ _ _ _ _
  have ha := (Below.refl Y.heap.size Y).alloc (Nat.le_refl _) (.cells #[.int .i64 pa, .int .i64 pb] 28)
  replace hT := hT.belowed hC ha
  have q12 := Box2.new Y 28 pa pb
  generalize Y.alloc (.cells #[.int .i64 pa, .int .i64 pb] 28) = X2 at *
  clear ha hK
  generalize Y.heap.size = a12 at *
  clear Y
  clear X1
  have c0 := hT.box.cell0
  have c1 := hT.box.cell1
  have c2 := hT.box.cell2
  obtain ⟨hG, ⟨hc5, hr5⟩, ⟨hc6, hr6⟩⟩ := hGA _ _ _ _ _ hT
  refine exec_seq (exec_region_o fun ds => ?_)
  gi_wp2_with fail
  refine ⟨trivial, rfl, (callsIn_wide.2 (Worst_c G X2 hG)).mono ?_⟩
  rintro e X3 ⟨rfl, hy⟩
  replace hT := hT.belowed hC hy
  replace q12 := box2_below hy q12
  have hK := Keep.of_below hy
  clear hy c0 c1 c2 hG hc5 hr5 hc6 hr6
  obtain ⟨wa, hwa⟩ : ∃ x, (worstV G.va G.pl).1 = x := ⟨_, rfl⟩
  rw [hwa]
  have Hwa := Lib.hid hwa
  clear hwa
  obtain ⟨wb, hwb⟩ : ∃ x, (worstV G.va G.pl).2.1 = x := ⟨_, rfl⟩
  rw [hwb]
  have Hwb := Lib.hid hwb
  clear hwb
  obtain ⟨wc, hwc⟩ : ∃ x, (worstV G.va G.pl).2.2 = x := ⟨_, rfl⟩
  rw [hwc]
  have Hwc := Lib.hid hwc
  clear hwc
  gi_wp2
  refine eq_mk hK ?_
  show Exec _ _ _ _ _ _
  clear hK
  clear X2
  have c0 := hT.box.cell0
  have c1 := hT.box.cell1
  have c2 := hT.box.cell2
  obtain ⟨hG, ⟨hc5, hr5⟩, ⟨hc6, hr6⟩⟩ := hGA _ _ _ _ _ hT
  refine exec_seq (exec_region_o fun ds => ?_)
  gi_wp2_with fail
  refine ⟨trivial, rfl, (callsIn_wide.2 (Wrong_c G most X3 hG)).mono ?_⟩
  rintro e X4 ⟨⟨rfl, hww⟩, hy⟩
  replace hT := hT.belowed hC hy
  replace q12 := box2_below hy q12
  have hK := Keep.of_below hy
  clear hy c0 c1 c2 hG hc5 hr5 hc6 hr6
  have HWW := Lib.hid hww
  clear hww
  obtain ⟨ma, hma⟩ : ∃ x, (wrongV G.va most G.pl).1 = x := ⟨_, rfl⟩
  rw [hma]
  have Hma := Lib.hid hma
  clear hma
  obtain ⟨mb, hmb⟩ : ∃ x, (wrongV G.va most G.pl).2 = x := ⟨_, rfl⟩
  rw [hmb]
  have Hmb := Lib.hid hmb
  clear hmb
  gi_wp2
  refine eq_mk hK ?_
  show Exec _ _ _ _ _ _
  clear hK
  clear X3
  have c0 := hT.box.cell0
  have c1 := hT.box.cell1
  have c2 := hT.box.cell2
  obtain ⟨hG, ⟨hc5, hr5⟩, ⟨hc6, hr6⟩⟩ := hGA _ _ _ _ _ hT
  refine exec_seq (exec_region_o fun ds => ?_)
  gi_wp2_with fail
  refine ⟨trivial, rfl, (callsIn_wide.2 (Soil_c G X4 hG)).mono ?_⟩
  rintro e Y ⟨rfl, hy⟩
  replace hT := hT.belowed hC hy
  replace q12 := box2_below hy q12
  have hK := Keep.of_below hy
  clear hy c0 c1 c2 hG hc5 hr5 hc6 hr6
  obtain ⟨ya, hya⟩ : ∃ x, (soilV G.va G).1.1 = x := ⟨_, rfl⟩
  rw [hya]
  have Hya := Lib.hid hya
  clear hya
  obtain ⟨yb, hyb⟩ : ∃ x, (soilV G.va G).1.2 = x := ⟨_, rfl⟩
  rw [hyb]
  have Hyb := Lib.hid hyb
  clear hyb
  obtain ⟨yc, hyc⟩ : ∃ x, (soilV G.va G).2 = x := ⟨_, rfl⟩
  rw [hyc]
  have Hyc := Lib.hid hyc
  clear hyc
  gi_wp2
  refine eq_mk (hK.alloc _) ?_
  show Exec _ _ _ _ _ _
  have ha := (Below.refl Y.heap.size Y).alloc (Nat.le_refl _) (.cells #[.int .i64 ya, .int .i64 yb] 28)
  replace hT := hT.belowed hC ha
  replace q12 := box2_below ha q12
  have q19 := Box2.new Y 28 ya yb
  generalize Y.alloc (.cells #[.int .i64 ya, .int .i64 yb] 28) = X5 at *
  clear ha hK
  generalize Y.heap.size = a19 at *
  clear Y
  clear X4
  have f1 : pa ≤ most ∧ most ≤ pb ∧ pc = 0 := by
    rw [← Hpa.out, ← Hpb.out, ← Hpc.out]
    unfold bendV
    rw [HVA.out, if_pos rfl]
    exact ⟨HBE.out.1, HBE.out.2, rfl⟩
  have f2 : wa = ((setN (worstS G.pl) (L.length - 1) : Nat) : Int) ∧ wb = ((setN (worstC G.pl) (L.length - 1) : Nat) : Int) ∧ wc = 0 := by
    rw [← Hwa.out, ← Hwb.out, ← Hwc.out]
    unfold worstV
    rw [HVA.out, if_pos rfl, HPL.out, HLEN.out]
    exact ⟨shM_set _ _ (by omega), shM_set _ _ (by omega), rfl⟩
  have f3 : ma = 0 ∧ mb = 0 := by
    have a := wrong_none HOK.out hm0 (HWW.out HVA.out hm0) HBE.out.1
    rw [← Hma.out, ← Hmb.out]
    unfold wrongV
    rw [HVA.out, if_pos rfl, if_pos hm0, a]
    exact ⟨rfl, rfl⟩
  have f4 := HSO.out
  rw [Hya.out, Hyb.out, Hyc.out] at f4
  obtain ⟨f1, f5, rfl⟩ := f1
  obtain ⟨rfl, rfl, rfl⟩ := f2
  obtain ⟨rfl, rfl⟩ := f3
  obtain ⟨f4, f6, rfl⟩ := f4
  refine exec_seq (exec_seq ((tt_20 (ra := ra) (rb := w.heap.size) (b4 := b4) (w5 := .slice A5 ol.length c5) (w6 := .slice A6 dl.length c6) (sS := ((setN (worstS G.pl) (L.length - 1) : Nat) : Int)) (sC := ((setN (worstC G.pl) (L.length - 1) : Nat) : Int)) q12 q19 f1 f5 f4 f6 _ (by simp only [Slots, Fits, and_self])).mono ?_))
  intro e t' Y hh
  obtain ⟨rfl, hy, hSl⟩ := only_normal hh
  replace hT := hT.belowed hC hy
  clear hh hy x q12 q19 f1 f5 f4 f6 Hpa Hpb Hpc Hwa Hwb Hwc Hma Hmb HWW Hya Hyb Hyc HSO HBE HMC
  clear X5
  obtain ⟨x, hx⟩ := Slots.open_ hSl; simp only [fill, Nat.reduceAdd] at hx; subst hx; clear hSl
  show Exec _ _ _ _ _ _
  refine exec_cond (b := false) rfl (fun h => by cases h) (fun _ => exec_skip ?_)
  show Exec _ _ _ _ _ _
  refine exec_seq (exec_seq (exec_region_o fun ds => ?_))
  gi_wp2
  refine eq_mk (Keep.refl _) ?_
  show Exec _ _ _ _ _ _
  refine (th_loop (most := most) (n := L.length) (c5 := c5) (A5 := A5) (w6 := .slice A6 dl.length c6) (sS := ((setN (worstS G.pl) (L.length - 1) : Nat) : Int)) (sC := ((setN (worstC G.pl) (L.length - 1) : Nat) : Int)) hC (by omega) HVA.out HLEN.out HOL.out HTR.out HM.out (fun i hi => bit_of (by omega) hi) (fun i hi => bit_of (by omega) hi) (fun W hW => by
    obtain ⟨q1, ⟨q2, q3⟩, _⟩ := hGA _ _ _ _ _ hW
    exact ⟨q1, by rw [← HOL.out]; exact q2, q3⟩) hT _ (by simp only [Slots, Fits, and_self]; simp [HOL.out])).mono ?_
  intro e t' Z hh
  obtain ⟨rfl, hT2, hSl⟩ := only_normal hh
  clear hh hT x
  have hT := hT2
  clear hT2
  clear Y
  obtain ⟨x, hx⟩ := Slots.open_ hSl; simp only [fill, Nat.reduceAdd] at hx; subst hx; clear hSl
  show Exec _ _ _ _ _ _
  refine exec_seq (exec_region_o fun ds => ?_)
  gi_wp2_with fail
  refine ⟨trivial, rfl, (callsIn_wide.2 (hT.draw hC (by omega) 45 (by omega) (by omega))).mono ?_⟩
  rintro e Y ⟨⟨least, rfl, z1, z2⟩, hT2, hK⟩
  clear hT
  have hT := hT2
  clear hT2
  gi_wp2
  refine eq_mk hK ?_
  show Exec _ _ _ _ _ _
  clear hK
  clear Z
  have c0 := hT.box.cell0
  have c1 := hT.box.cell1
  have c2 := hT.box.cell2
  obtain ⟨hG, ⟨hc5, hr5⟩, ⟨hc6, hr6⟩⟩ := hGA _ _ _ _ _ hT
  refine exec_seq (exec_region_o fun ds => ?_)
  gi_wp2_with fail
  refine ⟨trivial, rfl, (callsIn_wide.2 (Shallow_c G least Y hG)).mono ?_⟩
  rintro e Z ⟨rfl, hy⟩
  replace hT := hT.belowed hC hy
  have hK := Keep.of_below hy
  clear hy c0 c1 c2 hG hc5 hr5 hc6 hr6
  obtain ⟨ua, hua⟩ : ∃ x, (shV G.va least G).1 = x := ⟨_, rfl⟩
  rw [hua]
  have Hua := Lib.hid hua
  clear hua
  obtain ⟨ub, hub⟩ : ∃ x, (shV G.va least G).2.1 = x := ⟨_, rfl⟩
  rw [hub]
  have Hub := Lib.hid hub
  clear hub
  obtain ⟨uc, huc⟩ : ∃ x, (shV G.va least G).2.2 = x := ⟨_, rfl⟩
  rw [huc]
  have Huc := Lib.hid huc
  clear huc
  gi_wp2
  refine eq_mk hK ?_
  show Exec _ _ _ _ _ _
  clear hK
  clear Y
  have hl2 : G.l2.length = L.length := by rw [← HLEN.out]; exact (valid_lens HVA.out).2.2.1
  have f2 : ua = ((setN (fun k => decide ((G.d k).2 < least)) L.length : Nat) : Int) ∧ ub = ((setN (fun k => decide ((G.d k).1 < least)) L.length : Nat) : Int) ∧ uc = 0 := by
    rw [← Hua.out, ← Hub.out, ← Huc.out]
    unfold shV
    rw [HVA.out, if_pos rfl, if_pos z1, hl2]
    exact ⟨shM_set _ _ (by omega), shM_set _ _ (by omega), rfl⟩
  obtain ⟨rfl, rfl, rfl⟩ := f2
  clear Hua Hub Huc
  obtain ⟨_, _, ⟨hc6, hr6⟩⟩ := hGA _ _ _ _ _ hT
  refine exec_seq (exec_seq (exec_region_o fun ds => ?_))
  gi_wp2
  refine eq_mk (Keep.refl _) ?_
  show Exec _ _ _ _ _ _
  refine (tk_loop (n := L.length) (c6 := c6) (A6 := A6) (least := least) (sS := ((setN (fun k => decide ((G.d k).2 < least)) L.length : Nat) : Int)) (sC := ((setN (fun k => decide ((G.d k).1 < least)) L.length : Nat) : Int)) (by omega) HDL.out hr6 HDP.out (fun i hi => bit_n (by omega) hi) (fun i hi => bit_n (by omega) hi) _ (by simp only [Slots, Fits, and_self]; simp [HDL.out])).mono ?_
  intro e t' V hh
  obtain ⟨rfl, hz, hSl⟩ := only_normal hh
  have hB := hT.below.trans (hz.mono hT.below.size)
  clear hh hz hT x hr6
  obtain ⟨x, hx⟩ := Slots.open_ hSl; simp only [fill, Nat.reduceAdd] at hx; subst hx; clear hSl
  show Exec _ _ _ _ _ _
  refine exec_seq (exec_region_o fun ds => ?_)
  gi_wp2_with fail
  refine ⟨trivial, rfl, (callsIn_wide.2 (alive_any _)).mono ?_⟩
  rintro e Q ⟨rfl, hq⟩
  gi_wp2
  refine eq_mk (Keep.of_below hq) ?_
  show Exec _ _ _ _ _ _
  exact exec_ret ⟨.inr rfl, fun W' hG => ⟨.bool true, by simp [results, Try.f6, go_sem], rfl, (hB.trans (hq.mono hB.size)).trans (hG.below (Nat.le_refl _) (hB.trans (hq.mono hB.size)).size)⟩⟩
end Go.Proofs.Ytafmgmaelnpehaa
end

section
set_option linter.unusedVariables false
namespace Go.Proofs.Ytafmgmaelnpehaa
open Go.ChangeShapes Go.WideShapes Go.RowKit Go.Joins Go.Deep PFurrowAsks Go.Proofs.YtafmgmaelnpehaaW.PrintWords
section
variable {H : Type} {enc : TypeId × Value → H} {w : World}
theorem row_open {n : Nat} {v : Value} {y : DataW H × List MemPlace} (h : DataW.trod enc Try.prog w 0 (fun _ => true) true n 22 [v] = some y) : ∃ A c l, v = .slice A (l : List S28).length c ∧ l.length ≤ c ∧ Row w A l := by
  rcases open_slice_pairs Try.underlying22 Try.underlying28 (by kernel_rfl) rfl rfl (by kernel_rfl) (by kernel_rfl) h with ⟨hcs, _⟩ | ⟨a, len, cap, m, n', V0, V1, D0, D1, P0, P1, hcs, _, hl, hm, hmm, _, hi⟩
  · simp only [List.cons.injEq, and_true] at hcs
    exact ⟨none, 0, [], hcs, Nat.le_refl _, rfl, by simp, fun hp => by simp at hp⟩
  · simp only [List.cons.injEq, and_true] at hcs
    have hlm : len ≤ m := by rw [hmm]; split <;> omega
    have each : ∀ i, i < len → ∃ x : S28, w.cell? (a.add (i * 2)) = some (.int .i64 x.f0) ∧ w.cell? (a.add (i * 2 + 1)) = some (.int .i64 x.f1) := by
      intro i hi'
      obtain ⟨c0, c1, t0, t1⟩ := hi i (by omega)
      obtain ⟨x, e0, _, _⟩ := DataW.trod_int Try.underlying3 t0
      obtain ⟨z, e1, _, _⟩ := DataW.trod_int Try.underlying3 t1
      simp only [List.cons.injEq, and_true] at e0 e1
      exact ⟨⟨x, z⟩, by rw [c0, e0], by rw [c1, e1]⟩
    have hex : ∃ l : List S28, l.length = len ∧ ∀ i p, l[i]? = some p → w.cell? (a.add (i * 2)) = some (.int .i64 p.f0) ∧ w.cell? (a.add (i * 2 + 1)) = some (.int .i64 p.f1) := by
      have go : ∀ k, k ≤ len → ∃ l : List S28, l.length = k ∧ ∀ i p, l[i]? = some p → w.cell? (a.add (i * 2)) = some (.int .i64 p.f0) ∧ w.cell? (a.add (i * 2 + 1)) = some (.int .i64 p.f1) := by
        intro k
        induction k with
        | zero => exact fun _ => ⟨[], rfl, fun i p hp => by simp at hp⟩
        | succ k ih =>
          intro hk
          obtain ⟨l, hl1, hl2⟩ := ih (by omega)
          obtain ⟨x, h1, h2⟩ := each k (by omega)
          refine ⟨l ++ [x], by simp [hl1], fun i p hp => ?_⟩
          rcases Nat.lt_or_ge i l.length with hlt | hge
          · rw [List.getElem?_append_left hlt] at hp
            exact hl2 i p hp
          · rw [List.getElem?_append_right hge] at hp
            have hi0 : i - l.length = 0 := by
              rcases Nat.eq_zero_or_pos (i - l.length) with h0 | h0
              · exact h0
              · obtain ⟨q, hq⟩ : ∃ q, i - l.length = q + 1 := ⟨i - l.length - 1, by omega⟩
                rw [hq] at hp
                simp at hp
            rw [hi0] at hp
            simp only [List.getElem?_cons_zero, Option.some.injEq] at hp
            subst hp
            obtain rfl : i = k := by omega
            exact ⟨h1, h2⟩
      exact go len (Nat.le_refl _)
    obtain ⟨l, hl1, hl2⟩ := hex
    refine ⟨some a, cap, l, by rw [hcs, hl1], by omega, rfl, by unfold maxLen at hm; omega, fun hp => ⟨a, rfl, fun j p hp => ?_⟩⟩
    obtain ⟨h1, h2⟩ := hl2 j p hp
    refine ⟨[.int .i64 p.f0, .int .i64 p.f1], rfl, k28_mk w p, fun i u hu => ?_⟩
    match i, hu with
    | 0, hu => simp at hu; subst hu; exact h1
    | 1, hu => simp at hu; subst hu; exact h2
    | i + 2, hu => simp at hu
set_option maxRecDepth 100000 in
theorem fur_open {r : Reach} {b0 : Nat} {v : Value} {d : DataW H} {p : List MemPlace} (hv : Value.okWide Try.prog w r b0 24 v) (h : DataW.Trod enc Try.prog w 0 (fun _ => true) true 24 v d p) : ∃ F : Fur, v = F.val ∧ F.At w := by
  obtain ⟨v0, v1, v2, y0, y1, y2, n, rfl, _, _, h0, h1, h2⟩ := open_agg3 Try.underlying24 (by kernel_rfl) (by kernel_rfl) hv h
  obtain ⟨A0, c0, l0, rfl, g0, r0⟩ := row_open h0
  obtain ⟨A1, c1, l1, rfl, g1, r1⟩ := row_open h1
  obtain ⟨A2, c2, l2, rfl, g2, r2⟩ := row_open h2
  exact ⟨⟨A0, c0, l0, A1, c1, l1, A2, c2, l2⟩, rfl, ⟨r0, g0, r1, g1, r2, g2⟩⟩
end
end Go.Proofs.Ytafmgmaelnpehaa
end

section
namespace Go.Proofs.Ytafmgmaelnpehaa
open Go.RowKit Go.TL Go.Fu PFurrowAsks Go.Proofs.YtafmgmaelnpehaaW.PrintWords in
theorem true_row (a : Option Addr) (len cap : Nat) (z : List Int) (w : World) (hr : (a = none ∧ len = 0 ∧ cap = 0 ∧ z = []) ∨ ∃ x, a = some x ∧ len ≤ cap ∧ cap ≤ maxLen ∧ z.length = cap ∧ (∀ i, i < z.length → w.cell? (x.add i) = some (.int .u16 (z.getD i 0))) ∧ ∀ n ∈ z, (Lit.int .u16 n).wf = true) :
    Calls Try.prog 6 #[.slice a len cap] w fun e w' => e = .returned (.bool true) ∧ Below w.heap.size w w' := by
  obtain ⟨l, rfl, h1, _, h2, _⟩ := ReadsInt.ofRowC hr
  exact true_any a cap l w h1 fun b hb => bounds_u16 (h2 b hb)
end Go.Proofs.Ytafmgmaelnpehaa
namespace Go.Proofs.Ytafmgmaelnpehaa.furrowTrue
open Go.ChangeShapes Go.WideShapes Go.ChangeAt Go.RowKit
open Go.ChangeMaps (open_string shut_string)
set_option linter.unusedVariables false
theorem own : ownKnob Try.prog.godebug = none := by kernel_rfl
theorem laidOut : laidOutB Try.prog = true := by kernel_rfl
def IsRow (k : IntKind) (w : World) (a : Option Addr) (len cap : Nat) (zs : List Int) : Prop :=
  (a = none ∧ len = 0 ∧ cap = 0 ∧ zs = []) ∨
  ∃ x, a = some x ∧ len ≤ cap ∧ cap ≤ maxLen ∧ zs.length = cap ∧ (∀ i, i < zs.length → w.cell? (x.add i) = some (.int k (zs.getD i 0))) ∧ ∀ n ∈ zs, (Lit.int k n).wf = true
set_option maxRecDepth 100000 in
theorem lifted (os : Os) (started : os.Started) (H : Type) (enc : TypeId × Value → H) :
    ReturnsInHanded {} Try.checked os 6 .any (Rows.furrowTrueSpec.pre6 enc Try.prog Try.f6 Rows.furrowTrueRow.domain false) (Rows.furrowTrueSpec.post enc Try.prog Try.f6 false true false false) := by
  refine returnsInHanded_of_change_sized (C := Try.checked) own started (by kernel_rfl) Try.func6
    (ChangeSpec.witness6 (enc := enc) (C := Try.checked) false ⟨#[], #[.slice none 0 0], []⟩ 8 (by kernel_rfl) (by kernel_rfl) (by kernel_rfl) (by kernel_rfl)) ?_
  intro W base args ds gs before hval0 hW hcnd hsz0 _
  have hsz : (DataW.weightsEach Try.prog (Try.f6.params.toList ++ Rows.furrowTrueSpec.plain.varTypes Try.prog) (ds ++ gs)).all (· ≤ reachBytes) = true := hsz0
  have hval : ∀ (j : Nat) t v, Try.f6.params[j]? = some t → args[j]? = some v → Value.okWide Try.prog W .any base t v := hval0
  have hW' := hW
  obtain ⟨p, q, hA0, hV, rfl, hfz, hnd⟩ := hW
  have hA : DataW.TrodAll enc Try.prog W 0 (fun _ => true) true Try.f6.params.toList args.toList ds p := hA0
  rw [Try.params6] at hA hval hsz
  obtain ⟨v0, vs0, d0, ds0, p0, q0, hargs, rfl, rfl, h0, r0⟩ := trodAll_cons hA
  obtain ⟨rfl, rfl, rfl⟩ := trodAll_nil r0
  obtain rfl : args = #[v0] := by cases args; simp_all
  obtain ⟨rfl, rfl⟩ := trodVars_none hV
  obtain ⟨a0, len0, cap0, rfl⟩ := okWide_slice Try.underlying45 (hval 0 45 v0 rfl rfl)
  have k0 := h0
  have lt0 : ∀ x ∈ p0, x.block < W.heap.size := by obtain ⟨m, hm⟩ := k0; exact DataW.trod_lt m _ _ _ hm
  obtain ⟨z0, w0⟩ : ∃ zs, IsRow .u16 W a0 len0 cap0 zs := by
    obtain ⟨fuel, hf⟩ := h0
    rcases open_ints Try.underlying45 Try.underlying109 (by kernel_rfl) hf with ⟨hcs, _⟩ | ⟨x, l, c, zs, hcs, _, hl, hm, hz, _, hcell, hwz⟩
    · simp [Value.cells] at hcs
      obtain ⟨rfl, rfl, rfl⟩ := hcs
      exact ⟨[], .inl ⟨rfl, rfl, rfl, rfl⟩⟩
    · simp [Value.cells] at hcs
      obtain ⟨rfl, rfl, rfl⟩ := hcs
      exact ⟨zs, .inr ⟨_, rfl, hl, hm, by simpa using hz, hcell, hwz⟩⟩
  clear hA0 hval0 hsz0 hsz
  refine (true_row a0 len0 cap0 z0 W w0).mono fun e W' ⟨he, bel⟩ => ?_
  subst he
  exact ⟨_, rfl, _, _, _, [], _, [], hW', trodAll_mk1 (shut_bool Try.underlying4 _), (trodAll_cons_mk (Below.trod laidOut (by kernel_rfl) (of_decide_eq_true (by kernel_rfl)) k0 bel lt0) trodAll_mk0), rfl, bel.frame _, fun h => by cases h⟩
theorem over : Rows.furrowTrueRow.holds Try.pinned (OpenSpec.ofChange Rows.furrowTrueSpec) :=
  OpenClaim.holds_of_wide 6 Try.f6 rfl rfl rfl rfl rfl rfl rfl ⟨rfl, rfl, rfl, rfl, rfl⟩ rfl rfl rfl rfl rfl (by kernel_rfl) Try.func6 (by kernel_rfl)
    (of_decide_eq_true (by kernel_rfl)) (by unfold Func.isWrapper; first | (rw [if_pos (by decide +kernel)]; kernel_rfl) | (rw [if_neg (by decide +kernel)]; exact ⟨rfl, rfl⟩))
    (fun os started H enc _ => lifted os started H enc)
theorem proved : Rows.FurrowTrueSaid := over
#print axioms proved
end Go.Proofs.Ytafmgmaelnpehaa.furrowTrue
namespace Go.Proofs.Ytafmgmaelnpehaa
/-- The row, under a short name, for the claim. -/
theorem furrowTrue_holds : Rows.FurrowTrueSaid := furrowTrue.proved
end Go.Proofs.Ytafmgmaelnpehaa
end
