/- Proved: FurrowWrong returns true for all furrows and numbers, in whatever order Go evaluates what it leaves open; no condition. -/
import Derived.Test.YtafmgmaelnpehaaC3
import Derived.Test.YtafmgmaelnpehaaC1
import Derived.Maps.OwnIn
import Derived.Lib.Hide
import Derived.Test.YtafmgmaelnpehaaC2
import Derived.Deep.SlicePairs
import Derived.Lib.SmallJoins
import Derived.Carry
import Derived.ChangeArms
import Derived.ChangeOld
import Derived.WideShapes
import Derived.Test.YtafmgmaelnpehaaRows
import Derived.WalkKit
import Derived.ProofKit
import Derived.OpenShut
import Derived.ShutString
import Derived.Below
import Derived.SizedLaws
section
set_option linter.unusedVariables false
set_option linter.unusedSimpArgs false
namespace Go.Proofs.Ytafmgmaelnpehaa
open Go.RowKit Go.Fu PFurrowAsks Go.Proofs.YtafmgmaelnpehaaW.PrintWords
/-! ### Bits -/
theorem or_all : (List.range 8).all (fun k => (List.range (2 ^ k)).all fun s => bits .or .i64 (s : Int) (wrap64 (2 ^ k)) == ((s + 2 ^ k : Nat) : Int)) = true := by kernel_rfl
theorem or_is (k s : Nat) (hk : k < 8) (hs : s < 2 ^ k) : bits .or .i64 (s : Int) (wrap64 (2 ^ k)) = ((s + 2 ^ k : Nat) : Int) := by
  have h := List.all_eq_true.1 or_all k (List.mem_range.2 hk)
  have h2 := List.all_eq_true.1 h s (List.mem_range.2 hs)
  exact eq_of_beq h2
/-- A set of stations, as a number. -/
def setN (p : Nat → Bool) : Nat → Nat
  | 0 => 0
  | k + 1 => setN p k + if p k then 2 ^ k else 0
theorem setN_lt (p : Nat → Bool) : ∀ k, setN p k < 2 ^ k
  | 0 => by simp [setN]
  | k + 1 => by
    have := setN_lt p k
    unfold setN
    rw [Nat.pow_succ]
    split <;> omega
theorem shM_set (p : Nat → Bool) : ∀ k, k ≤ 8 → shM p k = ((setN p k : Nat) : Int)
  | 0, _ => rfl
  | k + 1, h => by
    unfold shM setN
    rw [shM_set p k (by omega)]
    split
    · rw [or_is k _ (by omega) (setN_lt p k)]
    · simp
theorem setN_bit (p : Nat → Bool) : ∀ (n i : Nat), setN p n / 2 ^ i % 2 = if i < n ∧ p i = true then 1 else 0
  | 0, i => by simp [setN]
  | n + 1, i => by
    have ih := setN_bit p n i
    have hlt := setN_lt p n
    unfold setN
    rcases Nat.lt_trichotomy i n with h | h | h
    · have e : (setN p n + if p n = true then 2 ^ n else 0) / 2 ^ i % 2 = setN p n / 2 ^ i % 2 := by
        split
        · have : 2 ^ n = 2 ^ i * (2 * 2 ^ (n - i - 1)) := by
            rw [← Nat.pow_succ', ← Nat.pow_add]
            congr 1
            omega
          rw [this, Nat.add_mul_div_left _ _ (Nat.two_pow_pos i), Nat.add_mul_mod_self_left]
        · simp
      rw [e, ih]
      congr 1
      apply propext
      constructor
      · rintro ⟨_, h2⟩; exact ⟨by omega, h2⟩
      · rintro ⟨_, h2⟩; exact ⟨h, h2⟩
    · subst h
      split
      · rename_i hp
        rw [Nat.add_div_right _ (Nat.two_pow_pos i), Nat.div_eq_of_lt hlt]
        simp [hp]
      · rename_i hp
        rw [Nat.add_zero, Nat.div_eq_of_lt hlt]
        simp [hp]
    · have : setN p n + (if p n = true then 2 ^ n else 0) < 2 ^ i := by
        have h1 : 2 ^ (n + 1) ≤ 2 ^ i := Nat.pow_le_pow_right (by omega) (by omega)
        rw [Nat.pow_succ] at h1
        split <;> omega
      rw [Nat.div_eq_of_lt this]
      simp
      intro h1
      omega
end Go.Proofs.Ytafmgmaelnpehaa
end

section
set_option linter.unusedVariables false
set_option linter.unusedSimpArgs false
namespace Go.Proofs.Ytafmgmaelnpehaa
open Go.RowKit Go.Fu
theorem bendI_nn (a b c : Int) : 0 ≤ bendI a b c := by unfold bendI; split <;> omega
theorem bnd_nn (x : Nat → Int) (n : Nat) : 0 ≤ bnd x n := bendI_nn _ _ _
def allBends (A B C : List Int) : List Int := A.flatMap fun a => B.flatMap fun b => C.map fun c => bendI a b c
theorem stA_eq (A B C : List Int) (st : Bool × Int × Int) : stA A B C st = (allBends A B C).foldl step1 st := by
  unfold stA allBends stB stC
  rw [List.foldl_flatMap]
  congr 1
  funext s a
  rw [List.foldl_flatMap]
  congr 1
  funext s b
  rw [List.foldl_map]
theorem step_fold : ∀ (L : List Int) (lo hi : Int), lo ≤ hi → ∃ lo' hi', L.foldl step1 (true, lo, hi) = (true, lo', hi') ∧ lo' ≤ lo ∧ hi ≤ hi' ∧ (lo' = lo ∨ lo' ∈ L) ∧ (hi' = hi ∨ hi' ∈ L) ∧ ∀ v ∈ L, lo' ≤ v ∧ v ≤ hi'
  | [], lo, hi, h => ⟨lo, hi, rfl, Int.le_refl _, Int.le_refl _, .inl rfl, .inl rfl, fun v hv => by cases hv⟩
  | v :: L, lo, hi, h => by
    obtain ⟨lo', hi', h1, h2, h3, h4, h5, h6⟩ := step_fold L (if v < lo then v else lo) (if hi < v then v else hi) (by split <;> split <;> omega)
    refine ⟨lo', hi', ?_, ?_, ?_, ?_, ?_, ?_⟩
    · rw [List.foldl_cons]; exact h1
    · split at h2 <;> omega
    · split at h3 <;> omega
    · rcases h4 with h4 | h4
      · split at h4
        · exact .inr (by rw [h4]; exact List.mem_cons_self)
        · exact .inl h4
      · exact .inr (List.mem_cons_of_mem _ h4)
    · rcases h5 with h5 | h5
      · split at h5
        · exact .inr (by rw [h5]; exact List.mem_cons_self)
        · exact .inl h5
      · exact .inr (List.mem_cons_of_mem _ h5)
    · intro u hu
      rcases List.mem_cons.1 hu with rfl | hu
      · constructor
        · split at h2 <;> omega
        · split at h3 <;> omega
      · exact h6 u hu
theorem fold_spec (L : List Int) (hL : L ≠ []) : ((L.foldl step1 (false, 0, 0)).2.1 ∈ L ∧ (L.foldl step1 (false, 0, 0)).2.2 ∈ L) ∧ ∀ v ∈ L, (L.foldl step1 (false, 0, 0)).2.1 ≤ v ∧ v ≤ (L.foldl step1 (false, 0, 0)).2.2 := by
  cases L with
  | nil => exact absurd rfl hL
  | cons v L =>
    have e : (v :: L).foldl step1 (false, 0, 0) = L.foldl step1 (true, v, v) := rfl
    obtain ⟨lo', hi', h1, h2, h3, h4, h5, h6⟩ := step_fold L v v (Int.le_refl _)
    rw [e, h1]
    refine ⟨⟨?_, ?_⟩, fun u hu => ?_⟩
    · rcases h4 with h4 | h4
      · show lo' ∈ _; rw [h4]; exact List.mem_cons_self
      · exact List.mem_cons_of_mem _ h4
    · rcases h5 with h5 | h5
      · show hi' ∈ _; rw [h5]; exact List.mem_cons_self
      · exact List.mem_cons_of_mem _ h5
    · rcases List.mem_cons.1 hu with rfl | hu
      · exact ⟨h2, h3⟩
      · exact h6 u hu
theorem mem_bends (A B C : List Int) (v : Int) : v ∈ allBends A B C ↔ ∃ a ∈ A, ∃ b ∈ B, ∃ c ∈ C, bendI a b c = v := by simp [allBends]
/-- Three offsets beside one another are those of some truth. -/
theorem truth_three {l : List (Int × Int)} (hok : ∀ x ∈ l, okSpan x) {n : Nat} (h1 : 1 ≤ n) (h2 : n + 1 < l.length) {a b c : Int} (ha : InS l (n - 1) a) (hb : InS l n b) (hc : InS l (n + 1) c) : ∃ x, Truth l x ∧ bnd x n = bendI a b c := by
  refine ⟨fun i => if i = n - 1 then a else if i = n then b else if i = n + 1 then c else (l.getD i (0, 0)).1, fun i hi => ?_, ?_⟩
  · simp only
    by_cases e1 : i = n - 1
    · rw [if_pos e1, e1]; exact ha
    · rw [if_neg e1]
      by_cases e2 : i = n
      · rw [if_pos e2, e2]; exact hb
      · rw [if_neg e2]
        by_cases e3 : i = n + 1
        · rw [if_pos e3, e3]; exact hc
        · rw [if_neg e3]; exact lo_in hok i hi
  · unfold bnd
    simp only
    simp only [if_true, show n ≠ n - 1 by omega, show n + 1 ≠ n - 1 by omega, show n + 1 ≠ n by omega, if_false]
structure AtSpec (l : List (Int × Int)) (n : Nat) (s : Int × Int) : Prop where
  all : ∀ x, Truth l x → s.1 ≤ bnd x n ∧ bnd x n ≤ s.2
  lo : ∃ x, Truth l x ∧ bnd x n = s.1
  hi : ∃ x, Truth l x ∧ bnd x n = s.2
theorem at_spec (l : List (Int × Int)) (n : Nat) (h1 : 1 ≤ n) (h2 : n + 1 < l.length) (hok : ∀ x ∈ l, okSpan x) : AtSpec l n (atF l n) := by
  have hm : ∀ v, v ∈ allBends (spanL (l.getD (n - 1) (0, 0))) (spanL (l.getD n (0, 0))) (spanL (l.getD (n + 1) (0, 0))) ↔ ∃ a, InS l (n - 1) a ∧ ∃ b, InS l n b ∧ ∃ c, InS l (n + 1) c ∧ bendI a b c = v := by
    intro v
    rw [mem_bends]
    simp only [mem_in]
  have he : atF l n = ((allBends (spanL (l.getD (n - 1) (0, 0))) (spanL (l.getD n (0, 0))) (spanL (l.getD (n + 1) (0, 0)))).foldl step1 (false, 0, 0)).2 := by
    unfold atF
    rw [stA_eq]
  have hne : allBends (spanL (l.getD (n - 1) (0, 0))) (spanL (l.getD n (0, 0))) (spanL (l.getD (n + 1) (0, 0))) ≠ [] := by
    intro e
    have := (hm (bendI (l.getD (n - 1) (0, 0)).1 (l.getD n (0, 0)).1 (l.getD (n + 1) (0, 0)).1)).2 ⟨_, lo_in hok _ (by omega), _, lo_in hok _ (by omega), _, lo_in hok _ (by omega), rfl⟩
    rw [e] at this
    cases this
  obtain ⟨⟨s1, s2⟩, s3⟩ := fold_spec _ hne
  rw [← he] at s1 s2 s3
  refine ⟨fun x hx => s3 _ ((hm _).2 ⟨_, hx _ (by omega), _, hx _ (by omega), _, hx _ h2, rfl⟩), ?_, ?_⟩
  · obtain ⟨a, ha, b, hb, c, hc, e⟩ := (hm _).1 s1
    obtain ⟨x, hx, hbx⟩ := truth_three hok h1 h2 ha hb hc
    exact ⟨x, hx, hbx.trans e⟩
  · obtain ⟨a, ha, b, hb, c, hc, e⟩ := (hm _).1 s2
    obtain ⟨x, hx, hbx⟩ := truth_three hok h1 h2 ha hb hc
    exact ⟨x, hx, hbx.trans e⟩
/-- The greatest bend at the stations 1 to k. -/
def mostF (x : Nat → Int) : Nat → Int
  | 0 => 0
  | k + 1 => if mostF x k < bnd x (k + 1) then bnd x (k + 1) else mostF x k
theorem mostF_nn (x : Nat → Int) : ∀ k, 0 ≤ mostF x k
  | 0 => Int.le_refl _
  | k + 1 => by have := mostF_nn x k; have := bnd_nn x (k + 1); unfold mostF; split <;> omega
theorem mostF_le (x : Nat → Int) (m : Int) (hm : 0 ≤ m) : ∀ k, mostF x k ≤ m ↔ ∀ n, 1 ≤ n → n ≤ k → bnd x n ≤ m
  | 0 => ⟨fun _ n h1 h2 => by omega, fun _ => hm⟩
  | k + 1 => by
    have ih := mostF_le x m hm k
    unfold mostF
    constructor
    · intro h n h1 h2
      by_cases e : n = k + 1
      · subst e; split at h <;> omega
      · exact ih.1 (by split at h <;> omega) n h1 (by omega)
    · intro h
      have h3 := h (k + 1) (by omega) (Nat.le_refl _)
      have h4 := ih.2 fun n h1 h2 => h n h1 (by omega)
      split <;> omega
theorem mostF_at (x : Nat → Int) : ∀ k, mostF x k = 0 ∨ ∃ n, 1 ≤ n ∧ n ≤ k ∧ bnd x n = mostF x k
  | 0 => .inl rfl
  | k + 1 => by
    unfold mostF
    split
    · exact .inr ⟨k + 1, by omega, Nat.le_refl _, rfl⟩
    · rcases mostF_at x k with h | ⟨n, h1, h2, h3⟩
      · exact .inl h
      · exact .inr ⟨n, h1, by omega, h3⟩
/-- The bend of the furrow that lies so. -/
def mostL (l : List (Int × Int)) (x : Nat → Int) : Int := mostF x (l.length - 2)
theorem mostL_le {l : List (Int × Int)} {x : Nat → Int} {m : Int} (hm : 0 ≤ m) : mostL l x ≤ m ↔ ∀ n, 1 ≤ n → n + 1 < l.length → bnd x n ≤ m := by
  unfold mostL
  rw [mostF_le x m hm]
  exact ⟨fun h n h1 h2 => h n h1 (by omega), fun h n h1 h2 => h n h1 (by omega)⟩
theorem bnd_le_most {l : List (Int × Int)} {x : Nat → Int} {n : Nat} (h1 : 1 ≤ n) (h2 : n + 1 < l.length) : bnd x n ≤ mostL l x := (mostL_le (mostF_nn x _)).1 (Int.le_refl _) n h1 h2
theorem canB_most {l : List (Int × Int)} (hok : ∀ x ∈ l, okSpan x) {m : Int} (hm : 0 ≤ m) : canB l (upP m) = true ↔ ∃ x, Truth l x ∧ mostL l x ≤ m := by
  rw [canB_iff l _ hok]
  constructor
  · rintro ⟨x, hx, h⟩
    exact ⟨x, hx, (mostL_le hm).2 fun n h1 h2 => of_decide_eq_true (h n h1 h2)⟩
  · rintro ⟨x, hx, h⟩
    exact ⟨x, hx, fun n h1 h2 => decide_eq_true ((mostL_le hm).1 h n h1 h2)⟩
theorem least_spec (l : List (Int × Int)) (hok : ∀ x ∈ l, okSpan x) : (∃ x, Truth l x ∧ mostL l x = leastN l) ∧ ∀ x, Truth l x → (leastN l : Int) ≤ mostL l x := by
  have hl := leastN_is l hok
  have hall : ∀ x, Truth l x → (leastN l : Int) ≤ mostL l x := by
    intro x hx
    refine Int.not_lt.1 fun hlt => ?_
    have h0 := mostF_nn x (l.length - 2)
    obtain ⟨k, hk⟩ : ∃ k : Nat, mostL l x = k := ⟨(mostL l x).toNat, by unfold mostL; omega⟩
    have h1 := hl.2 k (by omega)
    have h2 := (canB_most hok (m := (k : Int)) (by omega)).2 ⟨x, hx, by omega⟩
    rw [h1] at h2
    cases h2
  obtain ⟨x, hx, hm⟩ := (canB_most hok (m := ((leastN l : Nat) : Int)) (by omega)).1 hl.1
  exact ⟨⟨x, hx, by have := hall x hx; omega⟩, hall⟩
theorem lo_truth {l : List (Int × Int)} (hok : ∀ x ∈ l, okSpan x) : Truth l fun i => (l.getD i (0, 0)).1 := fun i hi => lo_in hok i hi
theorem hiF_all (l : List (Int × Int)) (hok : ∀ x ∈ l, okSpan x) : ∀ k, k + 2 ≤ l.length ∨ k = 0 → 0 ≤ hiF l k ∧ (∀ n, 1 ≤ n → n ≤ k → (atF l n).2 ≤ hiF l k) ∧ (hiF l k = 0 ∨ ∃ n, 1 ≤ n ∧ n ≤ k ∧ (atF l n).2 = hiF l k)
  | 0, _ => ⟨Int.le_refl _, fun n h1 h2 => by omega, .inl rfl⟩
  | k + 1, h => by
    obtain ⟨i1, i2, i3⟩ := hiF_all l hok k (by omega)
    unfold hiF
    refine ⟨by split <;> omega, fun n h1 h2 => ?_, ?_⟩
    · by_cases e : n = k + 1
      · subst e; split <;> omega
      · have := i2 n h1 (by omega); split <;> omega
    · split
      · exact .inr ⟨k + 1, by omega, Nat.le_refl _, rfl⟩
      · rcases i3 with i3 | ⟨n, h1, h2, h3⟩
        · exact .inl i3
        · exact .inr ⟨n, h1, by omega, h3⟩
theorem hi_spec (l : List (Int × Int)) (hok : ∀ x ∈ l, okSpan x) : (∃ x, Truth l x ∧ mostL l x = hiF l (l.length - 2)) ∧ ∀ x, Truth l x → mostL l x ≤ hiF l (l.length - 2) := by
  obtain ⟨i1, i2, i3⟩ := hiF_all l hok (l.length - 2) (by omega)
  have hall : ∀ x, Truth l x → mostL l x ≤ hiF l (l.length - 2) := fun x hx => (mostL_le i1).2 fun n h1 h2 => Int.le_trans ((at_spec l n h1 h2 hok).all x hx).2 (i2 n h1 (by omega))
  refine ⟨?_, hall⟩
  rcases i3 with i3 | ⟨n, h1, h2, h3⟩
  · refine ⟨_, lo_truth hok, ?_⟩
    have := hall _ (lo_truth hok)
    have := mostF_nn (fun i => (l.getD i (0, 0)).1) (l.length - 2)
    unfold mostL at *
    omega
  · obtain ⟨x, hx, hb⟩ := (at_spec l n h1 (by omega) hok).hi
    refine ⟨x, hx, ?_⟩
    have := hall x hx
    have := bnd_le_most (l := l) (x := x) h1 (by omega)
    omega
/-! ### Where it bends most -/
theorem worstC_iff (l : List (Int × Int)) (n : Nat) (h1 : 1 ≤ n) (h2 : n + 1 < l.length) (hok : ∀ x ∈ l, okSpan x) : worstC l n = true ↔ ∃ x, Truth l x ∧ ∀ i, 1 ≤ i → i + 1 < l.length → bnd x i ≤ bnd x n := by
  have hs := at_spec l n h1 h2 hok
  unfold worstC
  simp only [Bool.and_eq_true, decide_eq_true_eq, List.any_eq_true, h1, true_and]
  constructor
  · rintro ⟨own, ho, hc⟩
    obtain ⟨x, hx, hp⟩ := (canB_iff l _ hok).1 hc
    refine ⟨x, hx, fun i i1 i2 => ?_⟩
    have hn := hp n h1 h2
    have hi := hp i i1 i2
    unfold wp1 at hn hi
    simp only [Bool.or_eq_true, decide_eq_true_eq, Bool.and_eq_true, Bool.not_eq_true', decide_eq_false_iff_not] at hn hi
    rcases hn with hn | hn
    · rcases hi with hi | hi <;> omega
    · exact absurd trivial hn.2
  · rintro ⟨x, hx, hm⟩
    refine ⟨bnd x n, (mem_spanL _ _).2 (hs.all x hx), (canB_iff l _ hok).2 ⟨x, hx, fun i i1 i2 => ?_⟩⟩
    unfold wp1
    simp only [Bool.or_eq_true, decide_eq_true_eq, Bool.and_eq_true, Bool.not_eq_true', decide_eq_false_iff_not]
    have := hm i i1 i2
    by_cases e : bnd x i = bnd x n
    · exact .inl e
    · refine .inr ⟨by omega, fun e2 => e ?_⟩
      have : i = n := by exact_mod_cast e2
      rw [this]
theorem worstS_iff (l : List (Int × Int)) (n : Nat) (h1 : 1 ≤ n) (h2 : n + 1 < l.length) (hok : ∀ x ∈ l, okSpan x) : worstS l n = true ↔ ∀ x, Truth l x → ∀ i, 1 ≤ i → i + 1 < l.length → bnd x i ≤ bnd x n := by
  have hs := at_spec l n h1 h2 hok
  unfold worstS
  simp only [Bool.and_eq_true, decide_eq_true_eq, Bool.not_eq_true', h1, true_and, List.any_eq_false]
  constructor
  · intro h x hx i i1 i2
    refine Int.not_lt.1 fun hlt => ?_
    have hne : i ≠ n := by rintro rfl; omega
    refine h (bnd x n) ((mem_spanL _ _).2 (hs.all x hx)) ?_
    unfold lessO
    rw [List.any_eq_true]
    refine ⟨i, List.mem_range.2 (by omega), ?_⟩
    simp only [Bool.and_eq_true, decide_eq_true_eq, Bool.not_eq_true', decide_eq_false_iff_not]
    refine ⟨⟨i1, hne⟩, (canB_iff l _ hok).2 ⟨x, hx, fun m m1 m2 => ?_⟩⟩
    unfold wp2
    simp only [Bool.or_eq_true, decide_eq_true_eq, Bool.and_eq_true, Bool.not_eq_true', decide_eq_false_iff_not]
    constructor
    · by_cases e : m = n
      · exact .inr (by rw [e])
      · exact .inl (by omega)
    · by_cases e : m = i
      · exact .inr (by rw [e]; exact hlt)
      · exact .inl (by omega)
  · intro h own ho hl
    unfold lessO at hl
    rw [List.any_eq_true] at hl
    obtain ⟨i, hi, hc⟩ := hl
    simp only [Bool.and_eq_true, decide_eq_true_eq, Bool.not_eq_true', decide_eq_false_iff_not] at hc
    have hir := List.mem_range.1 hi
    obtain ⟨x, hx, hp⟩ := (canB_iff l _ hok).1 hc.2
    have a := hp n h1 h2
    have b := hp i hc.1.1 (by omega)
    unfold wp2 at a b
    simp only [Bool.or_eq_true, decide_eq_true_eq, Bool.and_eq_true, Bool.not_eq_true', decide_eq_false_iff_not] at a b
    have := h x hx i hc.1.1 (by omega)
    have ha : bnd x n = own := by rcases a.1 with a | a <;> first | exact a | exact absurd trivial a
    have hb : own < bnd x i := by rcases b.2 with b | b <;> first | exact b | exact absurd trivial b
    omega
end Go.Proofs.Ytafmgmaelnpehaa
end

section
namespace Go.Proofs.Ytafmgmaelnpehaa.PFurrowAsks
open Go.RowKit Go.Proofs.YtafmgmaelnpehaaW.PrintWords Go.Proofs.YtafmgmaelnpehaaW.PrintLast Go.Proofs.YtafmgmaelnpehaaW.PrintMore
attribute [local go_sem] max2_int min2_int max_two min_two max_three min_three max_four min_four   -- for this text's walks alone
set_option linter.unusedVariables false
set_option linter.unusedSimpArgs false

/-! ### furrowworksref04_power: function 63 -/
def furrowworksref04_power.l0 : Nat → Int → Int → Int → Option (Int)
  | 0, _, _, _ => none
  | k + 1, x0, x3, x4 => if x4 < x0 then (furrowworksref04_power.l0 k x0 (wrap64 (2 * x3)) (wrap64 (x4 + 1))) else (some x3)
def furrowworksref04_power.f (k : Nat) (a0 : Int) : Option (Int) := furrowworksref04_power.l0 k a0 1 0
theorem furrowworksref04_power.mono_l : ∀ k, (∀ y0 y1 y2, LeO (furrowworksref04_power.l0 k y0 y1 y2) (furrowworksref04_power.l0 (k + 1) y0 y1 y2))
  | 0 => fun _ _ _ r h => by simp [furrowworksref04_power.l0] at h
  | k + 1 => by
    have ih0 := furrowworksref04_power.mono_l k
    · intro y0 y1 y2
      unfold furrowworksref04_power.l0
      repeat' first
      | (with_reducible exact ih0 _ _ _)
      | (with_reducible exact LeO.refl _)
      | (with_reducible exact LeO.none _)
      | (with_reducible refine LeO.ite ?_ ?_)
      | (with_reducible refine LeO.bind ?_ (fun _ => ?_))
      | exact ih0 _ _ _
      | exact LeO.none _
      | refine LeO.ite ?_ ?_
      | refine LeO.bind ?_ (fun _ => ?_)
theorem furrowworksref04_power.mono : ∀ a0 k, LeO (furrowworksref04_power.f k a0) (furrowworksref04_power.f (k + 1) a0) := by
  intro a0 k
  have ih0 := furrowworksref04_power.mono_l k
  unfold furrowworksref04_power.f
  repeat' first
      | (with_reducible exact ih0 _ _ _)
      | (with_reducible exact LeO.refl _)
      | (with_reducible exact LeO.none _)
      | (with_reducible refine LeO.ite ?_ ?_)
      | (with_reducible refine LeO.bind ?_ (fun _ => ?_))
      | exact ih0 _ _ _
      | exact LeO.none _
      | refine LeO.ite ?_ ?_
      | refine LeO.bind ?_ (fun _ => ?_)
set_option maxHeartbeats 8000000 in
set_option maxRecDepth 100000 in
theorem furrowworksref04_power.calls (k : Nat) (a0 : Int) (r : Int) (w : World) (h : furrowworksref04_power.f k a0 = some r) :
    Calls Try.prog 63 #[.int .i64 a0] w fun e w' => e = .returned (.int .i64 r) ∧ Drawn0 w w' := by
  have H : (furrowworksref04_power.l0 k a0 1 0) = some r := h
  clear h
  have H' := Aside0.mk H
  clear H
  go_enter Try.func63, Try.ntmps63
  go_wp2
  go_loopg [3, 4] k (fun kq v3 v4 w' => ∃ (x3_1 : Int) (x4_1 : Int), v3 = .int .i64 x3_1 ∧ v4 = .int .i64 x4_1 ∧ Aside0 (furrowworksref04_power.l0 kq a0 x3_1 x4_1 = some r) ∧ Aside0 (kq ≤ k) ∧ Drawn0 w w')
  case atStart => exact ⟨(1), (0), (by first | rfl | (simp; done) | (simp [*]; done)), (by first | rfl | (simp; done) | (simp [*]; done)), H', ⟨Nat.le_refl _⟩, by repeat (first | exact Drawn0.refl _ | apply Drawn0.step)⟩
  case round =>
    clear H'
    obtain ⟨x3_1, x4_1, rfl, rfl, HA, HK1, ⟨m1, rfl⟩⟩ := hrel
    cases gk with
    | zero => exact absurd HA.out (by simp [furrowworksref04_power.l0])
    | succ k1 =>
      have H := HA.out
      clear HA
      simp only [furrowworksref04_power.l0] at H
      by_cases c2 : x4_1 < a0
      · rw [if_pos c2] at H
        have c2b0 : decide (x4_1 < a0) = true := decide_eq_true c2
        clear c2
        have H' := Aside0.mk H
        clear H
        go_wp2
        go_roundg k1
        case measure => have := HK1.out; omega
        case rel => exact ⟨(wrap64 (2 * x3_1)), (wrap64 (x4_1 + 1)), (by first | rfl | (simp; done) | (simp [*]; done)), (by first | rfl | (simp; done) | (simp [*]; done)), H', ⟨by have := HK1.out; omega⟩, by repeat (first | exact Drawn0.refl _ | apply Drawn0.step)⟩
      · rw [if_neg c2] at H
        have c2b0 : decide (x4_1 < a0) = false := decide_eq_false c2
        clear c2
        obtain rfl := Option.some.inj H
        go_wp2
        go_ret
        exact ⟨by first | rfl | (simp; done) | (simp [*]; done), by repeat (first | exact Drawn0.refl _ | apply Drawn0.step)⟩

end Go.Proofs.Ytafmgmaelnpehaa.PFurrowAsks
end

section
namespace Go.Proofs.Ytafmgmaelnpehaa.PFurrowAsks
open Go.RowKit Go.Proofs.YtafmgmaelnpehaaW.PrintWords Go.Proofs.YtafmgmaelnpehaaW.PrintLast Go.Proofs.YtafmgmaelnpehaaW.PrintMore
attribute [local go_sem] max2_int min2_int max_two min_two max_three min_three max_four min_four   -- for this text's walks alone
set_option linter.unusedVariables false
set_option linter.unusedSimpArgs false

/-! ### furrowworksref04_Size: function 37 -/
def furrowworksref04_Size.l0 : Nat → Int → Int → Option (Int)
  | 0, _, _ => none
  | k + 1, x0, x3 => if x0 > 0 then (furrowworksref04_Size.l0 k (wrap64 (Int.tdiv x0 2)) (wrap64 (x3 + (Int.tmod x0 2)))) else (some x3)
def furrowworksref04_Size.f (k : Nat) (a0 : Int) : Option (Int) := furrowworksref04_Size.l0 k a0 0
theorem furrowworksref04_Size.mono_l : ∀ k, (∀ y0 y1, LeO (furrowworksref04_Size.l0 k y0 y1) (furrowworksref04_Size.l0 (k + 1) y0 y1))
  | 0 => fun _ _ r h => by simp [furrowworksref04_Size.l0] at h
  | k + 1 => by
    have ih0 := furrowworksref04_Size.mono_l k
    · intro y0 y1
      unfold furrowworksref04_Size.l0
      repeat' first
      | (with_reducible exact ih0 _ _)
      | (with_reducible exact LeO.refl _)
      | (with_reducible exact LeO.none _)
      | (with_reducible refine LeO.ite ?_ ?_)
      | (with_reducible refine LeO.bind ?_ (fun _ => ?_))
      | exact ih0 _ _
      | exact LeO.none _
      | refine LeO.ite ?_ ?_
      | refine LeO.bind ?_ (fun _ => ?_)
theorem furrowworksref04_Size.mono : ∀ a0 k, LeO (furrowworksref04_Size.f k a0) (furrowworksref04_Size.f (k + 1) a0) := by
  intro a0 k
  have ih0 := furrowworksref04_Size.mono_l k
  unfold furrowworksref04_Size.f
  repeat' first
      | (with_reducible exact ih0 _ _)
      | (with_reducible exact LeO.refl _)
      | (with_reducible exact LeO.none _)
      | (with_reducible refine LeO.ite ?_ ?_)
      | (with_reducible refine LeO.bind ?_ (fun _ => ?_))
      | exact ih0 _ _
      | exact LeO.none _
      | refine LeO.ite ?_ ?_
      | refine LeO.bind ?_ (fun _ => ?_)
set_option maxHeartbeats 8000000 in
set_option maxRecDepth 100000 in
theorem furrowworksref04_Size.calls (k : Nat) (a0 : Int) (r : Int) (w : World) (h : furrowworksref04_Size.f k a0 = some r) :
    Calls Try.prog 37 #[.int .i64 a0] w fun e w' => e = .returned (.int .i64 r) ∧ Drawn0 w w' := by
  have H : (furrowworksref04_Size.l0 k a0 0) = some r := h
  clear h
  have H' := Aside0.mk H
  clear H
  go_enter Try.func37, Try.ntmps37
  go_wp2
  go_loopg [0, 3] k (fun kq v0 v3 w' => ∃ (x0_1 : Int) (x3_1 : Int), v0 = .int .i64 x0_1 ∧ v3 = .int .i64 x3_1 ∧ Aside0 (furrowworksref04_Size.l0 kq x0_1 x3_1 = some r) ∧ Aside0 (kq ≤ k) ∧ Drawn0 w w')
  case atStart => exact ⟨(a0), (0), (by first | rfl | (simp; done) | (simp [*]; done)), (by first | rfl | (simp; done) | (simp [*]; done)), H', ⟨Nat.le_refl _⟩, by repeat (first | exact Drawn0.refl _ | apply Drawn0.step)⟩
  case round =>
    clear H'
    obtain ⟨x0_1, x3_1, rfl, rfl, HA, HK1, ⟨m1, rfl⟩⟩ := hrel
    cases gk with
    | zero => exact absurd HA.out (by simp [furrowworksref04_Size.l0])
    | succ k1 =>
      have H := HA.out
      clear HA
      simp only [furrowworksref04_Size.l0] at H
      by_cases c2 : x0_1 > 0
      · rw [if_pos c2] at H
        have c2b0 : decide (0 < x0_1) = true := decide_eq_true c2
        clear c2
        have H' := Aside0.mk H
        clear H
        go_wp2
        go_roundg k1
        case measure => have := HK1.out; omega
        case rel => exact ⟨(wrap64 (Int.tdiv x0_1 2)), (wrap64 (x3_1 + (Int.tmod x0_1 2))), (by first | rfl | (simp; done) | (simp [*]; done)), (by first | rfl | (simp; done) | (simp [*]; done)), H', ⟨by have := HK1.out; omega⟩, by repeat (first | exact Drawn0.refl _ | apply Drawn0.step)⟩
      · rw [if_neg c2] at H
        have c2b0 : decide (0 < x0_1) = false := decide_eq_false c2
        clear c2
        obtain rfl := Option.some.inj H
        go_wp2
        go_ret
        exact ⟨by first | rfl | (simp; done) | (simp [*]; done), by repeat (first | exact Drawn0.refl _ | apply Drawn0.step)⟩

end Go.Proofs.Ytafmgmaelnpehaa.PFurrowAsks
end

section
namespace Go.Proofs.Ytafmgmaelnpehaa.PFurrowAsks
open Go.RowKit Go.Proofs.YtafmgmaelnpehaaW.PrintWords Go.Proofs.YtafmgmaelnpehaaW.PrintLast Go.Proofs.YtafmgmaelnpehaaW.PrintMore
attribute [local go_sem] max2_int min2_int max_two min_two max_three min_three max_four min_four   -- for this text's walks alone
set_option linter.unusedVariables false
set_option linter.unusedSimpArgs false

/-! ### furrowworksref04_bend: function 55 -/
def furrowworksref04_bend.f (l0 : List Int) (a1 : Int) : Option (Int) := if 0 ≤ a1 then (if a1 < (l0.length : Int) then (if 0 ≤ (wrap64 (a1 - 1)) then (if (wrap64 (a1 - 1)) < (l0.length : Int) then (if 0 ≤ (wrap64 (a1 + 1)) then (if (wrap64 (a1 + 1)) < (l0.length : Int) then (some (mx (wrap64 ((wrap64 ((wrap64 (2 * (rd l0 a1))) - (rd l0 (wrap64 (a1 - 1))))) - (rd l0 (wrap64 (a1 + 1))))) (wrap64 (-(wrap64 ((wrap64 ((wrap64 (2 * (rd l0 a1))) - (rd l0 (wrap64 (a1 - 1))))) - (rd l0 (wrap64 (a1 + 1))))))))) else (none)) else (none)) else (none)) else (none)) else (none)) else (none)
set_option maxHeartbeats 8000000 in
set_option maxRecDepth 100000 in
theorem furrowworksref04_bend.calls (A0 : Option Addr) (c0 : Nat) (l0 : List Int) (a1 : Int) (r : Int) (w : World) (hr0 : Kd.C (Kd.int .i64) w A0 l0.length l0) (hc0 : l0.length ≤ c0) (h : furrowworksref04_bend.f l0 a1 = some r) :
    Calls Try.prog 55 #[.slice A0 l0.length c0, .int .i64 a1] w fun e w' => e = .returned (.int .i64 r) ∧ Below w.heap.size w w' := by
  have HR0 := Aside0.mk hr0
  have HC0 := Aside0.mk hc0
  clear hr0 hc0
  have HB := Aside0.mk (Below.refl w.heap.size w)
  have H : (if 0 ≤ a1 then (if a1 < (l0.length : Int) then (if 0 ≤ (wrap64 (a1 - 1)) then (if (wrap64 (a1 - 1)) < (l0.length : Int) then (if 0 ≤ (wrap64 (a1 + 1)) then (if (wrap64 (a1 + 1)) < (l0.length : Int) then (some (mx (wrap64 ((wrap64 ((wrap64 (2 * (rd l0 a1))) - (rd l0 (wrap64 (a1 - 1))))) - (rd l0 (wrap64 (a1 + 1))))) (wrap64 (-(wrap64 ((wrap64 ((wrap64 (2 * (rd l0 a1))) - (rd l0 (wrap64 (a1 - 1))))) - (rd l0 (wrap64 (a1 + 1))))))))) else (none)) else (none)) else (none)) else (none)) else (none)) else (none)) = some r := h
  clear h
  by_cases c3 : 0 ≤ a1
  · rw [if_pos c3] at H
    have c3b0 : decide (0 ≤ a1) = true := decide_eq_true c3
    clear c3
    by_cases c4 : a1 < (l0.length : Int)
    · rw [if_pos c4] at H
      have c4b0 : decide (a1 < (l0.length : Int)) = true := decide_eq_true c4
      clear c4
      obtain ⟨ji5, hji5⟩ : ∃ j_ : Int, (wrap64 (a1 - 1)) = j_ := ⟨_, rfl⟩
      replace H : (if 0 ≤ (ji5) then (if (ji5) < (l0.length : Int) then (if 0 ≤ (wrap64 (a1 + 1)) then (if (wrap64 (a1 + 1)) < (l0.length : Int) then (some (mx (wrap64 ((wrap64 ((wrap64 (2 * (rd l0 a1))) - (rd l0 (ji5)))) - (rd l0 (wrap64 (a1 + 1))))) (wrap64 (-(wrap64 ((wrap64 ((wrap64 (2 * (rd l0 a1))) - (rd l0 (ji5)))) - (rd l0 (wrap64 (a1 + 1))))))))) else (none)) else (none)) else (none)) else (none)) = some r := by first | (rw [hji5] at H; exact H) | (simp only [hji5] at H ⊢; exact H)
      have hji5w : (IntKind.i64.wrap (a1 - 1)) = ji5 := (i64_w _).trans hji5
      by_cases c6 : 0 ≤ (ji5)
      · rw [if_pos c6] at H
        have c6b0 : decide (0 ≤ (ji5)) = true := decide_eq_true c6
        clear c6
        by_cases c7 : (ji5) < (l0.length : Int)
        · rw [if_pos c7] at H
          have c7b0 : decide ((ji5) < (l0.length : Int)) = true := decide_eq_true c7
          clear c7
          obtain ⟨ji8, hji8⟩ : ∃ j_ : Int, (wrap64 (a1 + 1)) = j_ := ⟨_, rfl⟩
          replace H : (if 0 ≤ (ji8) then (if (ji8) < (l0.length : Int) then (some (mx (wrap64 ((wrap64 ((wrap64 (2 * (rd l0 a1))) - (rd l0 (ji5)))) - (rd l0 (ji8)))) (wrap64 (-(wrap64 ((wrap64 ((wrap64 (2 * (rd l0 a1))) - (rd l0 (ji5)))) - (rd l0 (ji8)))))))) else (none)) else (none)) = some r := by first | (rw [hji8] at H; exact H) | (simp only [hji8] at H ⊢; exact H)
          have hji8w : (IntKind.i64.wrap (a1 + 1)) = ji8 := (i64_w _).trans hji8
          by_cases c9 : 0 ≤ (ji8)
          · rw [if_pos c9] at H
            have c9b0 : decide (0 ≤ (ji8)) = true := decide_eq_true c9
            clear c9
            by_cases c10 : (ji8) < (l0.length : Int)
            · rw [if_pos c10] at H
              have c10b0 : decide ((ji8) < (l0.length : Int)) = true := decide_eq_true c10
              clear c10
              obtain ⟨ji11, hji11⟩ : ∃ j_ : Int, (mx (wrap64 ((wrap64 ((wrap64 (2 * (rd l0 a1))) - (rd l0 (ji5)))) - (rd l0 (ji8)))) (wrap64 (-(wrap64 ((wrap64 ((wrap64 (2 * (rd l0 a1))) - (rd l0 (ji5)))) - (rd l0 (ji8))))))) = j_ := ⟨_, rfl⟩
              replace H : (some ji11) = some r := by first | (rw [hji11] at H; exact H) | (simp only [hji11] at H ⊢; exact H)
              have hji11_ : (if (wrap64 ((wrap64 ((wrap64 (2 * (rd l0 a1))) - (rd l0 (ji5)))) - (rd l0 (ji8)))) < (wrap64 (-(wrap64 ((wrap64 ((wrap64 (2 * (rd l0 a1))) - (rd l0 (ji5)))) - (rd l0 (ji8)))))) then (wrap64 (-(wrap64 ((wrap64 ((wrap64 (2 * (rd l0 a1))) - (rd l0 (ji5)))) - (rd l0 (ji8)))))) else (wrap64 ((wrap64 ((wrap64 (2 * (rd l0 a1))) - (rd l0 (ji5)))) - (rd l0 (ji8))))) = ji11 := hji11
              obtain rfl := Option.some.inj H
              have p164 : 0 ≤ (a1 : Int) := of_decide_eq_true (by first | (with_reducible assumption) | assumption)
              have q164 : a1 < (l0.length : Int) := of_decide_eq_true (by first | (with_reducible assumption) | assumption)
              obtain ⟨ad164, e164, hx164_0⟩ := Kd.at_int HR0.out a1 p164 q164
              cases e164
              replace p164 := eq_true p164
              replace q164 := eq_true q164
              have p165 : 0 ≤ ((ji5) : Int) := of_decide_eq_true (by first | (with_reducible assumption) | assumption)
              have q165 : (ji5) < (l0.length : Int) := of_decide_eq_true (by first | (with_reducible assumption) | assumption)
              obtain ⟨ad165, e165, hx165_0⟩ := Kd.at_int HR0.out (ji5) p165 q165
              obtain rfl : ad164 = ad165 := (by injection e165)
              replace p165 := eq_true p165
              replace q165 := eq_true q165
              have p166 : 0 ≤ ((ji8) : Int) := of_decide_eq_true (by first | (with_reducible assumption) | assumption)
              have q166 : (ji8) < (l0.length : Int) := of_decide_eq_true (by first | (with_reducible assumption) | assumption)
              obtain ⟨ad166, e166, hx166_0⟩ := Kd.at_int HR0.out (ji8) p166 q166
              obtain rfl : ad164 = ad166 := (by injection e166)
              replace p166 := eq_true p166
              replace q166 := eq_true q166
              go_enter Try.func55, Try.ntmps55
              go_wp2
              repeat (go_quiet (fail); try go_wp2)
              go_ret
              exact ⟨by first | rfl | (simp [errW_none, errW_some] <;> rfl) | (simp only [← hji5, ← hji8, ← hji11]; first | rfl | (simp [errW_none, errW_some] <;> rfl)) | (simp [*, errW_none, errW_some] <;> rfl), by repeat (first | (with_reducible first | exact HB.out | apply below_alloc | apply pw_below_drewN | apply below_drew1) | exact HB.out)⟩
            · rw [if_neg c10] at H
              exact absurd H (by simp)
          · rw [if_neg c9] at H
            exact absurd H (by simp)
        · rw [if_neg c7] at H
          exact absurd H (by simp)
      · rw [if_neg c6] at H
        exact absurd H (by simp)
    · rw [if_neg c4] at H
      exact absurd H (by simp)
  · rw [if_neg c3] at H
    exact absurd H (by simp)

end Go.Proofs.Ytafmgmaelnpehaa.PFurrowAsks
end

section
set_option linter.unusedVariables false
set_option linter.unusedSimpArgs false
namespace Go.Proofs.Ytafmgmaelnpehaa
open Go.RowKit Go.Fu PFurrowAsks Go.Proofs.YtafmgmaelnpehaaW.PrintWords
theorem wrap_id {a : Int} (h1 : -1000000000 ≤ a) (h2 : a ≤ 1000000000) : wrap64 a = a := by unfold wrap64; omega
theorem power_l (n : Nat) (hn : n ≤ 20) : ∀ (d i : Nat), i + d = n → Ev (fun k => furrowworksref04_power.l0 k n ((2 : Int) ^ i) i) ((2 : Int) ^ n)
  | 0, i, h => by
    refine ⟨1, fun k hk => ?_⟩
    obtain ⟨k, rfl⟩ : ∃ m, k = m + 1 := ⟨k - 1, by omega⟩
    simp only [furrowworksref04_power.l0]
    rw [if_neg (by omega), show i = n by omega]
  | d + 1, i, h => by
    refine Ev.step (f := fun k => furrowworksref04_power.l0 k n ((2 : Int) ^ (i + 1)) ((i + 1 : Nat) : Int)) (fun k => ?_) (power_l n hn d (i + 1) (by omega))
    have hp : (2 : Int) ^ i ≤ 1048576 := by
      have : (2 : Nat) ^ i ≤ 2 ^ 20 := Nat.pow_le_pow_right (by omega) (by omega)
      have h2 : ((2 ^ i : Nat) : Int) ≤ ((2 ^ 20 : Nat) : Int) := by exact_mod_cast this
      simpa using h2
    have h0 : 0 ≤ (2 : Int) ^ i := Int.pow_nonneg (by omega)
    simp only [furrowworksref04_power.l0]
    rw [if_pos (by omega), wrap_id (a := 2 * 2 ^ i) (by omega) (by omega), wrap_id (a := (i : Int) + 1) (by omega) (by omega), Int.pow_succ, Int.mul_comm]
    norm_cast
theorem power_ev (n : Nat) (hn : n ≤ 20) : Ev (fun k => furrowworksref04_power.f k n) ((2 : Int) ^ n) := power_l n hn n 0 (by omega)
theorem size_l : ∀ (j s c : Nat), s < 2 ^ j → j ≤ 8 → c + j ≤ 100 → Ev (fun k => furrowworksref04_Size.l0 k s c) (((c + ones j s : Nat) : Int))
  | 0, s, c, h, _, _ => by
    obtain rfl : s = 0 := by simpa using h
    refine ⟨1, fun k hk => ?_⟩
    obtain ⟨k, rfl⟩ : ∃ m, k = m + 1 := ⟨k - 1, by omega⟩
    simp only [furrowworksref04_Size.l0]
    rw [if_neg (by omega)]
    simp [ones]
  | j + 1, s, c, h, hj, hc => by
    have hs : s < 256 := Nat.lt_of_lt_of_le h (Nat.pow_le_pow_right (by omega) hj : 2 ^ (j + 1) ≤ 2 ^ 8)
    by_cases h0 : s = 0
    · subst h0
      have : ∀ j, ones j 0 = 0 := fun j => by induction j with
        | zero => rfl
        | succ j ih => simp [ones, ih]
      refine ⟨1, fun k hk => ?_⟩
      obtain ⟨k, rfl⟩ : ∃ m, k = m + 1 := ⟨k - 1, by omega⟩
      simp only [furrowworksref04_Size.l0]
      rw [if_neg (by omega), this]
      rfl
    · have ih := size_l j (s / 2) (c + s % 2) (by rw [Nat.pow_succ] at h; omega) (by omega) (by omega)
      refine Ev.step (f := fun k => furrowworksref04_Size.l0 k ((s / 2 : Nat) : Int) ((c + s % 2 : Nat) : Int)) (fun k => ?_) (by simpa [ones, Nat.add_assoc] using ih)
      simp only [furrowworksref04_Size.l0]
      have e1 : Int.tdiv (s : Int) 2 = ((s / 2 : Nat) : Int) := by rw [Int.tdiv_eq_ediv_of_nonneg (by omega)]; omega
      have e2 : Int.tmod (s : Int) 2 = ((s % 2 : Nat) : Int) := by rw [Int.tmod_eq_emod_of_nonneg (by omega)]; omega
      rw [if_pos (by omega), e1, e2, wrap_id (by omega) (by omega), wrap_id (by omega) (by omega)]
      norm_cast
theorem ones_le8 (j s : Nat) (h : s < 2 ^ j) (hj : j ≤ 8) : ones j s = ones 8 s := by
  have : ∀ (k j s : Nat), s < 2 ^ j → ones (j + k) s = ones j s := by
    intro k j
    induction j with
    | zero =>
      intro s h
      obtain rfl : s = 0 := by simpa using h
      have : ∀ j, ones j 0 = 0 := fun j => by induction j with
        | zero => rfl
        | succ j ih => simp [ones, ih]
      rw [this, this]
    | succ j ih =>
      intro s h
      rw [show j + 1 + k = (j + k) + 1 by omega]
      simp only [ones]
      rw [ih (s / 2) (by rw [Nat.pow_succ] at h; omega)]
  have := this (8 - j) j s h
  rw [show j + (8 - j) = 8 by omega] at this
  exact this.symm
theorem size_ev (s : Nat) (hs : s < 256) : Ev (fun k => furrowworksref04_Size.f k s) ((ones 8 s : Nat) : Int) := by
  have := size_l 8 s 0 hs (by omega) (by omega)
  rw [Nat.zero_add] at this
  exact this
/-- A bend of three offsets. -/
theorem bend_is (l : List Int) (n : Nat) (hl : l.length ≤ 100) (h1 : 1 ≤ n) (h2 : n + 1 < l.length) (hb : ∀ x ∈ l, -1000 ≤ x ∧ x ≤ 1000) : furrowworksref04_bend.f l n = some (bendI (l.getD (n - 1) 0) (l.getD n 0) (l.getD (n + 1) 0)) := by
  have g : ∀ i, i < l.length → -1000 ≤ l.getD i 0 ∧ l.getD i 0 ≤ 1000 := fun i hi => by
    rw [List.getD_eq_getElem?_getD, List.getElem?_eq_getElem hi]
    exact hb _ (List.getElem_mem hi)
  have a1 := g (n - 1) (by omega)
  have a2 := g n (by omega)
  have a3 := g (n + 1) (by omega)
  have n1 : wrap64 ((n : Int) - 1) = ((n - 1 : Nat) : Int) := by unfold wrap64; omega
  have n2 : wrap64 ((n : Int) + 1) = ((n + 1 : Nat) : Int) := by unfold wrap64; omega
  have r : ∀ i : Nat, rd l (i : Int) = l.getD i 0 := fun i => by unfold rd; rw [Int.toNat_natCast]
  unfold furrowworksref04_bend.f
  rw [n1, n2, r, r, r]
  generalize l.getD (n - 1) 0 = a at *
  generalize l.getD n 0 = b at *
  generalize l.getD (n + 1) 0 = c at *
  rw [if_pos (by omega), if_pos (by omega), if_pos (by omega), if_pos (by omega), if_pos (by omega), if_pos (by omega)]
  congr 1
  unfold mx bendI wrap64
  split <;> split <;> omega
end Go.Proofs.Ytafmgmaelnpehaa
end

section
namespace Go.Proofs.Ytafmgmaelnpehaa.PFurrowAsks
open Go.RowKit Go.Proofs.YtafmgmaelnpehaaW.PrintWords Go.Proofs.YtafmgmaelnpehaaW.PrintLast Go.Proofs.YtafmgmaelnpehaaW.PrintMore
attribute [local go_sem] max2_int min2_int max_two min_two max_three min_three max_four min_four   -- for this text's walks alone
set_option linter.unusedVariables false
set_option linter.unusedSimpArgs false

/-! ### furrowworksref04_Most: function 33 -/
def furrowworksref04_Most.l0 : Nat → List Int → Int → Int → Option (Int)
  | 0, _, _, _ => none
  | k + 1, x0, x3, x4 => if (wrap64 (x4 + 1)) < (x0.length : Int) then ((furrowworksref04_bend.f x0 x4).bind fun t167 => (furrowworksref04_Most.l0 k x0 (mx x3 t167) (wrap64 (x4 + 1)))) else (some x3)
def furrowworksref04_Most.f (k : Nat) (l0 : List Int) : Option (Int) := furrowworksref04_Most.l0 k l0 0 1
theorem furrowworksref04_Most.mono_l : ∀ k, (∀ y0 y1 y2, LeO (furrowworksref04_Most.l0 k y0 y1 y2) (furrowworksref04_Most.l0 (k + 1) y0 y1 y2))
  | 0 => fun _ _ _ r h => by simp [furrowworksref04_Most.l0] at h
  | k + 1 => by
    have ih0 := furrowworksref04_Most.mono_l k
    · intro y0 y1 y2
      unfold furrowworksref04_Most.l0
      repeat' first
      | (with_reducible exact ih0 _ _ _)
      | (with_reducible exact LeO.refl _)
      | (with_reducible exact LeO.none _)
      | (with_reducible refine LeO.ite ?_ ?_)
      | (with_reducible refine LeO.bind ?_ (fun _ => ?_))
      | exact ih0 _ _ _
      | exact LeO.none _
      | refine LeO.ite ?_ ?_
      | refine LeO.bind ?_ (fun _ => ?_)
theorem furrowworksref04_Most.mono : ∀ a0 k, LeO (furrowworksref04_Most.f k a0) (furrowworksref04_Most.f (k + 1) a0) := by
  intro a0 k
  have ih0 := furrowworksref04_Most.mono_l k
  unfold furrowworksref04_Most.f
  repeat' first
      | (with_reducible exact ih0 _ _ _)
      | (with_reducible exact LeO.refl _)
      | (with_reducible exact LeO.none _)
      | (with_reducible refine LeO.ite ?_ ?_)
      | (with_reducible refine LeO.bind ?_ (fun _ => ?_))
      | exact ih0 _ _ _
      | exact LeO.none _
      | refine LeO.ite ?_ ?_
      | refine LeO.bind ?_ (fun _ => ?_)
set_option maxHeartbeats 8000000 in
set_option maxRecDepth 100000 in
theorem furrowworksref04_Most.calls (k : Nat) (A0 : Option Addr) (c0 : Nat) (l0 : List Int) (r : Int) (w : World) (hr0 : Kd.C (Kd.int .i64) w A0 l0.length l0) (hc0 : l0.length ≤ c0) (h : furrowworksref04_Most.f k l0 = some r) :
    Calls Try.prog 33 #[.slice A0 l0.length c0] w fun e w' => e = .returned (.int .i64 r) ∧ Below w.heap.size w w' := by
  have HR0 := Aside0.mk hr0
  have HC0 := Aside0.mk hc0
  clear hr0 hc0
  have HB := Aside0.mk (Below.refl w.heap.size w)
  have H : (furrowworksref04_Most.l0 k l0 0 1) = some r := h
  clear h
  have H' := Aside0.mk H
  clear H
  go_enter Try.func33, Try.ntmps33
  go_wp2
  go_loopg [3, 4] k (fun kq v3 v4 w' => ∃ (x3_1 : Int) (x4_1 : Int), v3 = .int .i64 x3_1 ∧ v4 = .int .i64 x4_1 ∧ Aside0 (furrowworksref04_Most.l0 kq l0 x3_1 x4_1 = some r) ∧ Aside0 (kq ≤ k) ∧ Aside0 (Below w.heap.size w w'))
  case atStart => exact ⟨(0), (1), (by first | rfl | (simp; done) | (simp [*]; done)), (by first | rfl | (simp; done) | (simp [*]; done)), H', ⟨Nat.le_refl _⟩, ⟨by repeat (first | (with_reducible first | exact HB.out | apply below_alloc | apply pw_below_drewN | apply below_drew1) | exact HB.out)⟩⟩
  case round =>
    clear H'
    obtain ⟨x3_1, x4_1, rfl, rfl, HA, HK1, HB⟩ := hrel
    cases gk with
    | zero => exact absurd HA.out (by simp [furrowworksref04_Most.l0])
    | succ k1 =>
      have H := HA.out
      clear HA
      simp only [furrowworksref04_Most.l0] at H
      by_cases c2 : (wrap64 (x4_1 + 1)) < (l0.length : Int)
      · rw [if_pos c2] at H
        have c2b0 : decide ((wrap64 (x4_1 + 1)) < (l0.length : Int)) = true := decide_eq_true c2
        clear c2
        replace H := Option.bind_eq_some_iff.mp H
        obtain ⟨t167, A30, H⟩ := H
        replace H : (furrowworksref04_Most.l0 k1 l0 (mx x3_1 t167) (wrap64 (x4_1 + 1))) = some r := H
        have A3 := Aside0.mk A30
        clear A30
        obtain ⟨ji4, hji4⟩ : ∃ j_ : Int, (mx x3_1 t167) = j_ := ⟨_, rfl⟩
        replace H : (furrowworksref04_Most.l0 k1 l0 ji4 (wrap64 (x4_1 + 1))) = some r := by first | (rw [hji4] at H; exact H) | (simp only [hji4] at H ⊢; exact H)
        (try rw [hji4] at A3)
        have hji4_ : (if x3_1 < t167 then t167 else x3_1) = ji4 := hji4
        have H' := Aside0.mk H
        clear H
        go_wp2_with (first | ((with_reducible refine gate_callee (f := 55) rfl ?_); refine goesL_ (some 15) rfl rfl Try.func55 (by kernel_rfl) rfl #[.slice A0 l0.length c0, .int .i64 x4_1] rfl (by (try simp only [List.map_toArray, List.map_cons, List.map_nil]); first | done | rfl | (simp only [List.length_drop, List.length_take]; rfl)) ?_; (with_reducible refine (furrowworksref04_bend.calls _ _ l0 x4_1 t167 _ ?side1 ?side2 A3.out).mono ?_); (case side1 => repeat (first | exact (Kd.C_below HR0.out HB.out) | (with_reducible refine Kd.C_alloc ?_ _) | (with_reducible refine Kd.C_drewN ?_ _) | (with_reducible refine Kd.C_drew ?_))); (case side2 => exact HC0.out); rintro e w5 ⟨rfl, hb⟩; refine ⟨_, rfl, ?_⟩; have n0_ := Aside0.mk (below_step (by repeat (first | (with_reducible first | exact HB.out | apply below_alloc | apply pw_below_drewN | apply below_drew1) | exact HB.out)) hb); clear HB; have HB := n0_; clear n0_; (try clear hb); (try clear hb2); (try clear hk); (try clear hi)))
        go_roundg k1
        case measure => have := HK1.out; omega
        case rel => exact ⟨(ji4), (wrap64 (x4_1 + 1)), (by first | rfl | (simp; done) | (simp only [← hji4] <;> (first | rfl | simp)) | (simp [*]; done)), (by first | rfl | (simp; done) | (simp [*]; done)), H', ⟨by have := HK1.out; omega⟩, ⟨by repeat (first | (with_reducible first | exact HB.out | apply below_alloc | apply pw_below_drewN | apply below_drew1) | exact HB.out)⟩⟩
      · rw [if_neg c2] at H
        have c2b0 : decide ((wrap64 (x4_1 + 1)) < (l0.length : Int)) = false := decide_eq_false c2
        clear c2
        obtain rfl := Option.some.inj H
        go_wp2
        go_ret
        exact ⟨by first | rfl | (simp [errW_none, errW_some] <;> rfl) | (simp [*, errW_none, errW_some] <;> rfl), by repeat (first | (with_reducible first | exact HB.out | apply below_alloc | apply pw_below_drewN | apply below_drew1) | exact HB.out)⟩

end Go.Proofs.Ytafmgmaelnpehaa.PFurrowAsks
end

section
namespace Go.Proofs.Ytafmgmaelnpehaa.PFurrowAsks
open Go.RowKit Go.Proofs.YtafmgmaelnpehaaW.PrintWords Go.Proofs.YtafmgmaelnpehaaW.PrintLast Go.Proofs.YtafmgmaelnpehaaW.PrintMore
attribute [local go_sem] max2_int min2_int max_two min_two max_three min_three max_four min_four   -- for this text's walks alone
set_option linter.unusedVariables false
set_option linter.unusedSimpArgs false

/-! ### furrowworkslaw04_inside: function 34 -/
def furrowworkslaw04_inside.f (a0 : Int) (a1_0 : Int) (a1_1 : Int) : Option (Bool) := if a1_0 ≤ a0 then (some (decide (a0 ≤ a1_1))) else (some false)
set_option maxHeartbeats 8000000 in
set_option maxRecDepth 100000 in
theorem furrowworkslaw04_inside.calls (a0 : Int) (a1_0 : Int) (a1_1 : Int) (r : Bool) (w : World) (h : furrowworkslaw04_inside.f a0 a1_0 a1_1 = some r) :
    Calls Try.prog 34 #[.int .i64 a0, .agg #[.int .i64 a1_0, .int .i64 a1_1]] w fun e w' => e = .returned (.bool r) ∧ Below w.heap.size w w' := by
  have hu28 := Try.underlying28
  have HB := Aside0.mk (Below.refl w.heap.size w)
  have H : (if a1_0 ≤ a0 then (some (decide (a0 ≤ a1_1))) else (some false)) = some r := h
  clear h
  by_cases c3 : a1_0 ≤ a0
  · rw [if_pos c3] at H
    have c3b0 : decide (a1_0 ≤ a0) = true := decide_eq_true c3
    clear c3
    obtain rfl := Option.some.inj H
    go_enter Try.func34, Try.ntmps34
    go_wp2_with (first | ((with_reducible refine gate_dst (N := 3) rfl ?_); refine box_event ?hg (N := 3) ?hd (cs := #[.int .i64 a1_0, .int .i64 a1_1]) (t := 28) ?hr ?_; (case hd => rfl); (case hg => rfl); (case hr => first | (go_simp; done) | (go_simp; rfl)); intro gb359 hg w4 hbox hb; have n0_ := Aside0.mk (below_step (by repeat (first | (with_reducible first | exact HB.out | apply below_alloc | apply pw_below_drewN | apply below_drew1) | exact HB.out)) hb); have n1_ := Aside0.mk (hbox); have n2_ := Aside0.mk ((by rw [hg]; exact (below_size (by repeat (first | (with_reducible first | exact HB.out | apply below_alloc | apply pw_below_drewN | apply below_drew1) | exact HB.out))) : w.heap.size ≤ gb359)); have n3_ := Aside0.mk ((by rw [hg]; exact (below_size (by repeat (first | (with_reducible first | exact HB.out | apply below_alloc | apply pw_below_drewN | apply below_drew1) | exact HB.out))) : w.heap.size ≤ gb359)); clear HB; have HB := n0_; have BK359 := n1_; have GW359 := n2_; have GE359 := n3_; clear n0_ n1_ n2_ n3_; clear hb hbox hg; have hcz5_0 : w4.cell? ⟨gb359, 0, none⟩ = some (.int .i64 a1_0) := (blk_cell BK359.out 0).trans rfl; have hcz5_1 : w4.cell? ⟨gb359, 1, none⟩ = some (.int .i64 a1_1) := (blk_cell BK359.out 1).trans rfl; have hfz5_0 := blk_frozen BK359.out 0; have hfz5_1 := blk_frozen BK359.out 1))
    go_ret
    exact ⟨by first | rfl | (simp [errW_none, errW_some] <;> rfl) | (simp [*, errW_none, errW_some] <;> rfl), by repeat (first | (with_reducible first | exact HB.out | apply below_alloc | apply pw_below_drewN | apply below_drew1 | refine below_set ?_ GE359.out) | exact HB.out)⟩
  · rw [if_neg c3] at H
    have c3b0 : decide (a1_0 ≤ a0) = false := decide_eq_false c3
    clear c3
    obtain rfl := Option.some.inj H
    go_enter Try.func34, Try.ntmps34
    go_wp2_with (first | ((with_reducible refine gate_dst (N := 3) rfl ?_); refine box_event ?hg (N := 3) ?hd (cs := #[.int .i64 a1_0, .int .i64 a1_1]) (t := 28) ?hr ?_; (case hd => rfl); (case hg => rfl); (case hr => first | (go_simp; done) | (go_simp; rfl)); intro gb359 hg w6 hbox hb; have n0_ := Aside0.mk (below_step (by repeat (first | (with_reducible first | exact HB.out | apply below_alloc | apply pw_below_drewN | apply below_drew1) | exact HB.out)) hb); have n1_ := Aside0.mk (hbox); have n2_ := Aside0.mk ((by rw [hg]; exact (below_size (by repeat (first | (with_reducible first | exact HB.out | apply below_alloc | apply pw_below_drewN | apply below_drew1) | exact HB.out))) : w.heap.size ≤ gb359)); have n3_ := Aside0.mk ((by rw [hg]; exact (below_size (by repeat (first | (with_reducible first | exact HB.out | apply below_alloc | apply pw_below_drewN | apply below_drew1) | exact HB.out))) : w.heap.size ≤ gb359)); clear HB; have HB := n0_; have BK359 := n1_; have GW359 := n2_; have GE359 := n3_; clear n0_ n1_ n2_ n3_; clear hb hbox hg; have hcz7_0 : w6.cell? ⟨gb359, 0, none⟩ = some (.int .i64 a1_0) := (blk_cell BK359.out 0).trans rfl; have hcz7_1 : w6.cell? ⟨gb359, 1, none⟩ = some (.int .i64 a1_1) := (blk_cell BK359.out 1).trans rfl; have hfz7_0 := blk_frozen BK359.out 0; have hfz7_1 := blk_frozen BK359.out 1))
    go_ret
    exact ⟨by first | rfl | (simp [errW_none, errW_some] <;> rfl) | (simp [*, errW_none, errW_some] <;> rfl), by repeat (first | (with_reducible first | exact HB.out | apply below_alloc | apply pw_below_drewN | apply below_drew1 | refine below_set ?_ GE359.out) | exact HB.out)⟩

end Go.Proofs.Ytafmgmaelnpehaa.PFurrowAsks
end

section
namespace Go.Proofs.Ytafmgmaelnpehaa.PFurrowAsks
open Go.RowKit Go.Proofs.YtafmgmaelnpehaaW.PrintWords Go.Proofs.YtafmgmaelnpehaaW.PrintLast Go.Proofs.YtafmgmaelnpehaaW.PrintMore
attribute [local go_sem] max2_int min2_int max_two min_two max_three min_three max_four min_four   -- for this text's walks alone
set_option linter.unusedVariables false
set_option linter.unusedSimpArgs false

/-! ### furrowworksref04_Bent: function 35 -/
def furrowworksref04_Bent.f (l0 : List Int) (a1 : Int) : Option (Int) := (furrowworksref04_bend.f l0 a1).bind fun t360 => (some t360)
set_option maxHeartbeats 8000000 in
set_option maxRecDepth 100000 in
theorem furrowworksref04_Bent.calls (A0 : Option Addr) (c0 : Nat) (l0 : List Int) (a1 : Int) (r : Int) (w : World) (hr0 : Kd.C (Kd.int .i64) w A0 l0.length l0) (hc0 : l0.length ≤ c0) (h : furrowworksref04_Bent.f l0 a1 = some r) :
    Calls Try.prog 35 #[.slice A0 l0.length c0, .int .i64 a1] w fun e w' => e = .returned (.int .i64 r) ∧ Below w.heap.size w w' := by
  have HR0 := Aside0.mk hr0
  have HC0 := Aside0.mk hc0
  clear hr0 hc0
  have HB := Aside0.mk (Below.refl w.heap.size w)
  have H : ((furrowworksref04_bend.f l0 a1).bind fun t360 => (some t360)) = some r := h
  clear h
  replace H := Option.bind_eq_some_iff.mp H
  obtain ⟨t360, A30, H⟩ := H
  replace H : (some t360) = some r := H
  have A3 := Aside0.mk A30
  clear A30
  obtain rfl := Option.some.inj H
  go_enter Try.func35, Try.ntmps35
  go_wp2_with (first | ((with_reducible refine gate_callee (f := 55) rfl ?_); refine goesL_ (some 7) rfl rfl Try.func55 (by kernel_rfl) rfl #[.slice A0 l0.length c0, .int .i64 a1] rfl (by (try simp only [List.map_toArray, List.map_cons, List.map_nil]); first | done | rfl | (simp only [List.length_drop, List.length_take]; rfl)) ?_; (with_reducible refine (furrowworksref04_bend.calls _ _ l0 a1 t360 _ ?side1 ?side2 A3.out).mono ?_); (case side1 => repeat (first | exact HR0.out | (with_reducible refine Kd.C_alloc ?_ _) | (with_reducible refine Kd.C_drewN ?_ _) | (with_reducible refine Kd.C_drew ?_))); (case side2 => exact HC0.out); rintro e w4 ⟨rfl, hb⟩; refine ⟨_, rfl, ?_⟩; have n0_ := Aside0.mk (below_step (by repeat (first | (with_reducible first | exact HB.out | apply below_alloc | apply pw_below_drewN | apply below_drew1) | exact HB.out)) hb); clear HB; have HB := n0_; clear n0_; (try clear hb); (try clear hb2); (try clear hk); (try clear hi)))
  go_ret
  exact ⟨by first | rfl | (simp [errW_none, errW_some] <;> rfl) | (simp [*, errW_none, errW_some] <;> rfl), by repeat (first | (with_reducible first | exact HB.out | apply below_alloc | apply pw_below_drewN | apply below_drew1) | exact HB.out)⟩

end Go.Proofs.Ytafmgmaelnpehaa.PFurrowAsks
end

section
set_option linter.unusedVariables false
set_option linter.unusedSimpArgs false
namespace Go.Proofs.Ytafmgmaelnpehaa
open Go.RowKit Go.Fu PFurrowAsks Go.Proofs.YtafmgmaelnpehaaW.PrintWords
/-- A list of offsets, as a function of the station. -/
def fnOf (l : List Int) (i : Nat) : Int := l.getD i 0
theorem bend_fn (l : List Int) (n : Nat) (hl : l.length ≤ 100) (h1 : 1 ≤ n) (h2 : n + 1 < l.length) (hb : ∀ x ∈ l, -1000 ≤ x ∧ x ≤ 1000) : furrowworksref04_bend.f l n = some (bnd (fnOf l) n) := bend_is l n hl h1 h2 hb
theorem bent_is (l : List Int) (n : Nat) (hl : l.length ≤ 100) (h1 : 1 ≤ n) (h2 : n + 1 < l.length) (hb : ∀ x ∈ l, -1000 ≤ x ∧ x ≤ 1000) : furrowworksref04_Bent.f l n = some (bnd (fnOf l) n) := by
  unfold furrowworksref04_Bent.f
  rw [bend_fn l n hl h1 h2 hb]
  rfl
theorem most_l (l : List Int) (hl : l.length ≤ 100) (hb : ∀ x ∈ l, -1000 ≤ x ∧ x ≤ 1000) : ∀ (d i : Nat), i + d = l.length - 2 → Ev (fun k => furrowworksref04_Most.l0 k l (mostF (fnOf l) i) ((i + 1 : Nat) : Int)) (mostF (fnOf l) (l.length - 2))
  | 0, i, hd => by
    refine ⟨1, fun k hk => ?_⟩
    obtain ⟨m, rfl⟩ : ∃ m, k = m + 1 := ⟨k - 1, by omega⟩
    simp only [furrowworksref04_Most.l0]
    have hw : wrap64 (((i + 1 : Nat) : Int) + 1) = ((i + 2 : Nat) : Int) := by unfold wrap64; omega
    rw [hw, if_neg (by omega), show i = l.length - 2 by omega]
  | d + 1, i, hd => by
    have ih := most_l l hl hb d (i + 1) (by omega)
    refine Ev.step (fun k => ?_) ih
    simp only [furrowworksref04_Most.l0]
    have hw : wrap64 (((i + 1 : Nat) : Int) + 1) = ((i + 2 : Nat) : Int) := by unfold wrap64; omega
    rw [hw, if_pos (by omega), bend_fn l (i + 1) hl (by omega) (by omega) hb]
    have e : mx (mostF (fnOf l) i) (bnd (fnOf l) (i + 1)) = mostF (fnOf l) (i + 1) := by
      show mx _ _ = (if mostF (fnOf l) i < bnd (fnOf l) (i + 1) then bnd (fnOf l) (i + 1) else mostF (fnOf l) i)
      unfold mx
      split <;> (try split) <;> omega
    rw [Option.bind_some, e]
theorem most_is (l : List Int) (hl : l.length ≤ 100) (hb : ∀ x ∈ l, -1000 ≤ x ∧ x ≤ 1000) : ∃ k, furrowworksref04_Most.f k l = some (mostF (fnOf l) (l.length - 2)) := (most_l l hl hb (l.length - 2) 0 (by omega)).rounds
theorem inside_is (n a b : Int) : furrowworkslaw04_inside.f n a b = some (decide (a ≤ n) && decide (n ≤ b)) := by
  unfold furrowworkslaw04_inside.f
  by_cases h1 : a ≤ n <;> simp [h1]
/-! ### Bits -/
theorem andb_all : (List.range 256).all (fun s => (List.range 8).all fun k => bits .and .i64 ((s : Int) / 2 ^ k) 1 == ((s / 2 ^ k % 2 : Nat) : Int)) = true := by kernel_rfl
theorem andb_is (s k : Nat) (hs : s < 256) (hk : k < 8) : bits .and .i64 ((s : Int) / 2 ^ k) 1 = ((s / 2 ^ k % 2 : Nat) : Int) := by
  have h := List.all_eq_true.1 andb_all s (List.mem_range.2 hs)
  have h2 := List.all_eq_true.1 h k (List.mem_range.2 hk)
  exact eq_of_beq h2
theorem andn_all : (List.range 128).all (fun a => (List.range 128).all fun b => bits .andNot .i64 (a : Int) (b : Int) == 0 || (List.range 7).any fun i => a / 2 ^ i % 2 == 1 && b / 2 ^ i % 2 == 0) = true := by kernel_rfl
theorem andn_is (a b : Nat) (ha : a < 128) (hb : b < 128) (h : ∀ i, i < 7 → a / 2 ^ i % 2 = 1 → b / 2 ^ i % 2 = 1) : bits .andNot .i64 (a : Int) (b : Int) = 0 := by
  have h1 := List.all_eq_true.1 andn_all a (List.mem_range.2 ha)
  have h2 := List.all_eq_true.1 h1 b (List.mem_range.2 hb)
  rcases Bool.or_eq_true_iff.1 h2 with h3 | h3
  · exact eq_of_beq h3
  · obtain ⟨i, hi, h4⟩ := List.any_eq_true.1 h3
    rw [Bool.and_eq_true, beq_iff_eq, beq_iff_eq] at h4
    have := h i (List.mem_range.1 hi) h4.1
    omega
theorem set_sub {p q : Nat → Bool} {n : Nat} (h : ∀ i, i < n → p i = true → q i = true) (i : Nat) (hi : setN p n / 2 ^ i % 2 = 1) : setN q n / 2 ^ i % 2 = 1 := by
  rw [setN_bit] at hi ⊢
  split at hi
  · rename_i hc
    rw [if_pos ⟨hc.1, h i hc.1 hc.2⟩]
  · cases hi
/-! ### Other offsets, by numbers -/
def byAt (bs : List Int) (k : Nat) : Int := if bs.length = 0 then 0 else bs.getD (k % bs.length) 0
def oneX (l : List (Int × Int)) (bs : List Int) (k : Nat) : Int := (l.getD k (0, 0)).1 + (if bs.length = 0 then 0 else bs.getD (k % bs.length) 0 % ((l.getD k (0, 0)).2 - (l.getD k (0, 0)).1 + 1))
def oneL (l : List (Int × Int)) (bs : List Int) (n k : Nat) : List Int := (List.range n).map fun i => if i < k then oneX l bs i else 0
theorem oneL_len (l : List (Int × Int)) (bs : List Int) (n k : Nat) : (oneL l bs n k).length = n := by simp [oneL]
theorem oneL_zero (l : List (Int × Int)) (bs : List Int) (n : Nat) : oneL l bs n 0 = List.replicate n 0 := by
  apply List.ext_getElem
  · simp [oneL]
  · intro i h1 h2; simp [oneL]
theorem oneL_set (l : List (Int × Int)) (bs : List Int) (n k : Nat) (h : k < n) : (oneL l bs n k).set k (oneX l bs k) = oneL l bs n (k + 1) := by
  apply List.ext_getElem
  · simp [oneL]
  · intro i h1 h2
    rw [List.getElem_set]
    simp only [oneL, List.getElem_map, List.getElem_range]
    by_cases e : k = i
    · subst e; simp
    · rw [if_neg e]
      by_cases e2 : i < k
      · rw [if_pos e2, if_pos (by omega)]
      · rw [if_neg e2, if_neg (by omega)]
theorem oneX_in {l : List (Int × Int)} (hok : ∀ x ∈ l, okSpan x) {bs : List Int} (hbs : ∀ b ∈ bs, 0 ≤ b ∧ b ≤ 255) (k : Nat) (hk : k < l.length) : InS l k (oneX l bs k) := by
  obtain ⟨h1, h2, h3⟩ := hok _ (getD_mem l k hk)
  unfold InS oneX
  split
  · omega
  · have := Int.emod_nonneg (bs.getD (k % bs.length) 0) (show (l.getD k (0, 0)).2 - (l.getD k (0, 0)).1 + 1 ≠ 0 by omega)
    have := Int.emod_lt_of_pos (bs.getD (k % bs.length) 0) (show 0 < (l.getD k (0, 0)).2 - (l.getD k (0, 0)).1 + 1 by omega)
    omega
theorem one_truth {l : List (Int × Int)} (hok : ∀ x ∈ l, okSpan x) {bs : List Int} (hbs : ∀ b ∈ bs, 0 ≤ b ∧ b ≤ 255) : Truth l (fnOf (oneL l bs l.length l.length)) := by
  intro i hi
  have : fnOf (oneL l bs l.length l.length) i = oneX l bs i := by simp [fnOf, oneL, List.getD_eq_getElem?_getD, hi]
  rw [this]
  exact oneX_in hok hbs i hi
theorem truth_bd {l : List (Int × Int)} (hok : ∀ x ∈ l, okSpan x) {xs : List Int} (hx : xs.length = l.length) (ht : Truth l (fnOf xs)) : ∀ x ∈ xs, -1000 ≤ x ∧ x ≤ 1000 := by
  intro x hxm
  obtain ⟨i, hi, rfl⟩ := List.getElem_of_mem hxm
  have h1 := ht i (by omega)
  obtain ⟨h2, h3, h4⟩ := hok _ (getD_mem l i (by omega))
  unfold fnOf at h1
  rw [show xs.getD i 0 = xs[i] by simp [List.getD_eq_getElem?_getD, hi]] at h1
  obtain ⟨h5, h6⟩ := h1
  omega
end Go.Proofs.Ytafmgmaelnpehaa
end

section
set_option linter.unusedVariables false
set_option linter.unusedSimpArgs false
namespace Go.Proofs.Ytafmgmaelnpehaa
open Go.RowKit Go.Fu
theorem strF_succ (m : Nat) (l : List (Int × Int)) (k : Nat) : strF m l (k + 1) = strStep m (strF m l k) k := by
  unfold strF
  rw [List.range_succ, List.foldl_append]
  rfl
structure StrInv (l : List (Int × Int)) (m k : Nat) (s : List (Int × Int) × List Int) : Prop where
  a : s.2.length = k
  b : s.1.length = l.length
  c : ∀ i, i < l.length → s.1.getD i (0, 0) = if i < k then (s.2.getD i 0, s.2.getD i 0) else l.getD i (0, 0)
  d : ∀ i, i < k → InS l i (s.2.getD i 0)
  e : canB s.1 (upP m) = true
  f : ∀ x, Truth l x → mostL l x ≤ m → ∀ i, i < k → (∀ j, j < i → x j = s.2.getD j 0) → x i ≠ s.2.getD i 0 → s.2.getD i 0 < x i
theorem find_first (lo hi : Int) (p : Int → Bool) (o : Int) (h : (spanL (lo, hi)).find? p = some o) : p o = true ∧ lo ≤ o ∧ o ≤ hi ∧ ∀ a, lo ≤ a → a < o → p a = false := by
  have h1 := List.find?_some h
  have h2 := (mem_spanL (lo, hi) o).1 (List.mem_of_find?_eq_some h)
  refine ⟨h1, h2.1, h2.2, fun a ha hlt => ?_⟩
  obtain ⟨_, i, hil, he, hall⟩ := List.find?_eq_some_iff_getElem.1 h
  have hg : ∀ j (hj : j < (spanL (lo, hi)).length), (spanL (lo, hi))[j] = lo + j := by
    intro j hj
    unfold spanL at hj ⊢
    exact ints_get _ _ _ _
  rw [hg] at he
  have := hall (a - lo).toNat (by omega)
  rw [hg] at this
  rw [show lo + (((a - lo).toNat : Nat) : Int) = a by omega] at this
  simpa using this
theorem str_step {l : List (Int × Int)} (hok : ∀ x ∈ l, okSpan x) {m k : Nat} (hk : k < l.length) {s : List (Int × Int) × List Int} (h : StrInv l m k s) : StrInv l m (k + 1) (strStep m s k) := by
  have hl : ∀ i, i < l.length → okSpan (l.getD i (0, 0)) := fun i hi => hok _ (getD_mem l i hi)
  have okset : ∀ o, InS l k o → ∀ x ∈ s.1.set k (o, o), okSpan x := by
    intro o ho x hx
    obtain ⟨i, hi, rfl⟩ := List.getElem_of_mem hx
    have hi' : i < l.length := by rw [List.length_set, h.b] at hi; exact hi
    have e : (s.1.set k (o, o))[i]'hi = (s.1.set k (o, o)).getD i (0, 0) := by rw [List.getD_eq_getElem?_getD, List.getElem?_eq_getElem hi]; rfl
    rw [e, getD_set _ _ _ _ _ (by rw [h.b]; exact hk), h.c i hi']
    obtain ⟨a1, a2, a3⟩ := hl i hi'
    by_cases e1 : i = k
    · subst e1
      rw [if_pos rfl]
      obtain ⟨b1, b2⟩ := ho
      exact ⟨by show _ ≤ o; omega, Int.le_refl _, by show o ≤ _; omega⟩
    · rw [if_neg e1]
      by_cases e2 : i < k
      · rw [if_pos e2]
        obtain ⟨b1, b2⟩ := h.d i e2
        exact ⟨by show _ ≤ s.2.getD i 0; omega, Int.le_refl _, by show s.2.getD i 0 ≤ _; omega⟩
      · rw [if_neg e2]; exact hl i hi'
  have oks : ∀ x ∈ s.1, okSpan x := by
    intro x hx
    obtain ⟨i, hi, rfl⟩ := List.getElem_of_mem hx
    have hi' : i < l.length := by rw [h.b] at hi; exact hi
    have e : s.1[i]'hi = s.1.getD i (0, 0) := by rw [List.getD_eq_getElem?_getD, List.getElem?_eq_getElem hi]; rfl
    rw [e, h.c i hi']
    obtain ⟨a1, a2, a3⟩ := hl i hi'
    by_cases e2 : i < k
    · rw [if_pos e2]
      obtain ⟨b1, b2⟩ := h.d i e2
      exact ⟨by show _ ≤ s.2.getD i 0; omega, Int.le_refl _, by show s.2.getD i 0 ≤ _; omega⟩
    · rw [if_neg e2]; exact hl i hi'
  have hset : ∀ o i, i < l.length → (s.1.set k (o, o)).getD i (0, 0) = if i = k then (o, o) else if i < k then (s.2.getD i 0, s.2.getD i 0) else l.getD i (0, 0) := fun o i hi => by
    rw [getD_set _ _ _ _ _ (by rw [h.b]; exact hk), h.c i hi]
  -- a truth that goes so far with it shows that its next offset will do
  have works : ∀ x, Truth l x → mostL l x ≤ m → (∀ j, j < k → x j = s.2.getD j 0) → canB (s.1.set k (x k, x k)) (upP m) = true := by
    intro x hx hm hj
    refine (canB_most (okset (x k) (hx k hk)) (m := (m : Int)) (by omega)).2 ⟨x, fun i hi => ?_, ?_⟩
    · have hi' : i < l.length := by rw [List.length_set, h.b] at hi; exact hi
      unfold InS
      rw [hset _ i hi']
      by_cases e1 : i = k
      · subst e1; rw [if_pos rfl]; exact ⟨Int.le_refl _, Int.le_refl _⟩
      · rw [if_neg e1]
        by_cases e2 : i < k
        · rw [if_pos e2, hj i e2]; exact ⟨Int.le_refl _, Int.le_refl _⟩
        · rw [if_neg e2]; exact hx i hi'
    · unfold mostL at *
      rw [List.length_set, h.b]
      exact hm
  obtain ⟨y, hy, hym⟩ := (canB_most oks (m := (m : Int)) (by omega)).1 h.e
  have hyt : Truth l y := by
    intro i hi
    have h1 := hy i (by rw [h.b]; exact hi)
    unfold InS at h1
    rw [h.c i hi] at h1
    by_cases e2 : i < k
    · rw [if_pos e2] at h1
      rw [show y i = s.2.getD i 0 from Int.le_antisymm h1.2 h1.1]
      exact h.d i e2
    · rw [if_neg e2] at h1; exact h1
  have hyj : ∀ j, j < k → y j = s.2.getD j 0 := by
    intro j hj
    have h1 := hy j (by rw [h.b]; omega)
    unfold InS at h1
    rw [h.c j (by omega), if_pos hj] at h1
    exact Int.le_antisymm h1.2 h1.1
  have hyl : mostL l y ≤ m := by unfold mostL at *; rw [h.b] at hym; exact hym
  have hw := works y hyt hyl hyj
  have hck : s.1.getD k (0, 0) = l.getD k (0, 0) := by rw [h.c k hk, if_neg (Nat.lt_irrefl _)]
  unfold strStep
  rw [hck]
  obtain ⟨lo, hi, hlh⟩ : ∃ lo hi, l.getD k (0, 0) = (lo, hi) := ⟨_, _, rfl⟩
  rw [hlh]
  cases hf : (spanL (lo, hi)).find? (fun o => canB (s.1.set k (o, o)) (upP m)) with
  | none =>
    have := List.find?_eq_none.1 hf (y k) ((mem_spanL (lo, hi) (y k)).2 (by have := hyt k hk; unfold InS at this; rw [hlh] at this; exact this))
    exact absurd hw this
  | some o =>
    obtain ⟨h1, h2, h3, h4⟩ := find_first lo hi _ o hf
    have hoI : InS l k o := by unfold InS; rw [hlh]; exact ⟨h2, h3⟩
    have happ : ∀ i, i < k → (s.2 ++ [o]).getD i 0 = s.2.getD i 0 := fun i hi => by simp [List.getD_eq_getElem?_getD, h.a, hi, List.getElem?_append]
    have happk : (s.2 ++ [o]).getD k 0 = o := by simp [List.getD_eq_getElem?_getD, h.a, List.getElem?_append]
    refine ⟨by simp [h.a], by simp [h.b], fun i hi => ?_, fun i hi => ?_, h1, fun x hx hm i hi hj hne => ?_⟩
    · show (s.1.set k (o, o)).getD i (0, 0) = _
      rw [hset o i hi]
      by_cases e1 : i = k
      · subst e1; rw [if_pos rfl, if_pos (by omega)]; show _ = ((s.2 ++ [o]).getD i 0, (s.2 ++ [o]).getD i 0); rw [happk]
      · rw [if_neg e1]
        by_cases e2 : i < k
        · rw [if_pos e2, if_pos (by omega)]; show _ = ((s.2 ++ [o]).getD i 0, (s.2 ++ [o]).getD i 0); rw [happ i e2]
        · rw [if_neg e2, if_neg (by omega)]
    · show InS l i ((s.2 ++ [o]).getD i 0)
      by_cases e1 : i = k
      · subst e1; rw [happk]; exact hoI
      · rw [happ i (by omega)]; exact h.d i (by omega)
    · have hj' : ∀ j, j < i → x j = (s.2 ++ [o]).getD j 0 := hj
      have hne' : x i ≠ (s.2 ++ [o]).getD i 0 := hne
      show (s.2 ++ [o]).getD i 0 < x i
      by_cases e1 : i = k
      · subst e1
        rw [happk] at hne' ⊢
        refine Int.not_le.1 fun hle => ?_
        have hxl := hx i hk
        unfold InS at hxl
        rw [hlh] at hxl
        have := h4 (x i) hxl.1 (by omega)
        rw [works x hx hm fun j hj2 => by rw [hj' j hj2, happ j hj2]] at this
        cases this
      · rw [happ i (by omega)] at hne' ⊢
        exact h.f x hx hm i (by omega) (fun j hj2 => by rw [hj' j hj2, happ j (by omega)]) hne'
theorem str_inv {l : List (Int × Int)} (hok : ∀ x ∈ l, okSpan x) : ∀ k, k ≤ l.length → StrInv l (leastN l) k (strF (leastN l) l k)
  | 0, _ => ⟨rfl, rfl, fun i hi => by rw [if_neg (by omega)]; rfl, fun i hi => by omega, (leastN_is l hok).1, fun x hx hm i hi => by omega⟩
  | k + 1, hk => by
    rw [strF_succ]
    exact str_step hok (by omega) (str_inv hok k (by omega))
structure StrSpec (l : List (Int × Int)) (o : List Int) : Prop where
  len : o.length = l.length
  tr : Truth l (fnOf o)
  most : mostL l (fnOf o) = leastN l
  first : ∀ x, Truth l x → mostL l x ≤ leastN l → ∀ i, i < l.length → (∀ j, j < i → x j = fnOf o j) → x i ≠ fnOf o i → fnOf o i < x i
theorem str_spec {l : List (Int × Int)} (hok : ∀ x ∈ l, okSpan x) : StrSpec l (strF (leastN l) l l.length).2 := by
  have h := str_inv hok l.length (Nat.le_refl _)
  generalize strF (leastN l) l l.length = s at *
  have ht : Truth l (fnOf s.2) := fun i hi => h.d i hi
  refine ⟨h.a, ht, ?_, fun x hx hm i hi hj hne => h.f x hx hm i hi hj hne⟩
  have oks : ∀ x ∈ s.1, okSpan x := by
    intro x hx
    obtain ⟨i, hi, rfl⟩ := List.getElem_of_mem hx
    have hi' : i < l.length := by rw [h.b] at hi; exact hi
    have e : s.1[i]'hi = s.1.getD i (0, 0) := by rw [List.getD_eq_getElem?_getD, List.getElem?_eq_getElem hi]; rfl
    rw [e, h.c i hi', if_pos hi']
    obtain ⟨a1, a2, a3⟩ := hok _ (getD_mem l i hi')
    obtain ⟨b1, b2⟩ := h.d i hi'
    exact ⟨by show _ ≤ s.2.getD i 0; omega, Int.le_refl _, by show s.2.getD i 0 ≤ _; omega⟩
  obtain ⟨y, hy, hym⟩ := (canB_most oks (m := ((leastN l : Nat) : Int)) (by omega)).1 h.e
  have hyj : ∀ j, j < l.length → y j = fnOf s.2 j := by
    intro j hj
    have h1 := hy j (by rw [h.b]; exact hj)
    unfold InS at h1
    rw [h.c j hj, if_pos hj] at h1
    exact Int.le_antisymm h1.2 h1.1
  have hle : mostL l (fnOf s.2) ≤ leastN l := by
    refine (mostL_le (by omega)).2 fun n h1 h2 => ?_
    rw [bnd_congr (y := y) (hyj _ (by omega)).symm (hyj _ (by omega)).symm (hyj _ (by omega)).symm]
    exact (mostL_le (l := s.1) (by omega)).1 hym n h1 (by rw [h.b]; exact h2)
  have := (least_spec l hok).2 _ ht
  omega
end Go.Proofs.Ytafmgmaelnpehaa
end

section
set_option linter.unusedVariables false
set_option linter.unusedSimpArgs false
namespace Go.Proofs.Ytafmgmaelnpehaa
open Go.RowKit Go.TL Go.Fu
open PFurrowAsks Go.Proofs.YtafmgmaelnpehaaW.PrintWords
theorem freeS_zero (l : List (Int × Int)) : freeS 0 l = l := by
  apply List.ext_getElem
  · exact freeS_len 0 l
  · intro i h1 h2
    have e1 : (freeS 0 l)[i]'h1 = (freeS 0 l).getD i (0, 0) := by rw [List.getD_eq_getElem?_getD, List.getElem?_eq_getElem h1]; rfl
    have e2 : l[i]'h2 = l.getD i (0, 0) := by rw [List.getD_eq_getElem?_getD, List.getElem?_eq_getElem h2]; rfl
    rw [e1, e2, freeS_get _ _ _ h2, if_neg (by simp)]
theorem wrong_least {l : List (Int × Int)} (hok : ∀ x ∈ l, okSpan x) : IsWrong l (leastN l) 0 :=
  ⟨Nat.two_pow_pos _, by rw [freeS_zero]; exact (leastN_is l hok).1, fun s _ _ => ⟨by rw [show ones 8 0 = 0 from rfl]; omega, fun _ => Nat.zero_le _⟩⟩
theorem wrongV_least {l : List (Int × Int)} (hok : ∀ x ∈ l, okSpan x) : wrongV true (leastN l) l = (0, 0) := by
  unfold wrongV
  rw [if_pos rfl, if_pos (by omega), wrongN_eq (wrong_least hok)]
  rfl
theorem wrong_under {l : List (Int × Int)} (hok : ∀ x ∈ l, okSpan x) (h1 : 1 ≤ leastN l) (h : IsWrong l ((leastN l : Int) - 1) (wrongN l ((leastN l : Int) - 1))) : wrongN l ((leastN l : Int) - 1) ≠ 0 := by
  intro e
  have h2 := h.can
  rw [e, freeS_zero] at h2
  have h3 := (leastN_is l hok).2 (leastN l - 1) (by omega)
  rw [show (((leastN l - 1 : Nat)) : Int) = (leastN l : Int) - 1 by omega] at h3
  rw [h3] at h2
  cases h2
/-- 'Wrong' at the least bend finds nothing wrong. -/
theorem wrong_c0 {F : Fur} (hv : F.va = true) (w : World) (h : F.At w) :
    Calls Try.prog 24 #[F.val, .int .i64 (leastN F.pl)] w fun e w' => e = .returned (.tuple #[.int .i64 0, .int .i64 0]) ∧ Below w.heap.size w w' :=
  (Wrong_c F (leastN F.pl) w h).mono fun e w' ⟨⟨he, _⟩, hb⟩ => by
    rw [hv, wrongV_least (Fur.okS hv)] at he
    exact ⟨he, hb⟩
/-- One less, and something is. -/
theorem wrong_c1 {F : Fur} (hv : F.va = true) (h1 : 1 ≤ leastN F.pl) (w : World) (h : F.At w) :
    Calls Try.prog 24 #[F.val, .int .i64 ((leastN F.pl : Int) - 1)] w fun e w' => (∃ n : Int, n ≠ 0 ∧ e = .returned (.tuple #[.int .i64 n, .int .i64 0])) ∧ Below w.heap.size w w' :=
  (Wrong_c F ((leastN F.pl : Int) - 1) w h).mono fun e w' ⟨⟨he, hw⟩, hb⟩ => by
    have hn := wrong_under (Fur.okS hv) h1 (hw hv (by omega))
    refine ⟨⟨(wrongN F.pl ((leastN F.pl : Int) - 1) : Int), by omega, ?_⟩, hb⟩
    unfold wrongV at he
    rw [hv, if_pos rfl, if_pos (by omega)] at he
    exact he
end Go.Proofs.Ytafmgmaelnpehaa
end

section
set_option linter.unusedVariables false
set_option linter.unusedSimpArgs false
namespace Go.Proofs.Ytafmgmaelnpehaa
open Go.RowKit Go.TL Go.Fu
open PFurrowAsks Go.Proofs.YtafmgmaelnpehaaW.PrintWords
theorem canB_sub {l l' : List (Int × Int)} {p : Int → Int → Bool} (hok : ∀ x ∈ l, okSpan x) (hok' : ∀ x ∈ l', okSpan x) (hl : l'.length = l.length) (hs : ∀ i, i < l.length → (l.getD i (0, 0)).1 ≤ (l'.getD i (0, 0)).1 ∧ (l'.getD i (0, 0)).2 ≤ (l.getD i (0, 0)).2) (h : canB l' p = true) : canB l p = true := by
  obtain ⟨x, hx, hp⟩ := (canB_iff l' p hok').1 h
  refine (canB_iff l p hok).2 ⟨x, fun i hi => ?_, fun n h1 h2 => hp n h1 (by omega)⟩
  have a := hx i (by omega)
  have b := hs i hi
  unfold InS at a ⊢
  omega
theorem wrong_zero {l : List (Int × Int)} {most : Int} {r : Nat} (hok : ∀ x ∈ l, okSpan x) (hm : 0 ≤ most) (h : IsWrong l most r) : r = 0 ↔ (leastN l : Int) ≤ most := by
  constructor
  · rintro rfl
    have h2 := h.can
    rw [freeS_zero] at h2
    obtain ⟨x, hx, hxm⟩ := (canB_most hok hm).1 h2
    have := (least_spec l hok).2 x hx
    omega
  · intro hle
    obtain ⟨x, hx, hxm⟩ := (least_spec l hok).1
    have h2 : canB (freeS 0 l) (upP most) = true := by
      rw [freeS_zero]
      exact (canB_most hok hm).2 ⟨x, hx, by omega⟩
    have h3 := h.min 0 (Nat.two_pow_pos _) h2
    have h0 : ones 8 0 = 0 := rfl
    have h4 := h3.2 (by omega)
    omega
theorem all_but_one : ∀ n, n ≤ 8 → ones 8 (2 ^ n - 2) = n - 1 := by decide +kernel
theorem bit_rest : (List.range 9).all (fun n => (List.range 8).all fun i => decide (i = 0 ∨ n ≤ i) || (2 ^ n - 2) / 2 ^ i % 2 == 1) = true := by decide +kernel
theorem wrong_few {l : List (Int × Int)} {most : Int} {r : Nat} (h8 : l.length ≤ 8) (hok : ∀ x ∈ l, ok12 x) (hm : 0 ≤ most) (h : IsWrong l most r) : ones 8 r ≤ l.length - 1 := by
  have hok' : ∀ x ∈ l, okSpan x := fun x hx => (hok x hx).ok
  rcases Nat.eq_zero_or_pos l.length with h0 | hp
  · have := h.lt
    rw [h0] at this
    have : r = 0 := by omega
    subst this
    exact Nat.zero_le _
  · have hlt : 2 ^ l.length - 2 < 2 ^ l.length := by have := Nat.two_pow_pos l.length; omega
    have hc : canB (freeS (2 ^ l.length - 2) l) (upP most) = true := by
      obtain ⟨o1, o2, o3, o4⟩ := hok _ (getD_mem l 0 hp)
      obtain ⟨u, hu⟩ : ∃ u, (l.getD 0 (0, 0)).1 = u := ⟨_, rfl⟩
      rw [hu] at o1 o2
      refine (canB_iff _ _ (freeS_ok _ _ hok')).2 ⟨fun _ => u, fun i hi => ?_, fun n h1 h2 => ?_⟩
      · rw [freeS_len] at hi
        unfold InS
        rw [freeS_get _ _ _ hi]
        by_cases e : i = 0
        · subst e
          split
          · show (-12 : Int) ≤ u ∧ u ≤ (12 : Int); omega
          · show (l.getD 0 (0, 0)).1 ≤ u ∧ u ≤ (l.getD 0 (0, 0)).2; omega
        · have hb := List.all_eq_true.1 (List.all_eq_true.1 bit_rest l.length (List.mem_range.2 (by omega))) i (List.mem_range.2 (by omega))
          simp only [Bool.or_eq_true, decide_eq_true_eq, beq_iff_eq] at hb
          have hb2 : (2 ^ l.length - 2) / 2 ^ i % 2 = 1 := by
            rcases hb with hb | hb
            · omega
            · exact hb
          rw [if_pos hb2]
          show (-12 : Int) ≤ u ∧ u ≤ (12 : Int)
          omega
      · refine decide_eq_true ?_
        show bendI u u u ≤ most
        unfold bendI
        split <;> omega
    have := (h.min _ hlt hc).1
    rw [all_but_one _ h8] at this
    exact this
theorem ones_less : (List.range 256).all (fun r => (List.range 8).all fun i => decide (r / 2 ^ i % 2 = 0) || decide (ones 8 (r - 2 ^ i) < ones 8 r)) = true := by decide +kernel
theorem wrong_less {l : List (Int × Int)} {most : Int} {r i : Nat} (h8 : l.length ≤ 8) (h : IsWrong l most r) (hi : i < l.length) (hb : r / 2 ^ i % 2 = 1) : canB (freeS (r - 2 ^ i) l) (upP most) = false := by
  cases hc : canB (freeS (r - 2 ^ i) l) (upP most) with
  | false => rfl
  | true =>
    have hr : r < 256 := Nat.lt_of_lt_of_le h.lt (show 2 ^ l.length ≤ 2 ^ 8 from Nat.pow_le_pow_right (by omega) h8)
    have h1 := List.all_eq_true.1 (List.all_eq_true.1 ones_less r (List.mem_range.2 hr)) i (List.mem_range.2 (by omega))
    simp only [Bool.or_eq_true, decide_eq_true_eq] at h1
    have h2 := (h.min _ (Nat.lt_of_le_of_lt (Nat.sub_le _ _) h.lt) hc).1
    omega
end Go.Proofs.Ytafmgmaelnpehaa
end

section
set_option linter.unusedVariables false
set_option linter.unusedSimpArgs false
namespace Go.Proofs.Ytafmgmaelnpehaa
open Go.RowKit Go.TL Go.Shelf Go.Fu
attribute [local go_sem] Oper.semAt_some
open PFurrowAsks Go.Proofs.YtafmgmaelnpehaaW.PrintWords
abbrev RowB (w : World) (A : Option Addr) (l : List Int) : Prop := ReadsInt w .u8 A l.length l
theorem ints_set (l : List Int) (k : Nat) (v : Int) : (l.map (Value.int .i64)).set k (.int .i64 v) = (l.set k v).map (Value.int .i64) := by rw [List.map_set]
theorem own_book {w : World} {base n : Nat} {e : TypeId} {sz : Nat} {v : Value} {xs : List Value} (h : w.ownsRow base e sz v n xs) : ∀ j o, v.ownBlock = some j → w.heap[j]? = some o → book o = false := by
  intro j o hv ho
  rcases h.2 with ⟨rfl, _⟩ | ⟨g', cap', cur, rfl, _, hg', _⟩
  · simp [Value.ownBlock] at hv
  · simp only [Value.ownBlock, Option.some.injEq] at hv
    subst hv
    rw [hg'] at ho
    cases ho
    rfl
/-- What the loop keeps. -/
structure OneK (F : Fur) (V : World) (nb : Nat) (Ab : Option Addr) (bs : List Int) : Prop where
  at_ : F.At V
  box : Box3 V nb 24 F.s0 F.s1 F.s2
  by_ : RowB V Ab bs
  le : F.l0.length ≤ 8
  ok : ∀ x ∈ F.pl, ok12 x
  bs_ : ∀ b ∈ bs, 0 ≤ b ∧ b ≤ 255
theorem cell_off {X : World} {b g o k : Nat} {u : Value} (h : b ≠ g) : (X.setCell ⟨g, k, none⟩ u).cell? ⟨b, o, none⟩ = X.cell? ⟨b, o, none⟩ := by
  unfold World.cell?
  rw [show (X.setCell ⟨g, k, none⟩ u).heap[b]? = X.heap[b]? from Below.heap_setCell X ⟨g, k, none⟩ u b h]
theorem oneX_is {F : Fur} {bs : List Int} {k : Nat} {x y : Int} (hk : F.pl.getD k (0, 0) = (x, y)) : oneX F.pl bs k = x + (if bs.length = 0 then 0 else bs.getD (k % bs.length) 0 % (y - x + 1)) := by unfold oneX; rw [hk]
end Go.Proofs.Ytafmgmaelnpehaa
end

section
set_option linter.unusedVariables false
set_option linter.unusedSimpArgs false
namespace Go.Proofs.Ytafmgmaelnpehaa
open Go.RowKit Go.TL Go.Shelf Go.Fu
attribute [local go_sem] Oper.semAt_some
open PFurrowAsks Go.Proofs.YtafmgmaelnpehaaW.PrintWords
theorem flat_twok (l : List S28) (j : Nat) (p : S28) (h : l[j]? = some p) : ((flat (l.map toP)).drop (j * 2)).take 2 = [.int .i64 p.f0, .int .i64 p.f1] := by
  induction l generalizing j with
  | nil => simp at h
  | cons a l ih =>
    cases j with
    | zero =>
      simp only [List.getElem?_cons_zero, Option.some.injEq] at h
      subst h
      rfl
    | succ j =>
      have := ih j (by simpa using h)
      rw [show (j + 1) * 2 = j * 2 + 2 by omega]
      exact this
theorem own_R28k {w : World} {base : Nat} {v : Value} {l : List S28} (h : w.ownsRow base 28 2 v l.length (flat (l.map toP))) : Kd.R k28 28 w base (fun _ => True) v l := by
  refine ⟨fun _ _ => trivial, flat (l.map toP), h, ?_, fun j p hp => ?_⟩
  · show _ = l.length * 2
    rw [flat_len, List.length_map]
  · show k28.M _ _ _ p (((flat (l.map toP)).drop (j * 2)).take 2)
    rw [flat_twok l j p hp]
    exact k28_mkM _ _ _ _
def ptOf (bs : List Int) (i : Nat) : Int := if bs.length = 0 then 0 else bs.getD (i % bs.length) 0 % 25 - 12
def ptX (l : List S28) (s : Nat) (bs : List Int) (i : Nat) : S28 := if s / 2 ^ i % 2 = 1 then ⟨ptOf bs i, ptOf bs i⟩ else rd_T28 l i
def ptL (l : List S28) (s : Nat) (bs : List Int) (k : Nat) : List S28 := (List.range l.length).map fun i => if i < k then ptX l s bs i else rd_T28 l i
theorem ptL_len (l : List S28) (s : Nat) (bs : List Int) (k : Nat) : (ptL l s bs k).length = l.length := by simp [ptL]
theorem ptL_zero (l : List S28) (s : Nat) (bs : List Int) : ptL l s bs 0 = l := by
  apply List.ext_getElem
  · simp [ptL]
  · intro i h1 h2; simp [ptL, rd_T28, h2]
theorem ptL_set (l : List S28) (s : Nat) (bs : List Int) (k : Nat) (h : k < l.length) : (ptL l s bs k).set k (ptX l s bs k) = ptL l s bs (k + 1) := by
  apply List.ext_getElem
  · simp [ptL]
  · intro i h1 h2
    rw [List.getElem_set]
    simp only [ptL, List.getElem_map, List.getElem_range]
    by_cases e : k = i
    · subst e; simp
    · rw [if_neg e]
      by_cases e2 : i < k
      · rw [if_pos e2, if_pos (by omega)]
      · rw [if_neg e2, if_neg (by omega)]
theorem ptL_same (l : List S28) (s : Nat) (bs : List Int) (k : Nat) (h : k < l.length) (hb : ¬ s / 2 ^ k % 2 = 1) : ptL l s bs k = ptL l s bs (k + 1) := by
  apply List.ext_getElem
  · simp [ptL]
  · intro i h1 h2
    simp only [ptL, List.getElem_map, List.getElem_range]
    by_cases e : k = i
    · subst e; rw [if_neg (Nat.lt_irrefl _), if_pos (by omega)]; unfold ptX; rw [if_neg hb]
    · by_cases e2 : i < k
      · rw [if_pos e2, if_pos (by omega)]
      · rw [if_neg e2, if_neg (by omega)]
def FkI (F : Fur) (s : Nat) (Ab : Option Addr) (cb : Nat) (bs : List Int) (w : World) (j : Nat) (t : Array Value) (W : World) : Prop :=
  ∃ k : Nat, k ≤ F.l0.length ∧ j = F.l0.length - k ∧ F.At W ∧ Below w.heap.size w W ∧ (∃ v, Box3 W (w.heap.size + 1 + 1) 24 v (.slice F.A1 F.l1.length F.c1) (.slice F.A2 F.l2.length F.c2) ∧ W.ownsRow (w.heap.size + 1 + 1 + 1) 28 2 v F.l0.length (flat ((ptL F.l0 s bs k).map toP))) ∧ Box3 W (w.heap.size + 1) 24 (.slice none 0 0) (.slice none 0 0) (.slice none 0 0) ∧ Slots [none, some (.int .i64 s), some (.slice Ab bs.length cb), none, none, none, some (.pointer (some ⟨w.heap.size + 1, 0, none⟩)), some (.pointer (some ⟨w.heap.size + 1 + 1, 0, none⟩)), none, none, none, none, none, none, none, none, none, none, some (.int .i64 F.l0.length), some (.int .i64 k), none, none, none, none, none, none, none, none, none, none, none, none, none, none, none, none, none, none, none, none, none, none, none, none, none, none, none, none, none] t
def FkM (F : Fur) (s : Nat) (Ab : Option Addr) (cb : Nat) (bs : List Int) (w : World) (k : Nat) (t : Array Value) (W : World) : Prop :=
  F.At W ∧ Below w.heap.size w W ∧ (∃ v, Box3 W (w.heap.size + 1 + 1) 24 v (.slice F.A1 F.l1.length F.c1) (.slice F.A2 F.l2.length F.c2) ∧ W.ownsRow (w.heap.size + 1 + 1 + 1) 28 2 v F.l0.length (flat ((ptL F.l0 s bs (k + 1)).map toP))) ∧ Box3 W (w.heap.size + 1) 24 (.slice none 0 0) (.slice none 0 0) (.slice none 0 0) ∧ Slots [none, some (.int .i64 s), some (.slice Ab bs.length cb), none, none, none, some (.pointer (some ⟨w.heap.size + 1, 0, none⟩)), some (.pointer (some ⟨w.heap.size + 1 + 1, 0, none⟩)), none, none, none, none, none, none, none, none, none, none, some (.int .i64 F.l0.length), some (.int .i64 k), none, none, none, none, none, none, none, none, none, none, none, none, none, none, none, none, none, none, none, none, none, none, none, none, none, none, none, none, none] t
theorem own_slice {w : World} {base size n : Nat} {e : TypeId} {v : Value} {xs : List Value} (h : w.ownsRow base e size v n xs) : ∃ A c, v = .slice A n c := by
  rcases h.2 with ⟨rfl, hn⟩ | ⟨g, cap, cur, rfl, _⟩
  · exact ⟨none, 0, by rw [hn]⟩
  · exact ⟨_, _, rfl⟩
theorem own28_set {w : World} {base g cap n : Nat} {l : List (Int × Int)} (hl : l.length = n) (h : w.ownsRow base 28 2 (.slice (some ⟨g, 0, none⟩) n cap) n (flat l)) (k : Nat) (hk : k < n) (x : Int × Int) :
    ((w.setCell ⟨g, k * 2, none⟩ (.int .i64 x.1)).setCell ⟨g, k * 2 + 1, none⟩ (.int .i64 x.2)).ownsRow base 28 2 (.slice (some ⟨g, 0, none⟩) n cap) n (flat (l.set k x)) ∧ w.grownBy ((w.setCell ⟨g, k * 2, none⟩ (.int .i64 x.1)).setCell ⟨g, k * 2 + 1, none⟩ (.int .i64 x.2)) (some g) := by
  obtain ⟨h1, g1⟩ := h.stored (k * 2) (.int .i64 x.1)
  obtain ⟨h2, g2⟩ := h1.stored (k * 2 + 1) (.int .i64 x.2)
  rw [flat_set l k x (by omega)] at h2
  exact ⟨h2, g1.trans g2⟩
theorem Box3.frozen {W : World} {B : Nat} {t : TypeId} {a b c : Value} (h : Box3 W B t a b c) (j : Nat) : W.frozen? ⟨B, j, none⟩ = false := by simp [World.frozen?, show W.heap[B]? = _ from h]
set_option maxRecDepth 100000 in
set_option maxHeartbeats 1000000 in
theorem free38_any (F : Fur) (Ab : Option Addr) (cb : Nat) (bs : List Int) (s : Nat) (w : World) (h : F.At w) (hby : RowB w Ab bs) (hbs : ∀ b ∈ bs, 0 ≤ b ∧ b ≤ 255) (h8 : F.l0.length ≤ 8) (hs : s < 256) :
    Calls Try.prog 38 #[F.val, .int .i64 s, .slice Ab bs.length cb] w fun e w' => (∃ G : Fur, G.At w' ∧ e = .returned G.val ∧ G.l0 = ptL F.l0 s bs F.l0.length ∧ G.l1 = F.l1 ∧ G.l2 = F.l2) ∧ Below w.heap.size w w' := by
  refine calls_of_exec Try.func38 rfl ?_
  simp only [Try.ntmps38, List.size_toArray, List.length_cons, List.length_nil, Nat.reduceAdd, Nat.reduceSub, Array.replicate_succ, Array.replicate_zero, List.push_toArray, List.append_toArray, List.nil_append, List.cons_append]
  simp only [Fur.val]
  refine exec_seq (exec_region_o fun ds => ?_)
  gi_wp2
  refine eq_mk (((Keep.refl w).alloc _).alloc _) ?_
  show Exec _ _ _ _ _ _
  have b0 := Box3.new w 24 F.s0 F.s1 F.s2
  have hB0 := (Below.refl w.heap.size w).alloc (Nat.le_refl _) (.cells #[F.s0, F.s1, F.s2] 24)
  have hz0 : (w.alloc (.cells #[F.s0, F.s1, F.s2] 24)).heap.size = w.heap.size + 1 := by simp
  generalize w.alloc (.cells #[F.s0, F.s1, F.s2] 24) = V0 at *
  have b6 := Box3.new V0 24 (.slice none 0 0) (.slice none 0 0) (.slice none 0 0)
  have ha := (Below.refl V0.heap.size V0).alloc (Nat.le_refl _) (.cells #[.slice none 0 0, .slice none 0 0, .slice none 0 0] 24)
  have b1 : Box3 (V0.alloc (.cells #[.slice none 0 0, .slice none 0 0, .slice none 0 0] 24)) w.heap.size 24 F.s0 F.s1 F.s2 := (ha.block _ b0.lt).trans b0
  have hB := hB0.trans (ha.mono hB0.size)
  rw [hz0] at b6
  have hz1 : (V0.alloc (.cells #[.slice none 0 0, .slice none 0 0, .slice none 0 0] 24)).heap.size = w.heap.size + 1 + 1 := by simp [hz0]
  clear ha b0 hB0 hz0
  generalize V0.alloc (.cells #[.slice none 0 0, .slice none 0 0, .slice none 0 0] 24) = V at *
  have c0 := b1.cell0
  have c1 := b1.cell1
  have c2 := b1.cell2
  simp only [Fur.s0, Fur.s1, Fur.s2] at c0 c1 c2
  have b7 := Box3.new V 24 (.slice none 0 0) (.slice none 0 0) (.slice none 0 0)
  have k0 := b7.cell0
  have k1 := b7.cell1
  have k2 := b7.cell2
  have f0 := b7.frozen 0
  have f1 := b7.frozen 1
  have f2 := b7.frozen 2
  rw [hz1] at k0 k1 k2 f0 f1 f2
  simp only [Fur.s0, Fur.s1, Fur.s2]
  refine exec_seq (exec_region_o fun ds => ?_)
  gi_wp2
  refine eq_mk ((Keep.refl _).alloc _) ?_
  show Exec _ _ _ _ _ _
  clear b7 k0 k1 k2 f0 f1 f2 c0 c1 c2
  have b7 := Box3.new V 24 (.slice F.A0 F.l0.length F.c0) (.slice F.A1 F.l1.length F.c1) (.slice F.A2 F.l2.length F.c2)
  have hbv := (Below.refl V.heap.size V).alloc (Nat.le_refl _) (.cells #[.slice F.A0 F.l0.length F.c0, .slice F.A1 F.l1.length F.c1, .slice F.A2 F.l2.length F.c2] 24)
  rw [hz1] at b7
  have hz2 : (V.alloc (.cells #[.slice F.A0 F.l0.length F.c0, .slice F.A1 F.l1.length F.c1, .slice F.A2 F.l2.length F.c2] 24)).heap.size = w.heap.size + 1 + 1 + 1 := by simp [hz1]
  replace b1 : Box3 (V.alloc (.cells #[.slice F.A0 F.l0.length F.c0, .slice F.A1 F.l1.length F.c1, .slice F.A2 F.l2.length F.c2] 24)) w.heap.size 24 F.s0 F.s1 F.s2 := (hbv.block _ b1.lt).trans b1
  replace b6 : Box3 (V.alloc (.cells #[.slice F.A0 F.l0.length F.c0, .slice F.A1 F.l1.length F.c1, .slice F.A2 F.l2.length F.c2] 24)) (w.heap.size + 1) 24 (.slice none 0 0) (.slice none 0 0) (.slice none 0 0) := (hbv.block _ b6.lt).trans b6
  replace hB := hB.trans (hbv.mono hB.size)
  have hF := h.below hB
  clear hbv hz1
  generalize V.alloc (.cells #[.slice F.A0 F.l0.length F.c0, .slice F.A1 F.l1.length F.c1, .slice F.A2 F.l2.length F.c2] 24) = X at *
  clear V
  have c0 := b1.cell0
  simp only [Fur.s0] at c0
  have k0 := b7.cell0
  have f0 := b7.frozen 0
  obtain ⟨i0, hi0, hz⟩ : ∃ i0, Try.prog.info? 28 = some i0 ∧ (i0.zero, i0.size, i0.bytes) = (some (.agg #[(.int .i64 0), (.int .i64 0)]), 2, 16) := by
    have := info28
    cases h : Try.prog.info? 28 with
    | none => rw [h] at this; cases this
    | some i0 => rw [h] at this; exact ⟨i0, rfl, Option.some.inj this⟩
  simp only [Prod.mk.injEq] at hz
  obtain ⟨hz0, hz1, hz2'⟩ := hz
  refine exec_cut (fun t' W => F.At W ∧ Below w.heap.size w W ∧ (∃ v, Box3 W (w.heap.size + 1 + 1) 24 v (.slice F.A1 F.l1.length F.c1) (.slice F.A2 F.l2.length F.c2) ∧ W.ownsRow (w.heap.size + 1 + 1 + 1) 28 2 v F.l0.length (flat (F.l0.map toP))) ∧ Box3 W (w.heap.size + 1) 24 (.slice none 0 0) (.slice none 0 0) (.slice none 0 0) ∧
    Slots [none, some (.int .i64 s), some (.slice Ab bs.length cb), none, none, none, some (.pointer (some ⟨w.heap.size + 1, 0, none⟩)), some (.pointer (some ⟨w.heap.size + 1 + 1, 0, none⟩)), none, none, none, none, none, none, none, none, none, none, none, none, none, none, none, none, none, none, none, none, none, none, none, none, none, none, none, none, none, none, none, none, none, none, none, none, none, none, none, none, none] t') ?_ ?_
  · have fin : ∀ (Z : World) (v : Value), Below X.heap.size X Z → Z.ownsRow (w.heap.size + 1 + 1 + 1) 28 2 v F.l0.length (flat (F.l0.map toP)) →
        F.At (Z.setCell ⟨w.heap.size + 1 + 1, 0, none⟩ v) ∧ Below w.heap.size w (Z.setCell ⟨w.heap.size + 1 + 1, 0, none⟩ v) ∧ (∃ v', Box3 (Z.setCell ⟨w.heap.size + 1 + 1, 0, none⟩ v) (w.heap.size + 1 + 1) 24 v' (.slice F.A1 F.l1.length F.c1) (.slice F.A2 F.l2.length F.c2) ∧ (Z.setCell ⟨w.heap.size + 1 + 1, 0, none⟩ v).ownsRow (w.heap.size + 1 + 1 + 1) 28 2 v' F.l0.length (flat (F.l0.map toP))) ∧ Box3 (Z.setCell ⟨w.heap.size + 1 + 1, 0, none⟩ v) (w.heap.size + 1) 24 (.slice none 0 0) (.slice none 0 0) (.slice none 0 0) := by
      intro Z v hZ hown
      have hBZ : Below w.heap.size w (Z.setCell ⟨w.heap.size + 1 + 1, 0, none⟩ v) := (hB.trans (hZ.mono hB.size)).setCell (by show _ ≤ w.heap.size + 1 + 1; omega) v
      have b7' : Box3 Z (w.heap.size + 1 + 1) 24 (.slice F.A0 F.l0.length F.c0) (.slice F.A1 F.l1.length F.c1) (.slice F.A2 F.l2.length F.c2) := (hZ.block _ b7.lt).trans b7
      have b6' : Box3 Z (w.heap.size + 1) 24 (.slice none 0 0) (.slice none 0 0) (.slice none 0 0) := (hZ.block _ b6.lt).trans b6
      exact ⟨h.below hBZ, hBZ, ⟨v, heap_setCell_same Z (w.heap.size + 1 + 1) 0 _ 24 v b7', own_far hown fun k hk => by have := (hown.lt k hk).1; show k ≠ w.heap.size + 1 + 1; omega⟩, (Below.heap_setCell Z _ v _ (by show w.heap.size + 1 ≠ w.heap.size + 1 + 1; omega)).trans b6'⟩
    cases hA : F.A0 with
    | none =>
      have hn1 : F.l0 = [] := by
        rcases Nat.eq_zero_or_pos F.l0.length with e | e
        · exact List.length_eq_zero_iff.1 e
        · obtain ⟨ad, ha, _⟩ := at_T28 hF.r0 0 (by omega) (by omega)
          rw [hA] at ha
          cases ha
      have hn0 : F.l0.length = 0 := by rw [hn1]; rfl
      rw [hA, hn0] at c0 k0
      rw [hn0]
      refine exec_region_o fun ds => ?_
      gi_wp2
      have hown : (X.alloc (.cells #[] 28)).ownsRow (w.heap.size + 1 + 1 + 1) 28 2 (.slice (some ⟨X.heap.size, 0, none⟩) 0 0) F.l0.length (flat (F.l0.map toP)) := by
        rw [hn1]
        exact World.ownsRow_made X #[] 0 (by omega) (by unfold maxLen; omega) rfl
      obtain ⟨q1, q2, q3, q4⟩ := fin _ _ ((Below.refl X.heap.size X).alloc (Nat.le_refl _) _) hown
      rw [hn1] at q3
      rw [hz2] at q1 q2 q3 q4
      have hcm : (X.alloc (.cells #[] 28)).setCell ⟨w.heap.size + 1 + 1, 0, none⟩ (.slice (some ⟨w.heap.size + 1 + 1 + 1, 0, none⟩) 0 0) = (X.setCell ⟨w.heap.size + 1 + 1, 0, none⟩ (.slice (some ⟨w.heap.size + 1 + 1 + 1, 0, none⟩) 0 0)).alloc (.cells #[] 28) := by
        have : w.heap.size + 1 + 1 < X.heap.size := by omega
        simp [go_sem, this]
      rw [hcm] at q1 q2 q3 q4
      exact eq_mk (((Keep.refl _).setCell _ _).alloc _) ⟨q1, q2, q3, q4, (by simp only [Slots, Fits, and_self])⟩
    | some ad =>
      rw [hA] at c0 k0
      have hsrc : ∀ j u, (flat (F.l0.map toP))[j]? = some u → (X.alloc (.cells #[] 28)).cell? (ad.add j) = some u := by
        intro j u hj
        have hjl : j < F.l0.length * 2 := by
          have := (List.getElem?_eq_some_iff.1 hj).1
          rw [flat_len, List.length_map] at this
          exact this
        have hi : j / 2 < F.l0.length := by omega
        obtain ⟨ad', hA', d0, d1⟩ := at_T28 hF.r0 ((j / 2 : Nat) : Int) (by omega) (by omega)
        rw [hA] at hA'
        cases hA'
        rw [Int.toNat_natCast] at d0 d1
        have hg := flat_get (F.l0.map toP) (j / 2) (by simpa using hi)
        have hrd : rd_T28 F.l0 ((j / 2 : Nat) : Int) = F.l0[j / 2]'hi := by
          generalize j / 2 = i at hi ⊢
          simp [rd_T28, hi]
        rw [hrd] at d0 d1
        refine (Grow.alloc 0 X (.cells #[] 28)).cell ?_
        rcases (show j = j / 2 * 2 ∨ j = j / 2 * 2 + 1 by omega) with hh | hh
        · have h1 := hg.1
          rw [← hh, hj] at h1
          rw [← hh] at d0
          rw [d0, h1]
          simp [toP]
        · have h1 := hg.2
          rw [← hh, hj] at h1
          rw [← add_field _ _ 1 (by omega), ← hh] at d1
          rw [d1, h1]
          simp [toP]
      have hown : (X.alloc (.cells #[] 28)).ownsRow (w.heap.size + 1 + 1 + 1) 28 2 (.slice (some ⟨w.heap.size + 1 + 1 + 1, 0, none⟩) 0 0) 0 [] := by
        have := World.ownsRow_made (base := w.heap.size + 1 + 1 + 1) (e := 28) (size := 2) X #[] 0 (by omega) (by unfold maxLen; omega) rfl
        rw [hz2] at this
        exact this
      have k0' := (Grow.alloc 0 X (.cells #[] 28)).cell k0
      have hfl : (flat (F.l0.map toP)).length = F.l0.length * 2 := by rw [flat_len, List.length_map]
      refine exec_region_o fun ds => ?_
      gi_wp2_with (gi_at_builtin; refine wpListIn_append_own _ rfl _ _ 22 rfl (w.heap.size + 1 + 1 + 1) 28 i0 (.agg #[.int .i64 0, .int .i64 0]) 2 16 Try.underlying22 hi0 hz0 hz1 hz2' rfl (by decide) (.slice (some ⟨w.heap.size + 1 + 1 + 1, 0, none⟩) 0 0) 0 [] rfl hown ad F.l0.length F.c0 (flat (F.l0.map toP)) rfl hfl hsrc (flat_one _) (by unfold maxLen; omega) (by omega) (by simp; omega) ?_; intro v' w' hown2 hgr _; obtain ⟨A', c', rfl⟩ := own_slice hown2; have b7w : Box3 w' (w.heap.size + 1 + 1) 24 (.slice (some ad) F.l0.length F.c0) (.slice F.A1 F.l1.length F.c1) (.slice F.A2 F.l2.length F.c2) := (hgr.block _ (by simp; omega) (fun e => by simp only [Value.ownBlock, Option.some.injEq] at e; omega)).trans ((Grow.alloc 0 X (.cells #[] 28)).same _ _ (by rw [← hA]; exact b7) (.inr rfl)); have kk := b7w.cell0; have ff := b7w.frozen 0)
      have hB3 : Below X.heap.size X w' := ((Below.refl _ X).alloc (Nat.le_refl _) (.cells #[] 28)).grown hgr (by simp) (fun q e => by simp only [Value.ownBlock, Option.some.injEq] at e; omega)
      rw [Nat.zero_add, List.nil_append] at hown2
      obtain ⟨q1, q2, q3, q4⟩ := fin _ _ hB3 hown2
      have hK := ((Keep.refl X).alloc (.cells #[] 28)).grown hgr (fun j o hv ho => by
        simp only [Value.ownBlock, Option.some.injEq] at hv
        subst hv
        rw [← hz2, World.alloc_heap_new] at ho
        cases ho
        rfl)
      exact eq_mk (hK.setCell _ _) ⟨q1, q2, q3, q4, (by simp only [Slots, Fits, and_self])⟩
  clear b7 b1 b6 hB hF c0 k0 f0 hz2 hz0 hz1 hz2' hi0
  clear i0 X
  rintro t' W ⟨hF, hB, ⟨v, b7, hown⟩, b6, hSl⟩
  obtain ⟨x, hx⟩ := Slots.open_ hSl; simp only [fill, Nat.reduceAdd] at hx; subst hx; clear hSl
  obtain ⟨A7, c7, rfl⟩ := own_slice hown
  have k0 := b7.cell0
  refine exec_seq (exec_seq (exec_region_o fun ds => ?_))
  gi_wp2
  refine eq_mk (Keep.refl _) ?_
  show Exec _ _ _ _ _ _
  clear k0
  refine exec_block ?_
  refine exec_loop (FkI F s Ab cb bs w) F.l0.length ⟨0, by omega, by omega, hF, hB, ⟨_, b7, by rw [ptL_zero]; exact hown⟩, b6, by simp only [Slots, Fits, and_self]; simp⟩ ?_
  clear hF hB b7 hown b6 x
  clear W
  rintro j t W ⟨k, hk, hj, hF, hB, ⟨v, b7, hown⟩, b6, hSl⟩
  obtain ⟨x, hx⟩ := Slots.open_ hSl; simp only [fill, Nat.reduceAdd] at hx; subst hx; clear hSl
  refine exec_seq (exec_region_o fun ds => ?_)
  gi_wp2
  refine eq_mk (Keep.refl _) ?_
  show Exec _ _ _ _ _ _
  refine exec_seq (exec_cond (b := decide (k < F.l0.length)) rfl (fun hp => ?_) (fun hp => ?_))
  · have hkl : k < F.l0.length := of_decide_eq_true hp
    refine exec_skip ?_
    show Exec _ _ _ _ _ _
    have hbit : bits .and .i64 ((s : Int) / 2 ^ k) 1 = ((s / 2 ^ k % 2 : Nat) : Int) := andb_is s k hs (by omega)
    refine exec_cut (FkM F s Ab cb bs w k) ?_ ?_
    · refine exec_block (exec_seq (exec_region_o fun ds => ?_))
      gi_wp2
      refine eq_mk (Keep.refl _) ?_
      show Exec _ _ _ _ _ _
      refine exec_seq (exec_region_o fun ds => ?_)
      gi_wp2
      refine eq_mk (Keep.refl _) ?_
      show Exec _ _ _ _ _ _
      have hbv : ∀ z : Nat, (((z : Nat) : Int) == 1) = decide (z = 1) := fun z => by rw [Bool.eq_iff_iff]; simp; omega
      have hbv2 : ∀ z : Nat, decide (((z : Nat) : Int) = 1) = decide (z = 1) := fun z => by rw [Bool.eq_iff_iff]; simp; omega
      refine exec_cond (b := decide (s / 2 ^ k % 2 = 1)) (by first | rfl | exact congrArg Value.bool (hbv _) | exact congrArg Value.bool (hbv2 _) | (show Value.bool (bits .and .i64 ((s : Int) / 2 ^ k) 1 == 1) = _; rw [hbit]; exact congrArg Value.bool (hbv _))) (fun hq => ?_) (fun hq => exec_skip ?_)
      · refine exec_seq (exec_region_o fun ds => ?_)
        gi_wp2
        refine eq_mk (Keep.refl _) ?_
        show Exec _ _ _ _ _ _
        refine exec_cut (fun t' W' => W' = W ∧ Slots [none, some (.int .i64 s), some (.slice Ab bs.length cb), none, none, none, some (.pointer (some ⟨w.heap.size + 1, 0, none⟩)), some (.pointer (some ⟨w.heap.size + 1 + 1, 0, none⟩)), some (.int .i64 k), some (.int .i64 (ptOf bs k)), none, none, none, none, none, none, none, none, some (.int .i64 F.l0.length), some (.int .i64 k), none, none, none, none, none, none, none, none, none, none, none, none, none, none, none, none, none, none, none, none, none, none, none, none, none, none, none, none, none] t') ?_ ?_
        · refine exec_seq (exec_region_o fun ds => ?_)
          gi_wp2
          refine eq_mk (Keep.refl _) ?_
          show Exec _ _ _ _ _ _
          refine exec_cond (b := decide (0 < bs.length)) (by first | rfl | (show Value.bool _ = _; simp)) (fun hq2 => ?_) (fun hq2 => exec_skip ?_)
          · have hpos : 0 < bs.length := of_decide_eq_true hq2
            have hbW := hby.below hB
            have hbl : bs.length ≤ 9223372036854775807 := hbW.2.1
            have hm : k % bs.length < bs.length := Nat.mod_lt _ hpos
            obtain ⟨ab, hab, hcb⟩ := ReadsInt.at_ hbW ((k % bs.length : Nat) : Int) (by omega) (by omega)
            rw [Int.toNat_natCast] at hcb
            have hrb : rd bs ((k % bs.length : Nat) : Int) = bs.getD (k % bs.length) 0 := by unfold rd; rw [Int.toNat_natCast]
            rw [hrb] at hcb
            have hbv2 : 0 ≤ bs.getD (k % bs.length) 0 ∧ bs.getD (k % bs.length) 0 ≤ 255 := by
              rw [List.getD_eq_getElem?_getD, List.getElem?_eq_getElem hm]
              exact hbs _ (List.getElem_mem hm)
            have hpt : ptOf bs k = bs.getD (k % bs.length) 0 % 25 - 12 := by unfold ptOf; rw [if_neg (by omega)]
            obtain ⟨u, hu⟩ : ∃ u, bs.getD (k % bs.length) 0 = u := ⟨_, rfl⟩
            rw [hu] at hcb hbv2 hpt
            rw [hpt]
            have hne : bs ≠ [] := fun e => by rw [e] at hpos; cases hpos
            have e1 : Int.tmod (k : Int) (bs.length : Int) = ((k % bs.length : Nat) : Int) := by rw [Int.tmod_eq_emod_of_nonneg (by omega)]; norm_cast
            generalize k % bs.length = m at *
            have e2 : IntKind.i64.wrap u = u := IntWalk.i64_in _ (by omega)
            have e3 : Int.tmod u 25 = u % 25 := Int.tmod_eq_emod_of_nonneg hbv2.1
            have e4 : IntKind.i64.wrap (u % 25 - 12) = u % 25 - 12 := IntWalk.i64_in _ (by omega)
            rw [hab]
            have hu52 := Try.underlying52
            refine exec_region_o fun ds => ?_
            gi_wp2
            exact eq_mk (Keep.refl _) ⟨rfl, (by simp only [Slots, Fits, and_self])⟩
          · have h0 : bs.length = 0 := by have := of_decide_eq_false hq2; omega
            have hpt : ptOf bs k = 0 := by unfold ptOf; rw [if_pos h0]
            show _ ∧ _
            rw [hpt]
            exact ⟨rfl, (by simp only [Slots, Fits, and_self])⟩
        · clear x
          rintro t' W' ⟨rfl, hSl⟩
          obtain ⟨x, hx⟩ := Slots.open_ hSl; simp only [fill, Nat.reduceAdd] at hx; subst hx; clear hSl
          have hu22 := Try.underlying22
          have hu28 := Try.underlying28
          obtain ⟨g, c7', rfl⟩ : ∃ g c, v = .slice (some ⟨g, 0, none⟩) F.l0.length c := by
            rcases hown.2 with ⟨rfl, hn⟩ | ⟨g, cap, cur, rfl, _⟩
            · omega
            · exact ⟨_, _, rfl⟩
          have hg0 := (hown.lt g rfl).1
          have hga : (⟨g, 0, none⟩ : Addr).add (k * 2) = ⟨g, k * 2, none⟩ := by
            unfold Addr.add
            split
            · rename_i h; rw [h]
            · simp
          obtain ⟨p, hp9⟩ : ∃ p, ptOf bs k = p := ⟨_, rfl⟩
          rw [hp9]
          have hb7 := b7
          have S1 : ∀ Z, Below (w.heap.size + 1 + 1 + 1) W' Z → Z.cell? ⟨w.heap.size + 1 + 1, 0, none⟩ = some (.slice (some ⟨g, 0, none⟩) F.l0.length c7') := fun Z hZ => Box3.cell0 ((hZ.block _ (by omega)).trans b7)
          obtain ⟨l, hl⟩ : ∃ l, (ptL F.l0 s bs k).map toP = l := ⟨_, rfl⟩
          rw [hl] at hown
          have hlen : l.length = F.l0.length := by rw [← hl, List.length_map, ptL_len]
          have hx0 := (flat_get l k (by omega)).1
          have hx1 := (flat_get l k (by omega)).2
          have hKW : Keep W' W'.drew := (Keep.refl W').drew
          have hS : Below (w.heap.size + 1 + 1 + 1) W' W'.drew := (Below.refl _ W').drew
          replace hown := hown.drew
          refine region_tree (c := (sub (Try.f38.body.getD .skip) [1, 1, 1, 0, 1, 0, 0, 1, 1, 0, 0, 1, 1, 0, 1, 1])) (id := 10) (.one 0 true (.one 1 true (.one 2 true (.one 3 true (.one 4 false (.one 5 false (.one 6 false (.one 7 false (.nil))))))))) (Opq (regOps (sub (Try.f38.body.getD .skip) [1, 1, 1, 0, 1, 0, 0, 1, 1, 0, 0, 1, 1, 0, 1, 1]))) rfl (by kernel_rfl) (by kernel_rfl) (by kernel_rfl) (by kernel_rfl) (by kernel_rfl) (by kernel_rfl) [0, 1, 0, 0, 0, 24, 63, 127] (by kernel_rfl) (by kernel_rfl) (fun W2 => Below (w.heap.size + 1 + 1 + 1) W' W2) (fun _ _ _ => False) (fun _ _ _ h => h.elim) (fun _ _ _ _ _ _ _ _ h => h.elim) fun ds Q' hQn hQp => ?_
          generalize W'.drew = Z0 at *
          refine tr_take ⟨(Op.fieldAddr 24 (Operand.tmp 7) 0), some 40, 0, true, none⟩ (.pointer (some ⟨w.heap.size + 1 + 1, 0, none⟩)) (by kernel_rfl) rfl (by first | exact rfl | trivial) (fun wq hq => ?_) hS ?_; (focus (simp [go_sem, mkO]; done)); simp only [Act.put, Array.getInternal_eq_getElem, List.getElem_toArray, List.getElem_cons_succ, List.getElem_cons_zero, List.setIfInBounds_toArray, List.set_cons_succ, List.set_cons_zero]
          refine tr_take ⟨(Op.load 22 (Operand.tmp 40)), some 41, 22, true, none⟩ (.slice (some ⟨g, 0, none⟩) F.l0.length c7') (by kernel_rfl) rfl (by first | exact rfl | trivial) (fun wq hq => ?_) hS ?_; (focus (simp [go_sem, mkO, S1 wq hq]; done)); simp only [Act.put, Array.getInternal_eq_getElem, List.getElem_toArray, List.getElem_cons_succ, List.getElem_cons_zero, List.setIfInBounds_toArray, List.set_cons_succ, List.set_cons_zero]
          refine tr_take ⟨(Op.move (Operand.tmp 8)), some 42, 3, true, none⟩ (.int .i64 k) (by kernel_rfl) rfl (by first | exact rfl | trivial) (fun wq hq => ?_) hS ?_; (focus (exact rfl)); simp only [Act.put, Array.getInternal_eq_getElem, List.getElem_toArray, List.getElem_cons_succ, List.getElem_cons_zero, List.setIfInBounds_toArray, List.set_cons_succ, List.set_cons_zero]
          refine tr_take ⟨(Op.move (Operand.tmp 9)), some 43, 3, true, none⟩ (.int .i64 p) (by kernel_rfl) rfl (by first | exact rfl | trivial) (fun wq hq => ?_) hS ?_; (focus (exact rfl)); simp only [Act.put, Array.getInternal_eq_getElem, List.getElem_toArray, List.getElem_cons_succ, List.getElem_cons_zero, List.setIfInBounds_toArray, List.set_cons_succ, List.set_cons_zero]
          refine tr_make ⟨(Op.move (Operand.tmp 9)), some 44, 3, false, none⟩ (.int .i64 p) _ (by kernel_rfl) rfl (by first | exact rfl | trivial) ?_ hS ?_; (focus (exact rfl)); simp only [Act.put, Array.getInternal_eq_getElem, List.getElem_toArray, List.getElem_cons_succ, List.getElem_cons_zero, List.setIfInBounds_toArray, List.set_cons_succ, List.set_cons_zero]
          refine tr_call ⟨(Op.call { callee := (Callee.value (Operand.func 31)), args := #[(Operand.tmp 43), (Operand.tmp 44)], argTypes := #[3, 3] }), some 45, 28, false, none⟩ (f := 31) (args := #[.int .i64 p, .int .i64 p]) (by kernel_rfl) rfl (by first | exact rfl | trivial) (by simp [go_sem, mkO]) ?_
          refine (span_c p p _).mono ?_
          rintro e2 Z ⟨rfl, hz⟩
          replace hKW := hKW.trans (Keep.of_below hz)
          replace hS := hS.trans (hz.mono (by have := hS.size; have := hb7.lt; omega))
          replace hown := own_grow hown (Grow.of_below (B := 0) hz)
          refine .inl ⟨_, rfl, hS, ?_⟩
          simp only [Act.put, Array.getInternal_eq_getElem, List.getElem_toArray, List.getElem_cons_succ, List.getElem_cons_zero, List.setIfInBounds_toArray, List.set_cons_succ, List.set_cons_zero]
          clear hz
          refine tr_make ⟨(Op.indexAddr 22 (Operand.tmp 41) (Operand.tmp 42)), some 46, 0, false, none⟩ (.pointer (some ⟨g, k * 2, none⟩)) _ (by kernel_rfl) rfl (by first | exact rfl | trivial) ?_ hS ?_; (focus (simp [go_sem, mkO, hu22, hkl, hga]; done)); simp only [Act.put, Array.getInternal_eq_getElem, List.getElem_toArray, List.getElem_cons_succ, List.getElem_cons_zero, List.setIfInBounds_toArray, List.set_cons_succ, List.set_cons_zero]
          have cg0 := hown.cellAt (k * 2) (by omega)
          have cg1 := hown.cellAt (k * 2 + 1) (by omega)
          have cf0 := hown.frozenAt (k * 2)
          have cf1 := hown.frozenAt (k * 2 + 1)
          rw [hx0] at cg0
          rw [hx1] at cg1
          obtain ⟨hn1, hn2⟩ := own28_set hlen hown k hkl (p, p)
          refine tr_store ⟨(Op.store 28 (Operand.tmp 46) (Operand.tmp 45)), none, 0, false, none⟩ ((Z.setCell ⟨g, k * 2, none⟩ (.int .i64 p)).setCell ⟨g, k * 2 + 1, none⟩ (.int .i64 p)) (by kernel_rfl) rfl (by first | exact rfl | trivial) (by simp [go_sem, mkO, hu28, cg0, cg1, cf0, cf1]) ((hS.setCell (by exact hg0) _).setCell (by exact hg0) _) ?_; simp only [Act.put, Array.getInternal_eq_getElem, List.getElem_toArray, List.getElem_cons_succ, List.getElem_cons_zero, List.setIfInBounds_toArray, List.set_cons_succ, List.set_cons_zero]
          refine hQn _ _ ((hKW.setCell _ _).setCell _ _) ?_
          have hSY := (hS.setCell (p := ⟨g, k * 2, none⟩) (by exact hg0) (.int .i64 p)).setCell (p := ⟨g, k * 2 + 1, none⟩) (by exact hg0) (.int .i64 p)
          have hBY := hB.trans (hSY.mono (by omega))
          have hps : l.set k (p, p) = (ptL F.l0 s bs (k + 1)).map toP := by rw [← hl, ← ptL_set F.l0 s bs k hkl, List.map_set]; congr 1; unfold ptX; rw [if_pos (of_decide_eq_true hq), hp9]; rfl
          rw [hps] at hn1
          show FkM F s Ab cb bs w k _ _
          exact ⟨h.below hBY, hBY, ⟨_, (hSY.block _ (by omega)).trans b7, hn1⟩, (hSY.block _ (by omega)).trans b6, (by simp only [Slots, Fits, and_self])⟩
      · show FkM F s Ab cb bs w k _ _
        exact ⟨hF, hB, ⟨v, b7, by rw [← ptL_same F.l0 s bs k hkl (of_decide_eq_false hq)]; exact hown⟩, b6, (by simp only [Slots, Fits, and_self])⟩
    · clear hF hB b7 hown b6
      rintro t' W' ⟨hF, hB, ⟨v, b7, hown⟩, b6, hSl⟩
      obtain ⟨x, hx⟩ := Slots.open_ hSl; simp only [fill, Nat.reduceAdd] at hx; subst hx; clear hSl
      refine exec_region_o fun ds => ?_
      gi_wp2
      exact eq_mk (Keep.refl _) ⟨j - 1, by omega, k + 1, by omega, by omega, hF, hB, ⟨v, b7, hown⟩, b6, by simp only [Slots, Fits, and_self]; simp⟩
  · have hkl : k = F.l0.length := by have := of_decide_eq_false hp; omega
    subst hkl
    refine exec_exit ?_
    show Exec _ _ _ _ _ _
    obtain ⟨A7, c7', hv7, hc7, hR⟩ := Kd.R_reads (own_R28k (l := ptL F.l0 s bs F.l0.length) (by rw [ptL_len]; exact hown))
    rw [ptL_len] at hv7 hc7
    subst hv7
    have k0 := b7.cell0
    have k1 := b7.cell1
    have k2 := b7.cell2
    have m0 := b6.cell0
    have m1 := b6.cell1
    have m2 := b6.cell2
    have f0 := b6.frozen 0
    have f1 := b6.frozen 1
    have f2 := b6.frozen 2
    refine exec_seq (exec_region_o fun ds => ?_)
    gi_wp2
    refine eq_mk ((((Keep.refl W).setCell _ _).setCell _ _).setCell _ _) ?_
    show Exec _ _ _ _ _ _
    have a1 := heap_setCell_same W (w.heap.size + 1) 0 _ 24 (.slice A7 F.l0.length c7') b6
    have a2 := heap_setCell_same _ (w.heap.size + 1) 1 _ 24 (.slice F.A1 F.l1.length F.c1) a1
    have a3 := heap_setCell_same _ (w.heap.size + 1) 2 _ 24 (.slice F.A2 F.l2.length F.c2) a2
    have hfar : ∀ k, (Value.slice A7 F.l0.length c7').ownBlock = some k → k ≠ w.heap.size + 1 := fun k hk => by have := (hown.lt k hk).1; omega
    have o1 := own_far (p := ⟨w.heap.size + 1, 0, none⟩) (u := .slice A7 F.l0.length c7') hown hfar
    have o2 := own_far (p := ⟨w.heap.size + 1, 1, none⟩) (u := .slice F.A1 F.l1.length F.c1) o1 hfar
    have o3 := own_far (p := ⟨w.heap.size + 1, 2, none⟩) (u := .slice F.A2 F.l2.length F.c2) o2 hfar
    have hBY := ((hB.setCell (p := ⟨w.heap.size + 1, 0, none⟩) (by show _ ≤ w.heap.size + 1; omega) (.slice A7 F.l0.length c7')).setCell (p := ⟨w.heap.size + 1, 1, none⟩) (by show _ ≤ w.heap.size + 1; omega) (.slice F.A1 F.l1.length F.c1)).setCell (p := ⟨w.heap.size + 1, 2, none⟩) (by show _ ≤ w.heap.size + 1; omega) (.slice F.A2 F.l2.length F.c2)
    clear k0 k1 k2 m0 m1 m2 f0 f1 f2 a1 a2 o1 o2 b7 b6 hR hown hB hF
    generalize ((W.setCell ⟨w.heap.size + 1, 0, none⟩ (.slice A7 F.l0.length c7')).setCell ⟨w.heap.size + 1, 1, none⟩ (.slice F.A1 F.l1.length F.c1)).setCell ⟨w.heap.size + 1, 2, none⟩ (.slice F.A2 F.l2.length F.c2) = Y at *
    have a3' : Box3 Y (w.heap.size + 1) 24 (.slice A7 F.l0.length c7') (.slice F.A1 F.l1.length F.c1) (.slice F.A2 F.l2.length F.c2) := a3
    refine exec_ret ⟨.inr rfl, fun W' hG => ?_⟩
    have hBW := hBY.trans (hG.below (Nat.le_refl _) hBY.size)
    have q := a3'.grow hG
    have q0 := q.cell0
    have q1 := q.cell1
    have q2 := q.cell2
    have hFW := h.below hBW
    obtain ⟨A8, c8, hv8, hc8, hR⟩ := Kd.R_reads (own_R28k (l := ptL F.l0 s bs F.l0.length) (by rw [ptL_len]; exact own_grow o3 hG))
    rw [ptL_len] at hv8 hc8
    simp only [Value.slice.injEq, true_and] at hv8
    obtain ⟨rfl, rfl⟩ := hv8
    refine ⟨.agg #[.slice A7 F.l0.length c7', .slice F.A1 F.l1.length F.c1, .slice F.A2 F.l2.length F.c2], by simp [results, Try.f38, go_sem, q0, q1, q2], ⟨⟨A7, c7', ptL F.l0 s bs F.l0.length, F.A1, F.c1, F.l1, F.A2, F.c2, F.l2⟩, ⟨hR, by rw [ptL_len]; exact hc8, hFW.r1, hFW.h1, hFW.r2, hFW.h2⟩, by simp [Fur.s0, Fur.s1, Fur.s2, ptL_len], rfl, rfl, rfl⟩, hBW⟩
end Go.Proofs.Ytafmgmaelnpehaa
end

section
set_option linter.unusedVariables false
set_option linter.unusedSimpArgs false
namespace Go.Proofs.Ytafmgmaelnpehaa
open Go.RowKit Go.TL Go.Fu
open PFurrowAsks Go.Proofs.YtafmgmaelnpehaaW.PrintWords
theorem pt_in {bs : List Int} (hbs : ∀ b ∈ bs, 0 ≤ b ∧ b ≤ 255) (i : Nat) : -12 ≤ ptOf bs i ∧ ptOf bs i ≤ 12 := by
  unfold ptOf
  split
  · omega
  · have := Int.emod_nonneg (bs.getD (i % bs.length) 0) (show (25 : Int) ≠ 0 by omega)
    have := Int.emod_lt_of_pos (bs.getD (i % bs.length) 0) (show (0 : Int) < 25 by omega)
    omega
theorem pts_get (l : List S28) (s : Nat) (bs : List Int) (i : Nat) (h : i < l.length) : ((ptL l s bs l.length).map toP).getD i (0, 0) = if s / 2 ^ i % 2 = 1 then (ptOf bs i, ptOf bs i) else (l.map toP).getD i (0, 0) := by
  have e1 : ((ptL l s bs l.length).map toP).getD i (0, 0) = toP (ptX l s bs i) := by simp [ptL, List.getD_eq_getElem?_getD, h]
  rw [e1]
  unfold ptX
  split
  · rfl
  · simp [rd_T28, List.getD_eq_getElem?_getD, h]
theorem pts_ok {l : List S28} (hok : ∀ x ∈ l.map toP, ok12 x) {bs : List Int} (hbs : ∀ b ∈ bs, 0 ≤ b ∧ b ≤ 255) (s : Nat) : ∀ x ∈ (ptL l s bs l.length).map toP, ok12 x := by
  intro x hx
  obtain ⟨i, hi, rfl⟩ := List.getElem_of_mem hx
  have hi' : i < l.length := by rw [List.length_map, ptL_len] at hi; exact hi
  have e : ((ptL l s bs l.length).map toP)[i]'hi = ((ptL l s bs l.length).map toP).getD i (0, 0) := by rw [List.getD_eq_getElem?_getD, List.getElem?_eq_getElem hi]; rfl
  rw [e, pts_get _ _ _ _ hi']
  split
  · have := pt_in hbs i
    exact ⟨this.1, Int.le_refl _, this.2, by show ptOf bs i - ptOf bs i ≤ 6; omega⟩
  · exact hok _ (getD_mem _ i (by simpa using hi'))
theorem pts_can {l : List S28} (hok : ∀ x ∈ l.map toP, ok12 x) {bs : List Int} (hbs : ∀ b ∈ bs, 0 ≤ b ∧ b ≤ 255) (s : Nat) {p : Int → Int → Bool} (h : canB ((ptL l s bs l.length).map toP) p = true) : canB (freeS s (l.map toP)) p = true := by
  refine canB_sub (freeS_ok _ _ fun x hx => (hok x hx).ok) (fun x hx => (pts_ok hok hbs s x hx).ok) (by rw [freeS_len, List.length_map, ptL_len, List.length_map]) (fun i hi => ?_) h
  rw [freeS_len, List.length_map] at hi
  rw [freeS_get _ _ _ (by simpa using hi), pts_get _ _ _ _ hi]
  have := pt_in hbs i
  split
  · exact this
  · exact ⟨Int.le_refl _, Int.le_refl _⟩
theorem pts_valid {l0 l1 l2 : List S28} (h : valid l0 l1 l2 = true) {bs : List Int} (hbs : ∀ b ∈ bs, 0 ≤ b ∧ b ≤ 255) (s : Nat) : valid (ptL l0 s bs l0.length) l1 l2 = true := by
  obtain ⟨h1, h2, h3, h4⟩ := valid_lens h
  unfold valid
  simp only [Bool.and_eq_true, decide_eq_true_eq, ptL_len]
  refine ⟨⟨⟨h1, h2⟩, h3⟩, (stsOk_all _ _ _ _ _).2 fun j _ hj => ?_⟩
  have hj' : j < l0.length := by omega
  have hs := h4 j hj'
  have e : rd_T28 (ptL l0 s bs l0.length) j = ptX l0 s bs j := by simp [rd_T28, ptL, hj']
  rw [e]
  unfold ptX
  split
  · have hp := pt_in hbs j
    unfold stOk at hs ⊢
    simp only [Bool.and_eq_true, decide_eq_true_eq] at hs ⊢
    exact ⟨⟨⟨⟨hp.1, Int.le_refl _, hp.2⟩, by omega⟩, hs.1.2⟩, hs.2⟩
  · exact hs
end Go.Proofs.Ytafmgmaelnpehaa
end

section
set_option linter.unusedVariables false
set_option linter.unusedSimpArgs false
namespace Go.Proofs.Ytafmgmaelnpehaa
open Go.RowKit Go.TL Go.Shelf Go.Fu
open PFurrowAsks Go.Proofs.YtafmgmaelnpehaaW.PrintWords
theorem refFurrow_c (F : Fur) (w : World) (h : F.At w) : Calls Try.prog 36 #[F.val] w fun e w' => e = .returned (.bool F.va) ∧ Below w.heap.size w w' :=
  furrowworksref04_Furrow.calls 20 F.A0 F.c0 F.l0 F.A1 F.c1 F.l1 F.A2 F.c2 F.l2 _ w h.r0 h.h0 h.r1 h.h1 h.r2 h.h2 (refFurrow_is _ _ _)
theorem most_c {A : Option Addr} {c : Nat} {l : List Int} {w : World} (hr : RowI w A l) (hc : l.length ≤ c) (hl : l.length ≤ 100) (hb : ∀ x ∈ l, -1000 ≤ x ∧ x ≤ 1000) :
    Calls Try.prog 33 #[.slice A l.length c] w fun e w' => e = .returned (.int .i64 (mostF (fnOf l) (l.length - 2))) ∧ Below w.heap.size w w' := by
  obtain ⟨k, hk⟩ := most_is l hl hb
  exact furrowworksref04_Most.calls k A c l _ w hr hc hk
theorem bent_c {A : Option Addr} {c : Nat} {l : List Int} {w : World} (hr : RowI w A l) (hc : l.length ≤ c) (hl : l.length ≤ 100) (hb : ∀ x ∈ l, -1000 ≤ x ∧ x ≤ 1000) {n : Nat} (h1 : 1 ≤ n) (h2 : n + 1 < l.length) :
    Calls Try.prog 35 #[.slice A l.length c, .int .i64 n] w fun e w' => e = .returned (.int .i64 (bnd (fnOf l) n)) ∧ Below w.heap.size w w' :=
  furrowworksref04_Bent.calls A c l n _ w hr hc (bent_is l n hl h1 h2 hb)
theorem inside_c (n a b : Int) (w : World) : Calls Try.prog 34 #[.int .i64 n, .agg #[.int .i64 a, .int .i64 b]] w fun e w' => e = .returned (.bool (decide (a ≤ n) && decide (n ≤ b))) ∧ Below w.heap.size w w' :=
  furrowworkslaw04_inside.calls n a b _ w (inside_is n a b)
theorem size_c (s : Nat) (hs : s < 256) (w : World) : Calls Try.prog 37 #[.int .i64 s] w fun e w' => e = .returned (.int .i64 ((ones 8 s : Nat) : Int)) ∧ Below w.heap.size w w' := by
  obtain ⟨k, hk⟩ := (size_ev s hs).rounds
  exact (furrowworksref04_Size.calls k s _ w hk).mono fun e w' ⟨a, b⟩ => ⟨a, b.below⟩
/-! ### The stations that bend most -/
theorem worstS_pos {l : List (Int × Int)} {n : Nat} (h : worstS l n = true) : 1 ≤ n := by
  unfold worstS at h
  simp only [Bool.and_eq_true, decide_eq_true_eq] at h
  exact h.1
theorem worstC_pos {l : List (Int × Int)} {n : Nat} (h : worstC l n = true) : 1 ≤ n := by
  unfold worstC at h
  simp only [Bool.and_eq_true, decide_eq_true_eq] at h
  exact h.1
theorem worst_sub {l : List (Int × Int)} (hok : ∀ x ∈ l, okSpan x) {i : Nat} (h : worstS l i = true) (h2 : i + 1 < l.length) : worstC l i = true :=
  (worstC_iff l i (worstS_pos h) h2 hok).2 ⟨_, lo_truth hok, (worstS_iff l i (worstS_pos h) h2 hok).1 h _ (lo_truth hok)⟩
def innerB (i : Nat) : Bool := decide (1 ≤ i)
theorem setN_zero {p : Nat → Bool} : ∀ n, (∀ i, i < n → p i = false) → setN p n = 0
  | 0, _ => rfl
  | n + 1, h => by
    have := setN_zero n fun i hi => h i (by omega)
    unfold setN
    rw [h n (by omega), this]
    rfl
theorem setN_nz {p : Nat → Bool} {n i : Nat} (hi : i < n) (h : p i = true) : setN p n ≠ 0 := by
  intro e
  have := setN_bit p n i
  rw [e, if_pos ⟨hi, h⟩] at this
  simp at this
theorem some_most {l : List (Int × Int)} (h3 : 3 ≤ l.length) (x : Nat → Int) : ∃ m, 1 ≤ m ∧ m + 1 < l.length ∧ bnd x m = mostL l x := by
  rcases mostF_at x (l.length - 2) with h | ⟨n, h1, h2, h4⟩
  · refine ⟨1, by omega, by omega, ?_⟩
    have a := bnd_le_most (l := l) (x := x) (n := 1) (by omega) (by omega)
    have b := bnd_nn x 1
    unfold mostL at *
    omega
  · exact ⟨n, h1, by omega, h4⟩
theorem lt128 {p : Nat → Bool} {n : Nat} (h : n ≤ 8) : setN p (n - 1) < 128 := Nat.lt_of_lt_of_le (setN_lt p (n - 1)) (show 2 ^ (n - 1) ≤ 2 ^ 7 from Nat.pow_le_pow_right (by omega) (by omega))
theorem wset1 {l : List (Int × Int)} (hok : ∀ x ∈ l, okSpan x) (h8 : l.length ≤ 8) : bits .andNot .i64 ((setN (worstS l) (l.length - 1) : Nat) : Int) ((setN (worstC l) (l.length - 1) : Nat) : Int) = 0 :=
  andn_is _ _ (lt128 h8) (lt128 h8) fun i _ h => set_sub (fun j hj hp => worst_sub hok hp (by omega)) i h
theorem wset2 {l : List (Int × Int)} (h8 : l.length ≤ 8) : bits .andNot .i64 ((setN (worstC l) (l.length - 1) : Nat) : Int) ((setN innerB (l.length - 1) : Nat) : Int) = 0 :=
  andn_is _ _ (lt128 h8) (lt128 h8) fun i _ h => set_sub (fun j hj hp => decide_eq_true (worstC_pos hp)) i h
theorem inner_zero : ∀ n, n < 3 → setN innerB (n - 1) = 0 := by decide
theorem inner_three : ∀ n, n ≤ 8 → ones 8 (setN innerB (n - 1)) = 1 → n = 3 := by decide +kernel
theorem wset3 {l : List (Int × Int)} (hok : ∀ x ∈ l, okSpan x) (h8 : l.length ≤ 8) : setN (worstC l) (l.length - 1) = 0 ↔ setN innerB (l.length - 1) = 0 := by
  by_cases h3 : 3 ≤ l.length
  · obtain ⟨m, h1, h2, hm⟩ := some_most h3 fun i => (l.getD i (0, 0)).1
    have hw : worstC l m = true := (worstC_iff l m h1 h2 hok).2 ⟨_, lo_truth hok, fun i i1 i2 => by have := bnd_le_most (l := l) (x := fun i => (l.getD i (0, 0)).1) i1 i2; omega⟩
    exact ⟨fun e => absurd e (setN_nz (by omega) hw), fun e => absurd e (setN_nz (i := m) (by omega) (decide_eq_true h1))⟩
  · refine ⟨fun _ => inner_zero _ (by omega), fun _ => setN_zero _ fun i hi => ?_⟩
    cases h : worstC l i with
    | false => rfl
    | true => have := worstC_pos h; omega
theorem wset4 {l : List (Int × Int)} (hok : ∀ x ∈ l, okSpan x) (h8 : l.length ≤ 8) (h : ones 8 (setN innerB (l.length - 1)) = 1) : setN (worstS l) (l.length - 1) = setN innerB (l.length - 1) := by
  have h3 := inner_three _ h8 h
  have h1 : worstS l 1 = true := (worstS_iff l 1 (by omega) (by omega) hok).2 fun x hx i i1 i2 => by rw [show i = 1 by omega]; exact Int.le_refl _
  have h0 : worstS l 0 = false := by
    cases e : worstS l 0 with
    | false => rfl
    | true => have := worstS_pos e; omega
  rw [h3]
  simp [setN, h1, h0, innerB]
theorem hi_le {l : List (Int × Int)} (hok : ∀ x ∈ l, okSpan x) {i : Nat} (h1 : 1 ≤ i) (h2 : i + 1 < l.length) : (atF l i).2 ≤ hiF l (l.length - 2) := (hiF_all l hok (l.length - 2) (by omega)).2.1 i h1 (by omega)
structure Sta (l : List (Int × Int)) (x : Nat → Int) (i : Nat) : Prop where
  a : bnd x i = mostL l x → worstC l i = true
  b : worstS l i = true → bnd x i = mostL l x
  c : worstS l i = true → (atF l i).2 = hiF l (l.length - 2)
  d : (atF l i).2 = hiF l (l.length - 2) → worstC l i = true
  e : bnd x i ≤ mostL l x
  f : (atF l i).1 ≤ bnd x i
  g : bnd x i ≤ (atF l i).2
  h : (atF l i).2 ≤ hiF l (l.length - 2)
theorem sta_is {l : List (Int × Int)} (hok : ∀ x ∈ l, okSpan x) {x : Nat → Int} (hx : Truth l x) {i : Nat} (h1 : 1 ≤ i) (h2 : i + 1 < l.length) : Sta l x i := by
  have hs := at_spec l i h1 h2 hok
  have hC := worstC_iff l i h1 h2 hok
  have hS := worstS_iff l i h1 h2 hok
  refine ⟨fun e => hC.2 ⟨x, hx, fun j j1 j2 => by rw [e]; exact bnd_le_most j1 j2⟩, fun e => ?_, fun e => ?_, fun e => ?_, bnd_le_most h1 h2, (hs.all x hx).1, (hs.all x hx).2, hi_le hok h1 h2⟩
  · have a := bnd_le_most (l := l) (x := x) h1 h2
    have b := (mostL_le (bnd_nn x i)).2 (hS.1 e x hx)
    omega
  · obtain ⟨⟨y, hy, hm⟩, _⟩ := hi_spec l hok
    have b := (mostL_le (bnd_nn y i)).2 (hS.1 e y hy)
    have c := (hs.all y hy).2
    have d := hi_le hok h1 h2
    omega
  · obtain ⟨y, hy, hb⟩ := hs.hi
    refine hC.2 ⟨y, hy, fun j j1 j2 => ?_⟩
    have := (hi_spec l hok).2 y hy
    have := bnd_le_most (l := l) (x := y) j1 j2
    omega
/-- A station below k may bend as much as the furrow. -/
noncomputable def anyH (l : List (Int × Int)) : Nat → Bool
  | 0 => false
  | k + 1 => anyH l k || decide ((atF l (k + 1)).2 = hiF l (l.length - 2))
theorem anyH_of {l : List (Int × Int)} : ∀ k n, 1 ≤ n → n ≤ k → (atF l n).2 = hiF l (l.length - 2) → anyH l k = true
  | 0, n, h1, h2, _ => by omega
  | k + 1, n, h1, h2, h => by
    unfold anyH
    by_cases e : n = k + 1
    · subst e; rw [h]; simp
    · rw [anyH_of k n h1 (by omega) h]; rfl
theorem anyH_all {l : List (Int × Int)} (hok : ∀ x ∈ l, okSpan x) (h : setN innerB (l.length - 1) ≠ 0) : anyH l (l.length - 2) = true := by
  have h3 : 3 ≤ l.length := by
    refine Nat.not_lt.1 fun hl => h (inner_zero _ hl)
  obtain ⟨i1, i2, i3⟩ := hiF_all l hok (l.length - 2) (by omega)
  rcases i3 with i3 | ⟨n, h1, h2, h4⟩
  · refine anyH_of _ 1 (by omega) (by omega) ?_
    have a := i2 1 (by omega) (by omega)
    have b := (at_spec l 1 (by omega) (by omega) hok).all _ (lo_truth hok)
    have c := bnd_nn (fun i => (l.getD i (0, 0)).1) 1
    omega
  · exact anyH_of _ n h1 h2 h4
theorem bit_of {p : Nat → Bool} {n i : Nat} (h8 : n ≤ 8) (hi : i + 1 < n) : bits .and .i64 (((setN p (n - 1) : Nat) : Int) / 2 ^ i) 1 = if p i then 1 else 0 := by
  rw [andb_is _ _ (Nat.lt_trans (lt128 h8) (by omega)) (by omega), setN_bit]
  by_cases h : p i = true
  · rw [if_pos ⟨by omega, h⟩, if_pos h]; rfl
  · rw [if_neg (fun c => h c.2), if_neg h]; rfl
end Go.Proofs.Ytafmgmaelnpehaa
end

section
set_option linter.unusedVariables false
set_option linter.unusedSimpArgs false
namespace Go.Proofs.Ytafmgmaelnpehaa
open Go.RowKit Go.TL Go.Shelf Go.Fu
open PFurrowAsks Go.Proofs.YtafmgmaelnpehaaW.PrintWords
theorem box3_below {W W' : World} {B : Nat} {t : TypeId} {a b c : Value} (h : Below W.heap.size W W') (hb : Box3 W B t a b c) : Box3 W' B t a b c := (h.block _ hb.lt).trans hb
theorem only_normal {M : Array Value → World → Prop} {e : Exit} {t : Array Value} {W : World} (h : andThen M (fun _ _ _ => False) e t W) : e = .normal ∧ M t W := by
  cases e <;> first | exact ⟨rfl, h⟩ | exact False.elim h
theorem bend_good {F : Fur} (hv : F.va = true) (w : World) (h : F.At w) :
    Calls Try.prog 15 #[F.val] w fun e w' => e = .returned (.tuple #[.agg #[.int .i64 ((leastN F.pl : Nat) : Int), .int .i64 (hiF F.pl (F.pl.length - 2))], .int .i64 0]) ∧ Below w.heap.size w w' := by
  have h3 := Bend_c F w h
  have e : bendV F.va F.pl = ((((leastN F.pl : Nat) : Int), hiF F.pl (F.pl.length - 2)), 0) := by
    unfold bendV
    rw [hv, if_pos rfl]
  rw [e] at h3
  exact h3
/-- The set that the bits tell, of n stations. -/
theorem mask_all : (List.range 256).all (fun b => (List.range 9).all fun n => bits .and .i64 (b : Int) (2 ^ n - 1) == ((b % 2 ^ n : Nat) : Int)) = true := by kernel_rfl
theorem mask_is {b : Int} {n : Nat} (h1 : 0 ≤ b) (h2 : b ≤ 255) (hn : n ≤ 8) : bits .and .i64 b (2 ^ n - 1) = ((b.toNat % 2 ^ n : Nat) : Int) := by
  have h := List.all_eq_true.1 (List.all_eq_true.1 mask_all b.toNat (List.mem_range.2 (by omega))) n (List.mem_range.2 (by omega))
  rw [Int.toNat_of_nonneg h1] at h
  exact eq_of_beq h
theorem pow_all : (List.range 9).all (fun i => IntKind.i64.wrap (2 ^ i) == 2 ^ i && IntKind.i64.wrap (2 ^ i - 1) == 2 ^ i - 1) = true := by kernel_rfl
theorem wrap_pw {i : Nat} (h : i ≤ 8) : IntKind.i64.wrap (2 ^ i) = 2 ^ i := by
  have := List.all_eq_true.1 pow_all i (List.mem_range.2 (by omega))
  rw [Bool.and_eq_true] at this
  exact eq_of_beq this.1
theorem wrap_pw1 {i : Nat} (h : i ≤ 8) : IntKind.i64.wrap (2 ^ i - 1) = 2 ^ i - 1 := by
  have := List.all_eq_true.1 pow_all i (List.mem_range.2 (by omega))
  rw [Bool.and_eq_true] at this
  exact eq_of_beq this.2
theorem wrong_bad {F : Fur} (hv : F.va = false) (most : Int) (w : World) (h : F.At w) :
    Calls Try.prog 24 #[F.val, .int .i64 most] w fun e w' => e = .returned (.tuple #[.int .i64 0, .int .i64 1]) ∧ Below w.heap.size w w' :=
  (Wrong_c F most w h).mono fun e w' ⟨⟨he, _⟩, hb⟩ => by
    unfold wrongV at he
    rw [hv, if_neg (by simp)] at he
    exact ⟨he, hb⟩
theorem wrong_neg {F : Fur} (hv : F.va = true) {most : Int} (hm : ¬ 0 ≤ most) (w : World) (h : F.At w) :
    Calls Try.prog 24 #[F.val, .int .i64 most] w fun e w' => e = .returned (.tuple #[.int .i64 0, .int .i64 2]) ∧ Below w.heap.size w w' :=
  (Wrong_c F most w h).mono fun e w' ⟨⟨he, _⟩, hb⟩ => by
    unfold wrongV at he
    rw [hv, if_pos rfl, if_neg hm] at he
    exact ⟨he, hb⟩
theorem wrong_good {F : Fur} (hv : F.va = true) {most : Int} (hm : 0 ≤ most) (w : World) (h : F.At w) :
    Calls Try.prog 24 #[F.val, .int .i64 most] w fun e w' => (∃ r : Nat, e = .returned (.tuple #[.int .i64 ((r : Nat) : Int), .int .i64 0]) ∧ IsWrong F.pl most r) ∧ Below w.heap.size w w' :=
  (Wrong_c F most w h).mono fun e w' ⟨⟨he, hw⟩, hb⟩ => by
    unfold wrongV at he
    rw [hv, if_pos rfl, if_pos hm] at he
    exact ⟨⟨_, he, hw hv hm⟩, hb⟩
theorem less_all : (List.range 256).all (fun r => (List.range 8).all fun i => decide (r / 2 ^ i % 2 = 0) || (bits .andNot .i64 (r : Int) (2 ^ i) == ((r - 2 ^ i : Nat) : Int))) = true := by kernel_rfl
theorem less_is {r i : Nat} (hr : r < 256) (hi : i < 8) (hb : r / 2 ^ i % 2 = 1) : bits .andNot .i64 (r : Int) (2 ^ i) = ((r - 2 ^ i : Nat) : Int) := by
  have h := List.all_eq_true.1 (List.all_eq_true.1 less_all r (List.mem_range.2 hr)) i (List.mem_range.2 hi)
  simp only [Bool.or_eq_true, decide_eq_true_eq] at h
  rcases h with h | h
  · omega
  · exact eq_of_beq h
theorem Fur.pl_pt {F G : Fur} {s : Nat} {bs : List Int} (h0 : G.l0 = ptL F.l0 s bs F.l0.length) : G.pl = (ptL F.l0 s bs F.l0.length).map toP := by unfold Fur.pl; rw [h0]
theorem pt_va {F G : Fur} (hv : F.va = true) {s : Nat} {bs : List Int} (hbs : ∀ b ∈ bs, 0 ≤ b ∧ b ≤ 255) (h0 : G.l0 = ptL F.l0 s bs F.l0.length) (h1 : G.l1 = F.l1) (h2 : G.l2 = F.l2) : G.va = true := by
  unfold Fur.va
  rw [h0, h1, h2]
  exact pts_valid hv hbs s
theorem pt_least {F G : Fur} (hv : F.va = true) {s : Nat} {bs : List Int} (hbs : ∀ b ∈ bs, 0 ≤ b ∧ b ≤ 255) (h0 : G.l0 = ptL F.l0 s bs F.l0.length) (h1 : G.l1 = F.l1) (h2 : G.l2 = F.l2) {most : Int} (hm : 0 ≤ most) (hle : ((leastN G.pl : Nat) : Int) ≤ most) : canB (freeS s F.pl) (upP most) = true := by
  have hG := Fur.okS (pt_va hv hbs h0 h1 h2)
  obtain ⟨x, hx, hxm⟩ := (least_spec G.pl hG).1
  have hc := (canB_most hG hm).2 ⟨x, hx, by omega⟩
  rw [Fur.pl_pt h0] at hc
  exact pts_can (Fur.ok12 hv) hbs s hc
/-- A furrow with points, its bend. -/
theorem pt_bend {F G : Fur} (hv : F.va = true) {s : Nat} {bs : List Int} (hbs : ∀ b ∈ bs, 0 ≤ b ∧ b ≤ 255) (h0 : G.l0 = ptL F.l0 s bs F.l0.length) (h1 : G.l1 = F.l1) (h2 : G.l2 = F.l2) (w : World) (h : G.At w) :
    Calls Try.prog 15 #[G.val] w fun e w' => e = .returned (.tuple #[.agg #[.int .i64 ((leastN G.pl : Nat) : Int), .int .i64 (hiF G.pl (G.pl.length - 2))], .int .i64 0]) ∧ Below w.heap.size w w' :=
  bend_good (pt_va hv hbs h0 h1 h2) w h
theorem own_more {F G : Fur} (hv : F.va = true) {s r : Nat} {bs : List Int} (hbs : ∀ b ∈ bs, 0 ≤ b ∧ b ≤ 255) (h0 : G.l0 = ptL F.l0 s bs F.l0.length) (h1 : G.l1 = F.l1) (h2 : G.l2 = F.l2) {most : Int} (hm : 0 ≤ most) (hs : s < 2 ^ F.l0.length) (h : IsWrong F.pl most r) (hle : ((leastN G.pl : Nat) : Int) ≤ most) : ones 8 r ≤ ones 8 s ∧ (ones 8 s = ones 8 r → r ≤ s) :=
  h.min s (by rw [F.pl_len]; exact hs) (pt_least hv hbs h0 h1 h2 hm hle)
theorem less_bend {F G : Fur} (hv : F.va = true) {r i : Nat} {bs : List Int} (hbs : ∀ b ∈ bs, 0 ≤ b ∧ b ≤ 255) (h0 : G.l0 = ptL F.l0 (r - 2 ^ i) bs F.l0.length) (h1 : G.l1 = F.l1) (h2 : G.l2 = F.l2) {most : Int} (hm : 0 ≤ most) (h : IsWrong F.pl most r) (hi : i < F.l0.length) (hb : r / 2 ^ i % 2 = 1) : ¬ ((leastN G.pl : Nat) : Int) ≤ most := fun hle => by
  have a := pt_least hv hbs h0 h1 h2 hm hle
  have b := wrong_less (by rw [F.pl_len]; exact Fur.le8 hv) h (by rw [F.pl_len]; exact hi) hb
  rw [a] at b
  cases b
end Go.Proofs.Ytafmgmaelnpehaa
end

section
set_option linter.unusedVariables false
set_option linter.unusedSimpArgs false
namespace Go.Proofs.Ytafmgmaelnpehaa
open Go.RowKit Go.TL Go.Shelf Go.Fu
attribute [local go_sem] Oper.semAt_some
open PFurrowAsks Go.Proofs.YtafmgmaelnpehaaW.PrintWords
theorem keep_put2 (W : World) (b : Nat) (x y : Int) : Keep W (put2 W b x y) := by
  unfold put2
  exact ((Keep.refl W).setCell _ _).setCell _ _
set_option maxRecDepth 100000 in
set_option maxHeartbeats 2000000 in
theorem wl_less {F : Fur} {V : World} {nb cb r i : Nat} {Ab : Option Addr} {bs : List Int} {most : Int} (HV : Hid (F.va = true)) (hF : F.At V) (b1 : Box3 V nb 24 F.s0 F.s1 F.s2) (hby : RowB V Ab bs) (hbs : ∀ b ∈ bs, 0 ≤ b ∧ b ≤ 255) (hm : 0 ≤ most) (hw : IsWrong F.pl most r) (hr : r < 256) (hil : i < F.l0.length) (hb : r / 2 ^ i % 2 = 1) (t : Array Value)
    (hSl : Slots [none, some (.int .i64 most), none, some (.slice Ab bs.length cb), some (.pointer (some ⟨nb, 0, none⟩)), none, none, none, none, some (.int .i64 ((r : Nat) : Int)), none, none, none, none, none, none, none, none, some (.int .i64 ((i : Nat) : Int)), none, none, none, none, none, none, none, none, none, none, none, none, none, none, none, none, none, none, none, none, none, none, none, none, none, none, none, none, none, none, none, none, none, none, none, none, none, none, none, none, none, none, none, none, none, none, none, none, none, none, none, none, none, none, none, none, none, none, none, none, none, none, none, none, none, none, none, none, none, none, none, none, none, none, none, none, none, none, none, none, none, none, none, none, none, none, none, none, none, none, none, none, none, none, none, none, none, none, none, none, none, none, none, none, none, none, none, none, none, none, none, none, none, none, none, none, none, none, none, none, none, none, none, none, none, none, some (.int .i64 ((F.l0.length : Nat) : Int)), some (.int .i64 ((i : Nat) : Int)), none, none, none, none, none, none, none, none, none, none, none, none, none, none, none, none, none, none, none, none, none, none, none, none, none, none, none, none] t) :
    Exec Try.prog none (sub (Try.f8.body.getD .skip) [1, 1, 1, 1, 1, 1, 1, 1, 1, 1, 1, 0, 1, 0, 0, 1, 1, 0, 0, 1, 1, 0, 0]) t V (andThen (fun t' W' => Below V.heap.size V W' ∧ ∃ b lo hi, ¬ lo ≤ most ∧ Box2 W' b 28 lo hi ∧ Slots [none, some (.int .i64 most), none, some (.slice Ab bs.length cb), some (.pointer (some ⟨nb, 0, none⟩)), none, none, none, none, some (.int .i64 ((r : Nat) : Int)), none, none, none, none, none, none, none, none, none, some (.pointer (some ⟨b, 0, none⟩)), some (.int .i64 0), none, none, none, none, none, none, none, none, none, none, none, none, none, none, none, none, none, none, none, none, none, none, none, none, none, none, none, none, none, none, none, none, none, none, none, none, none, none, none, none, none, none, none, none, none, none, none, none, none, none, none, none, none, none, none, none, none, none, none, none, none, none, none, none, none, none, none, none, none, none, none, none, none, none, none, none, none, none, none, none, none, none, none, none, none, none, none, none, none, none, none, none, none, none, none, none, none, none, none, none, none, none, none, none, none, none, none, none, none, none, none, none, none, none, none, none, none, none, none, none, none, none, none, none, some (.int .i64 ((F.l0.length : Nat) : Int)), some (.int .i64 ((i : Nat) : Int)), none, none, none, none, none, none, none, none, none, none, none, none, none, none, none, none, none, none, none, none, none, none, none, none, none, none, none, none] t') fun _ _ _ => False) := by
  obtain ⟨x, hx⟩ := Slots.open_ hSl; simp only [fill, Nat.reduceAdd] at hx; subst hx; clear hSl
  have h8 := Fur.le8 HV.out
  have c0 := b1.cell0
  have c1 := b1.cell1
  have c2 := b1.cell2
  simp only [Fur.s0, Fur.s1, Fur.s2] at c0 c1 c2
  have S0 : ∀ W', Below V.heap.size V W' → W'.cell? ⟨nb, 0, none⟩ = some (.slice F.A0 F.l0.length F.c0) := fun W' h => (Grow.of_below (B := 0) h).cell c0
  have S1 : ∀ W', Below V.heap.size V W' → W'.cell? ⟨nb, 1, none⟩ = some (.slice F.A1 F.l1.length F.c1) := fun W' h => (Grow.of_below (B := 0) h).cell c1
  have S2 : ∀ W', Below V.heap.size V W' → W'.cell? ⟨nb, 2, none⟩ = some (.slice F.A2 F.l2.length F.c2) := fun W' h => (Grow.of_below (B := 0) h).cell c2
  have e1 : IntKind.i64.wrap (2 ^ i) = 2 ^ i := wrap_pw (by omega)
  have e1b : IntKind.i64.wrap (2 ^ min i 64) = 2 ^ i := by rw [show min i 64 = i by omega]; exact e1
  have e2 : bits .andNot .i64 (r : Int) (2 ^ i) = ((r - 2 ^ i : Nat) : Int) := less_is hr (by omega) hb
  have hi0 : ¬ (i : Int) < 0 := by omega
  have hs2 : r - 2 ^ i < 256 := Nat.lt_of_le_of_lt (Nat.sub_le _ _) hr
  have hu24 := Try.underlying24
  have hu28 := Try.underlying28
  have hKW : Keep V V.drew := (Keep.refl V).drew
  have hS : Below V.heap.size V V.drew := (Below.refl _ V).drew
  refine region_tree (c := (sub (Try.f8.body.getD .skip) [1, 1, 1, 1, 1, 1, 1, 1, 1, 1, 1, 0, 1, 0, 0, 1, 1, 0, 0, 1, 1, 0, 0])) (id := 19) (.one 0 true (.one 1 true (.one 2 true (.one 3 true (.one 4 true (.one 5 true (.two 6 11 (.two 7 11 (.one 8 true (.one 9 true (.one 10 true (.one 11 false (.one 12 false (.one 13 false (.nil))))))) (.one 7 false (.one 8 false (.one 9 true (.one 10 true (.one 12 false (.one 13 false (.nil)))))))) (.one 6 false (.one 7 false (.one 8 false (.one 9 true (.one 10 true (.one 12 false (.one 13 false (.nil))))))))))))))) (Opq (regOps (sub (Try.f8.body.getD .skip) [1, 1, 1, 1, 1, 1, 1, 1, 1, 1, 1, 0, 1, 0, 0, 1, 1, 0, 0, 1, 1, 0, 0]))) rfl (by kernel_rfl) (by kernel_rfl) (by kernel_rfl) (by kernel_rfl) (by kernel_rfl) (by kernel_rfl) [0, 0, 0, 4, 10, 0, 49, 64, 128, 256, 256, 0, 3071, 8191] (by kernel_rfl) (by kernel_rfl) (fun W' => Below V.heap.size V W') (fun _ _ _ => False) (fun _ _ _ h => h.elim) (fun _ _ _ _ _ _ _ _ h => h.elim) fun ds Q' hQn hQp => ?_
  generalize V.drew = X at *
  refine tr_take ⟨(Op.load 24 (Operand.tmp 4)), some 155, 24, true, none⟩ (.agg #[.slice F.A0 F.l0.length F.c0, .slice F.A1 F.l1.length F.c1, .slice F.A2 F.l2.length F.c2]) (by kernel_rfl) rfl (by first | exact rfl | trivial) (fun wq hq => ?_) hS ?_; (focus (simp [go_sem, mkO, S0 wq hq, S1 wq hq, S2 wq hq, hu24]; done)); simp only [Act.put, Array.getInternal_eq_getElem, List.getElem_toArray, List.getElem_cons_succ, List.getElem_cons_zero, List.setIfInBounds_toArray, List.set_cons_succ, List.set_cons_zero]
  refine tr_take ⟨(Op.move (Operand.tmp 9)), some 156, 3, true, none⟩ (.int .i64 ((r : Nat) : Int)) (by kernel_rfl) rfl (by first | exact rfl | trivial) (fun wq hq => ?_) hS ?_; (focus (exact rfl)); simp only [Act.put, Array.getInternal_eq_getElem, List.getElem_toArray, List.getElem_cons_succ, List.getElem_cons_zero, List.setIfInBounds_toArray, List.set_cons_succ, List.set_cons_zero]
  refine tr_take ⟨(Op.move (Operand.tmp 18)), some 157, 3, true, none⟩ (.int .i64 ((i : Nat) : Int)) (by kernel_rfl) rfl (by first | exact rfl | trivial) (fun wq hq => ?_) hS ?_; (focus (exact rfl)); simp only [Act.put, Array.getInternal_eq_getElem, List.getElem_toArray, List.getElem_cons_succ, List.getElem_cons_zero, List.setIfInBounds_toArray, List.set_cons_succ, List.set_cons_zero]
  refine tr_take ⟨(Op.binOp BinOp.shl 3 (Operand.const (Value.int IntKind.i64 1)) (Operand.tmp 157) 3), some 158, 3, true, none⟩ (.int .i64 (2 ^ i)) (by kernel_rfl) rfl (by first | exact rfl | trivial) (fun wq hq => ?_) hS ?_; (focus (simp [go_sem, mkO, e1, e1b, hi0]; done)); simp only [Act.put, Array.getInternal_eq_getElem, List.getElem_toArray, List.getElem_cons_succ, List.getElem_cons_zero, List.setIfInBounds_toArray, List.set_cons_succ, List.set_cons_zero]
  refine tr_take ⟨(Op.binOp BinOp.andNot 3 (Operand.tmp 156) (Operand.tmp 158) 3), some 159, 3, true, none⟩ (.int .i64 ((r - 2 ^ i : Nat) : Int)) (by kernel_rfl) rfl (by first | exact rfl | trivial) (fun wq hq => ?_) hS ?_; (focus (simp [go_sem, mkO, e2]; done)); simp only [Act.put, Array.getInternal_eq_getElem, List.getElem_toArray, List.getElem_cons_succ, List.getElem_cons_zero, List.setIfInBounds_toArray, List.set_cons_succ, List.set_cons_zero]
  refine tr_take ⟨(Op.move (Operand.tmp 3)), some 160, 52, true, none⟩ (.slice Ab bs.length cb) (by kernel_rfl) rfl (by first | exact rfl | trivial) (fun wq hq => ?_) hS ?_; (focus (exact rfl)); simp only [Act.put, Array.getInternal_eq_getElem, List.getElem_toArray, List.getElem_cons_succ, List.getElem_cons_zero, List.setIfInBounds_toArray, List.set_cons_succ, List.set_cons_zero]
  refine ⟨?_, ?_⟩
  · refine tr_call ⟨(Op.call { callee := (Callee.value (Operand.func 38)), args := #[(Operand.tmp 155), (Operand.tmp 159), (Operand.tmp 160)], argTypes := #[24, 3, 52] }), some 161, 24, false, none⟩ (f := 38) (args := #[.agg #[.slice F.A0 F.l0.length F.c0, .slice F.A1 F.l1.length F.c1, .slice F.A2 F.l2.length F.c2], .int .i64 ((r - 2 ^ i : Nat) : Int), .slice Ab bs.length cb]) (by kernel_rfl) rfl (by first | exact rfl | trivial) (by simp [go_sem, mkO]) ?_
    refine (free38_any F Ab cb bs (r - 2 ^ i) _ (hF.below hS) (hby.below hS) hbs h8 hs2).mono ?_
    rintro e2 Z ⟨⟨G, hG, rfl, g0, g1, g2⟩, hz⟩
    replace hKW := hKW.trans (Keep.of_below hz)
    replace hS := hS.trans (hz.mono hS.size)
    refine .inl ⟨_, rfl, hS, ?_⟩
    simp only [Act.put, Array.getInternal_eq_getElem, List.getElem_toArray, List.getElem_cons_succ, List.getElem_cons_zero, List.setIfInBounds_toArray, List.set_cons_succ, List.set_cons_zero]
    clear hz
    refine ⟨?_, ?_⟩
    · refine tr_call ⟨(Op.call { callee := (Callee.value (Operand.func 15)), args := #[(Operand.tmp 161)], argTypes := #[24] }), some 162, 30, false, none⟩ (f := 15) (args := #[G.val]) (by kernel_rfl) rfl (by first | exact rfl | trivial) (by simp [go_sem, mkO]) ?_
      refine (pt_bend HV.out hbs g0 g1 g2 _ hG).mono ?_
      rintro e2 Y ⟨rfl, hy⟩
      replace hKW := hKW.trans (Keep.of_below hy)
      replace hS := hS.trans (hy.mono hS.size)
      obtain ⟨hi, hhi⟩ : ∃ x, hiF G.pl (G.pl.length - 2) = x := ⟨_, rfl⟩
      rw [hhi]
      have hlo := less_bend HV.out hbs g0 g1 g2 hm hw hil hb
      obtain ⟨lo, hlo2⟩ : ∃ x, ((leastN G.pl : Nat) : Int) = x := ⟨_, rfl⟩
      rw [hlo2] at hlo ⊢
      clear hhi hlo2 g0 g1 g2 hG
      refine .inl ⟨_, rfl, hS, ?_⟩
      simp only [Act.put, Array.getInternal_eq_getElem, List.getElem_toArray, List.getElem_cons_succ, List.getElem_cons_zero, List.setIfInBounds_toArray, List.set_cons_succ, List.set_cons_zero]
      clear hy
      refine tr_take ⟨(Op.move (Operand.tmp 162)), some 154, 30, true, none⟩ (.tuple #[.agg #[.int .i64 lo, .int .i64 hi], .int .i64 0]) (by kernel_rfl) rfl (by first | exact rfl | trivial) (fun wq hq => ?_) hS ?_; (focus (exact rfl)); simp only [Act.put, Array.getInternal_eq_getElem, List.getElem_toArray, List.getElem_cons_succ, List.getElem_cons_zero, List.setIfInBounds_toArray, List.set_cons_succ, List.set_cons_zero]
      refine tr_take ⟨(Op.extract (Operand.tmp 154) 0), some 163, 28, true, none⟩ (.agg #[.int .i64 lo, .int .i64 hi]) (by kernel_rfl) rfl (by first | exact rfl | trivial) (fun wq hq => ?_) hS ?_; (focus (simp [go_sem, mkO]; done)); simp only [Act.put, Array.getInternal_eq_getElem, List.getElem_toArray, List.getElem_cons_succ, List.getElem_cons_zero, List.setIfInBounds_toArray, List.set_cons_succ, List.set_cons_zero]
      refine tr_take ⟨(Op.extract (Operand.tmp 154) 1), some 164, 29, true, none⟩ (.int .i64 0) (by kernel_rfl) rfl (by first | exact rfl | trivial) (fun wq hq => ?_) hS ?_; (focus (simp [go_sem, mkO]; done)); simp only [Act.put, Array.getInternal_eq_getElem, List.getElem_toArray, List.getElem_cons_succ, List.getElem_cons_zero, List.setIfInBounds_toArray, List.set_cons_succ, List.set_cons_zero]
      refine tr_make ⟨(Op.alloc 28), some 19, 0, false, none⟩ (.pointer (some ⟨Y.heap.size, 0, none⟩)) (Y.alloc (.cells #[.int .i64 0, .int .i64 0] 28)) (by kernel_rfl) rfl (by first | exact rfl | trivial) (by simp [go_sem, mkO, hu28]) (hS.alloc hS.size _) ?_; simp only [Act.put, Array.getInternal_eq_getElem, List.getElem_toArray, List.getElem_cons_succ, List.getElem_cons_zero, List.setIfInBounds_toArray, List.set_cons_succ, List.set_cons_zero]
      have b19 := Box2.new Y 28 0 0
      have hn19 := hS.size
      replace hS := hS.alloc hS.size (.cells #[.int .i64 0, .int .i64 0] 28)
      replace hKW := hKW.alloc (.cells #[.int .i64 0, .int .i64 0] 28)
      generalize Y.alloc (.cells #[.int .i64 0, .int .i64 0] 28) = Y1 at *
      generalize Y.heap.size = b at *
      have s0 := b19.cell0
      have s1 := b19.cell1
      have s2 := b19.frozen
      refine tr_store ⟨(Op.store 28 (Operand.tmp 19) (Operand.tmp 163)), none, 0, false, none⟩ (put2 Y1 b lo hi) (by kernel_rfl) rfl (by first | exact rfl | trivial) (by simp [go_sem, mkO, put2, s0, s1, s2, hu28]) (hS.put2 hn19 _ _) ?_; simp only [Act.put, Array.getInternal_eq_getElem, List.getElem_toArray, List.getElem_cons_succ, List.getElem_cons_zero, List.setIfInBounds_toArray, List.set_cons_succ, List.set_cons_zero]
      clear s0 s1 s2
      replace hS := hS.put2 hn19 lo hi
      replace hKW := hKW.trans (keep_put2 _ b lo hi)
      replace b19 := b19.put2 lo hi
      generalize put2 Y1 b lo hi = X9 at *
      refine tr_make ⟨(Op.assign (Operand.tmp 164)), some 20, 29, false, none⟩ (.int .i64 0) _ (by kernel_rfl) rfl (by first | exact rfl | trivial) ?_ hS ?_; (focus (exact rfl)); simp only [Act.put, Array.getInternal_eq_getElem, List.getElem_toArray, List.getElem_cons_succ, List.getElem_cons_zero, List.setIfInBounds_toArray, List.set_cons_succ, List.set_cons_zero]
      exact hQn _ _ hKW ⟨hS, b, lo, hi, hlo, b19, (by simp only [Slots, Fits, and_self])⟩
    · refine tr_make ⟨(Op.alloc 28), some 19, 0, false, none⟩ (.pointer (some ⟨Z.heap.size, 0, none⟩)) (Z.alloc (.cells #[.int .i64 0, .int .i64 0] 28)) (by kernel_rfl) rfl (by first | exact rfl | trivial) (by simp [go_sem, mkO, hu28]) (hS.alloc hS.size _) ?_; simp only [Act.put, Array.getInternal_eq_getElem, List.getElem_toArray, List.getElem_cons_succ, List.getElem_cons_zero, List.setIfInBounds_toArray, List.set_cons_succ, List.set_cons_zero]
      have b19 := Box2.new Z 28 0 0
      have hn19 := hS.size
      replace hG := hG.below ((Below.refl _ Z).alloc (Nat.le_refl _) (.cells #[.int .i64 0, .int .i64 0] 28))
      replace hS := hS.alloc hS.size (.cells #[.int .i64 0, .int .i64 0] 28)
      replace hKW := hKW.alloc (.cells #[.int .i64 0, .int .i64 0] 28)
      generalize Z.alloc (.cells #[.int .i64 0, .int .i64 0] 28) = Z1 at *
      generalize Z.heap.size = b at *
      refine tr_call ⟨(Op.call { callee := (Callee.value (Operand.func 15)), args := #[(Operand.tmp 161)], argTypes := #[24] }), some 162, 30, false, none⟩ (f := 15) (args := #[G.val]) (by kernel_rfl) rfl (by first | exact rfl | trivial) (by simp [go_sem, mkO]) ?_
      refine (pt_bend HV.out hbs g0 g1 g2 _ hG).mono ?_
      rintro e2 Y ⟨rfl, hy⟩
      replace hKW := hKW.trans (Keep.of_below hy)
      replace b19 := box2_below hy b19
      replace hS := hS.trans (hy.mono hS.size)
      obtain ⟨hi, hhi⟩ : ∃ x, hiF G.pl (G.pl.length - 2) = x := ⟨_, rfl⟩
      rw [hhi]
      have hlo := less_bend HV.out hbs g0 g1 g2 hm hw hil hb
      obtain ⟨lo, hlo2⟩ : ∃ x, ((leastN G.pl : Nat) : Int) = x := ⟨_, rfl⟩
      rw [hlo2] at hlo ⊢
      clear hhi hlo2 g0 g1 g2 hG
      refine .inl ⟨_, rfl, hS, ?_⟩
      simp only [Act.put, Array.getInternal_eq_getElem, List.getElem_toArray, List.getElem_cons_succ, List.getElem_cons_zero, List.setIfInBounds_toArray, List.set_cons_succ, List.set_cons_zero]
      clear hy
      refine tr_make ⟨(Op.move (Operand.tmp 162)), some 154, 30, false, none⟩ (.tuple #[.agg #[.int .i64 lo, .int .i64 hi], .int .i64 0]) _ (by kernel_rfl) rfl (by first | exact rfl | trivial) ?_ hS ?_; (focus (exact rfl)); simp only [Act.put, Array.getInternal_eq_getElem, List.getElem_toArray, List.getElem_cons_succ, List.getElem_cons_zero, List.setIfInBounds_toArray, List.set_cons_succ, List.set_cons_zero]
      refine tr_take ⟨(Op.extract (Operand.tmp 154) 0), some 163, 28, true, none⟩ (.agg #[.int .i64 lo, .int .i64 hi]) (by kernel_rfl) rfl (by first | exact rfl | trivial) (fun wq hq => ?_) hS ?_; (focus (simp [go_sem, mkO]; done)); simp only [Act.put, Array.getInternal_eq_getElem, List.getElem_toArray, List.getElem_cons_succ, List.getElem_cons_zero, List.setIfInBounds_toArray, List.set_cons_succ, List.set_cons_zero]
      refine tr_take ⟨(Op.extract (Operand.tmp 154) 1), some 164, 29, true, none⟩ (.int .i64 0) (by kernel_rfl) rfl (by first | exact rfl | trivial) (fun wq hq => ?_) hS ?_; (focus (simp [go_sem, mkO]; done)); simp only [Act.put, Array.getInternal_eq_getElem, List.getElem_toArray, List.getElem_cons_succ, List.getElem_cons_zero, List.setIfInBounds_toArray, List.set_cons_succ, List.set_cons_zero]
      have s0 := b19.cell0
      have s1 := b19.cell1
      have s2 := b19.frozen
      refine tr_store ⟨(Op.store 28 (Operand.tmp 19) (Operand.tmp 163)), none, 0, false, none⟩ (put2 Y b lo hi) (by kernel_rfl) rfl (by first | exact rfl | trivial) (by simp [go_sem, mkO, put2, s0, s1, s2, hu28]) (hS.put2 hn19 _ _) ?_; simp only [Act.put, Array.getInternal_eq_getElem, List.getElem_toArray, List.getElem_cons_succ, List.getElem_cons_zero, List.setIfInBounds_toArray, List.set_cons_succ, List.set_cons_zero]
      clear s0 s1 s2
      replace hS := hS.put2 hn19 lo hi
      replace hKW := hKW.trans (keep_put2 _ b lo hi)
      replace b19 := b19.put2 lo hi
      generalize put2 Y b lo hi = X9 at *
      refine tr_make ⟨(Op.assign (Operand.tmp 164)), some 20, 29, false, none⟩ (.int .i64 0) _ (by kernel_rfl) rfl (by first | exact rfl | trivial) ?_ hS ?_; (focus (exact rfl)); simp only [Act.put, Array.getInternal_eq_getElem, List.getElem_toArray, List.getElem_cons_succ, List.getElem_cons_zero, List.setIfInBounds_toArray, List.set_cons_succ, List.set_cons_zero]
      exact hQn _ _ hKW ⟨hS, b, lo, hi, hlo, b19, (by simp only [Slots, Fits, and_self])⟩
  · refine tr_make ⟨(Op.alloc 28), some 19, 0, false, none⟩ (.pointer (some ⟨X.heap.size, 0, none⟩)) (X.alloc (.cells #[.int .i64 0, .int .i64 0] 28)) (by kernel_rfl) rfl (by first | exact rfl | trivial) (by simp [go_sem, mkO, hu28]) (hS.alloc hS.size _) ?_; simp only [Act.put, Array.getInternal_eq_getElem, List.getElem_toArray, List.getElem_cons_succ, List.getElem_cons_zero, List.setIfInBounds_toArray, List.set_cons_succ, List.set_cons_zero]
    have b19 := Box2.new X 28 0 0
    have hn19 := hS.size
    replace hS := hS.alloc hS.size (.cells #[.int .i64 0, .int .i64 0] 28)
    replace hKW := hKW.alloc (.cells #[.int .i64 0, .int .i64 0] 28)
    generalize X.alloc (.cells #[.int .i64 0, .int .i64 0] 28) = X1 at *
    generalize X.heap.size = b at *
    refine tr_call ⟨(Op.call { callee := (Callee.value (Operand.func 38)), args := #[(Operand.tmp 155), (Operand.tmp 159), (Operand.tmp 160)], argTypes := #[24, 3, 52] }), some 161, 24, false, none⟩ (f := 38) (args := #[.agg #[.slice F.A0 F.l0.length F.c0, .slice F.A1 F.l1.length F.c1, .slice F.A2 F.l2.length F.c2], .int .i64 ((r - 2 ^ i : Nat) : Int), .slice Ab bs.length cb]) (by kernel_rfl) rfl (by first | exact rfl | trivial) (by simp [go_sem, mkO]) ?_
    refine (free38_any F Ab cb bs (r - 2 ^ i) _ (hF.below hS) (hby.below hS) hbs h8 hs2).mono ?_
    rintro e2 Z ⟨⟨G, hG, rfl, g0, g1, g2⟩, hz⟩
    replace hKW := hKW.trans (Keep.of_below hz)
    replace b19 := box2_below hz b19
    replace hS := hS.trans (hz.mono hS.size)
    refine .inl ⟨_, rfl, hS, ?_⟩
    simp only [Act.put, Array.getInternal_eq_getElem, List.getElem_toArray, List.getElem_cons_succ, List.getElem_cons_zero, List.setIfInBounds_toArray, List.set_cons_succ, List.set_cons_zero]
    clear hz
    refine tr_call ⟨(Op.call { callee := (Callee.value (Operand.func 15)), args := #[(Operand.tmp 161)], argTypes := #[24] }), some 162, 30, false, none⟩ (f := 15) (args := #[G.val]) (by kernel_rfl) rfl (by first | exact rfl | trivial) (by simp [go_sem, mkO]) ?_
    refine (pt_bend HV.out hbs g0 g1 g2 _ hG).mono ?_
    rintro e2 Y ⟨rfl, hy⟩
    replace hKW := hKW.trans (Keep.of_below hy)
    replace b19 := box2_below hy b19
    replace hS := hS.trans (hy.mono hS.size)
    obtain ⟨hi, hhi⟩ : ∃ x, hiF G.pl (G.pl.length - 2) = x := ⟨_, rfl⟩
    rw [hhi]
    have hlo := less_bend HV.out hbs g0 g1 g2 hm hw hil hb
    obtain ⟨lo, hlo2⟩ : ∃ x, ((leastN G.pl : Nat) : Int) = x := ⟨_, rfl⟩
    rw [hlo2] at hlo ⊢
    clear hhi hlo2 g0 g1 g2 hG
    refine .inl ⟨_, rfl, hS, ?_⟩
    simp only [Act.put, Array.getInternal_eq_getElem, List.getElem_toArray, List.getElem_cons_succ, List.getElem_cons_zero, List.setIfInBounds_toArray, List.set_cons_succ, List.set_cons_zero]
    clear hy
    refine tr_make ⟨(Op.move (Operand.tmp 162)), some 154, 30, false, none⟩ (.tuple #[.agg #[.int .i64 lo, .int .i64 hi], .int .i64 0]) _ (by kernel_rfl) rfl (by first | exact rfl | trivial) ?_ hS ?_; (focus (exact rfl)); simp only [Act.put, Array.getInternal_eq_getElem, List.getElem_toArray, List.getElem_cons_succ, List.getElem_cons_zero, List.setIfInBounds_toArray, List.set_cons_succ, List.set_cons_zero]
    refine tr_take ⟨(Op.extract (Operand.tmp 154) 0), some 163, 28, true, none⟩ (.agg #[.int .i64 lo, .int .i64 hi]) (by kernel_rfl) rfl (by first | exact rfl | trivial) (fun wq hq => ?_) hS ?_; (focus (simp [go_sem, mkO]; done)); simp only [Act.put, Array.getInternal_eq_getElem, List.getElem_toArray, List.getElem_cons_succ, List.getElem_cons_zero, List.setIfInBounds_toArray, List.set_cons_succ, List.set_cons_zero]
    refine tr_take ⟨(Op.extract (Operand.tmp 154) 1), some 164, 29, true, none⟩ (.int .i64 0) (by kernel_rfl) rfl (by first | exact rfl | trivial) (fun wq hq => ?_) hS ?_; (focus (simp [go_sem, mkO]; done)); simp only [Act.put, Array.getInternal_eq_getElem, List.getElem_toArray, List.getElem_cons_succ, List.getElem_cons_zero, List.setIfInBounds_toArray, List.set_cons_succ, List.set_cons_zero]
    have s0 := b19.cell0
    have s1 := b19.cell1
    have s2 := b19.frozen
    refine tr_store ⟨(Op.store 28 (Operand.tmp 19) (Operand.tmp 163)), none, 0, false, none⟩ (put2 Y b lo hi) (by kernel_rfl) rfl (by first | exact rfl | trivial) (by simp [go_sem, mkO, put2, s0, s1, s2, hu28]) (hS.put2 hn19 _ _) ?_; simp only [Act.put, Array.getInternal_eq_getElem, List.getElem_toArray, List.getElem_cons_succ, List.getElem_cons_zero, List.setIfInBounds_toArray, List.set_cons_succ, List.set_cons_zero]
    clear s0 s1 s2
    replace hS := hS.put2 hn19 lo hi
    replace hKW := hKW.trans (keep_put2 _ b lo hi)
    replace b19 := b19.put2 lo hi
    generalize put2 Y b lo hi = X9 at *
    refine tr_make ⟨(Op.assign (Operand.tmp 164)), some 20, 29, false, none⟩ (.int .i64 0) _ (by kernel_rfl) rfl (by first | exact rfl | trivial) ?_ hS ?_; (focus (exact rfl)); simp only [Act.put, Array.getInternal_eq_getElem, List.getElem_toArray, List.getElem_cons_succ, List.getElem_cons_zero, List.setIfInBounds_toArray, List.set_cons_succ, List.set_cons_zero]
    exact hQn _ _ hKW ⟨hS, b, lo, hi, hlo, b19, (by simp only [Slots, Fits, and_self])⟩
end Go.Proofs.Ytafmgmaelnpehaa
end

section
set_option linter.unusedVariables false
set_option linter.unusedSimpArgs false
namespace Go.Proofs.Ytafmgmaelnpehaa
open Go.RowKit Go.TL Go.Shelf Go.Fu
attribute [local go_sem] Oper.semAt_some
open PFurrowAsks Go.Proofs.YtafmgmaelnpehaaW.PrintWords
def WlI (F : Fur) (V : World) (nb cb r : Nat) (Ab : Option Addr) (bs : List Int) (most : Int) (j : Nat) (t : Array Value) (W : World) : Prop :=
  ∃ i : Nat, i ≤ F.l0.length ∧ j = F.l0.length - i ∧ Below V.heap.size V W ∧ Slots [none, some (.int .i64 most), none, some (.slice Ab bs.length cb), some (.pointer (some ⟨nb, 0, none⟩)), none, none, none, none, some (.int .i64 ((r : Nat) : Int)), none, none, none, none, none, none, none, none, none, none, none, none, none, none, none, none, none, none, none, none, none, none, none, none, none, none, none, none, none, none, none, none, none, none, none, none, none, none, none, none, none, none, none, none, none, none, none, none, none, none, none, none, none, none, none, none, none, none, none, none, none, none, none, none, none, none, none, none, none, none, none, none, none, none, none, none, none, none, none, none, none, none, none, none, none, none, none, none, none, none, none, none, none, none, none, none, none, none, none, none, none, none, none, none, none, none, none, none, none, none, none, none, none, none, none, none, none, none, none, none, none, none, none, none, none, none, none, none, none, none, none, none, none, none, none, some (.int .i64 ((F.l0.length : Nat) : Int)), some (.int .i64 ((i : Nat) : Int)), none, none, none, none, none, none, none, none, none, none, none, none, none, none, none, none, none, none, none, none, none, none, none, none, none, none, none, none] t
def WlM (F : Fur) (V : World) (nb cb r : Nat) (Ab : Option Addr) (bs : List Int) (most : Int) (i : Nat) (t : Array Value) (W : World) : Prop :=
  Below V.heap.size V W ∧ Slots [none, some (.int .i64 most), none, some (.slice Ab bs.length cb), some (.pointer (some ⟨nb, 0, none⟩)), none, none, none, none, some (.int .i64 ((r : Nat) : Int)), none, none, none, none, none, none, none, none, none, none, none, none, none, none, none, none, none, none, none, none, none, none, none, none, none, none, none, none, none, none, none, none, none, none, none, none, none, none, none, none, none, none, none, none, none, none, none, none, none, none, none, none, none, none, none, none, none, none, none, none, none, none, none, none, none, none, none, none, none, none, none, none, none, none, none, none, none, none, none, none, none, none, none, none, none, none, none, none, none, none, none, none, none, none, none, none, none, none, none, none, none, none, none, none, none, none, none, none, none, none, none, none, none, none, none, none, none, none, none, none, none, none, none, none, none, none, none, none, none, none, none, none, none, none, none, some (.int .i64 ((F.l0.length : Nat) : Int)), some (.int .i64 ((i : Nat) : Int)), none, none, none, none, none, none, none, none, none, none, none, none, none, none, none, none, none, none, none, none, none, none, none, none, none, none, none, none] t
set_option maxRecDepth 100000 in
set_option maxHeartbeats 2000000 in
theorem wl_loop {F : Fur} {V : World} {nb cb r : Nat} {Ab : Option Addr} {bs : List Int} {most : Int} (HV : Hid (F.va = true)) (hF : F.At V) (b1 : Box3 V nb 24 F.s0 F.s1 F.s2) (hby : RowB V Ab bs) (hbs : ∀ b ∈ bs, 0 ≤ b ∧ b ≤ 255) (hm : 0 ≤ most) (hw : IsWrong F.pl most r) (hr : r < 256) (t : Array Value)
    (hSl : Slots [none, some (.int .i64 most), none, some (.slice Ab bs.length cb), some (.pointer (some ⟨nb, 0, none⟩)), none, none, none, none, some (.int .i64 ((r : Nat) : Int)), none, none, none, none, none, none, none, none, none, none, none, none, none, none, none, none, none, none, none, none, none, none, none, none, none, none, none, none, none, none, none, none, none, none, none, none, none, none, none, none, none, none, none, none, none, none, none, none, none, none, none, none, none, none, none, none, none, none, none, none, none, none, none, none, none, none, none, none, none, none, none, none, none, none, none, none, none, none, none, none, none, none, none, none, none, none, none, none, none, none, none, none, none, none, none, none, none, none, none, none, none, none, none, none, none, none, none, none, none, none, none, none, none, none, none, none, none, none, none, none, none, none, none, none, none, none, none, none, none, none, none, none, none, none, none, some (.int .i64 ((F.l0.length : Nat) : Int)), some (.int .i64 0), none, none, none, none, none, none, none, none, none, none, none, none, none, none, none, none, none, none, none, none, none, none, none, none, none, none, none, none] t) :
    Exec Try.prog none (sub (Try.f8.body.getD .skip) [1, 1, 1, 1, 1, 1, 1, 1, 1, 1, 1, 0, 1]) t V (andThen (fun t' W' => Below V.heap.size V W' ∧ Slots [none, none, none, none, none, none, none, none, none, none, none, none, none, none, none, none, none, none, none, none, none, none, none, none, none, none, none, none, none, none, none, none, none, none, none, none, none, none, none, none, none, none, none, none, none, none, none, none, none, none, none, none, none, none, none, none, none, none, none, none, none, none, none, none, none, none, none, none, none, none, none, none, none, none, none, none, none, none, none, none, none, none, none, none, none, none, none, none, none, none, none, none, none, none, none, none, none, none, none, none, none, none, none, none, none, none, none, none, none, none, none, none, none, none, none, none, none, none, none, none, none, none, none, none, none, none, none, none, none, none, none, none, none, none, none, none, none, none, none, none, none, none, none, none, none, none, none, none, none, none, none, none, none, none, none, none, none, none, none, none, none, none, none, none, none, none, none, none, none, none, none, none, none, none, none] t') fun _ _ _ => False) := by
  have h8 := Fur.le8 HV.out
  refine exec_block ?_
  refine exec_loop (WlI F V nb cb r Ab bs most) F.l0.length ⟨0, by omega, by omega, Below.refl _ _, by simpa using hSl⟩ ?_
  clear hSl t
  rintro j t W ⟨i, hi, hj, hB, hSl⟩
  obtain ⟨x, hx⟩ := Slots.open_ hSl; simp only [fill, Nat.reduceAdd] at hx; subst hx; clear hSl
  refine exec_seq (exec_region_o fun ds => ?_)
  gi_wp2
  refine eq_mk (Keep.refl _) ?_
  show Exec _ _ _ _ _ _
  refine exec_seq (exec_cond (b := decide (i < F.l0.length)) rfl (fun hp => ?_) (fun hp => ?_))
  · have hil : i < F.l0.length := of_decide_eq_true hp
    refine exec_skip ?_
    show Exec _ _ _ _ _ _
    have hbit : bits .and .i64 ((r : Int) / 2 ^ i) 1 = ((r / 2 ^ i % 2 : Nat) : Int) := andb_is r i hr (by omega)
    have hbit2 : bits .and .i64 ((r : Int) / 2 ^ min i 64) 1 = ((r / 2 ^ i % 2 : Nat) : Int) := by rw [show min i 64 = i by omega]; exact hbit
    refine exec_cut (WlM F V nb cb r Ab bs most i) ?_ ?_
    · refine exec_block (exec_seq (exec_region_o fun ds => ?_))
      gi_wp2
      refine eq_mk (Keep.refl _) ?_
      show Exec _ _ _ _ _ _
      refine exec_seq (exec_region_o fun ds => ?_)
      gi_wp2
      refine eq_mk (Keep.refl _) ?_
      show Exec _ _ _ _ _ _
      have hbv : ∀ z : Nat, (((z : Nat) : Int) == 1) = decide (z = 1) := fun z => by rw [Bool.eq_iff_iff]; simp; omega
      have hbv2 : ∀ z : Nat, decide (((z : Nat) : Int) = 1) = decide (z = 1) := fun z => by rw [Bool.eq_iff_iff]; simp; omega
      refine exec_cond (b := decide (r / 2 ^ i % 2 = 1)) (by first | rfl | exact congrArg Value.bool (hbv _) | exact congrArg Value.bool (hbv2 _) | (show Value.bool (bits .and .i64 ((r : Int) / 2 ^ i) 1 == 1) = _; rw [hbit]; exact congrArg Value.bool (hbv _))) (fun hq => ?_) (fun hq => exec_skip ?_)
      · have hFW := hF.below hB
        have bW := box3_below hB b1
        have hbW := hby.below hB
        clear hbit hbit2 hbv hbv2 hp
        refine exec_seq ((wl_less (cb := cb) HV hFW bW hbW hbs hm hw hr hil (of_decide_eq_true hq) _ (by simp only [Slots, Fits, and_self])).mono ?_)
        intro e t' X h
        obtain ⟨rfl, hx, b, lo, hii, hlo, b19, hSl⟩ := only_normal h
        clear h x hFW bW hbW
        replace hB := hB.trans (hx.mono hB.size)
        clear hx
        clear W
        obtain ⟨x, hx⟩ := Slots.open_ hSl; simp only [fill, Nat.reduceAdd] at hx; subst hx; clear hSl
        show Exec _ _ _ _ _ _
        have e0 := b19.cell0
        refine exec_seq (exec_region_o fun ds => ?_)
        gi_wp2
        refine eq_mk (Keep.refl _) ?_
        show Exec _ _ _ _ _ _
        refine exec_cond (b := false) (by first | rfl | (show Value.bool _ = _; simp; omega)) (fun h => by cases h) (fun _ => exec_skip ?_)
        exact ⟨hB, (by simp only [Slots, Fits, and_self])⟩
      · exact ⟨hB, (by simp only [Slots, Fits, and_self])⟩
    · clear hB hbit hbit2
      rintro t' W' ⟨hB, hSl⟩
      clear x
      obtain ⟨x, hx⟩ := Slots.open_ hSl; simp only [fill, Nat.reduceAdd] at hx; subst hx; clear hSl
      have hwr : IntKind.i64.wrap ((i : Int) + 1) = ((i + 1 : Nat) : Int) := by rw [IntWalk.i64_in _ (by omega)]; norm_cast
      refine exec_region_o fun ds => ?_
      gi_wp2
      refine eq_mk (Keep.refl _) ⟨j - 1, by omega, i + 1, by omega, by omega, hB, by simp only [Slots, Fits, and_self]; simp⟩
  · refine exec_exit ?_
    show _ ∧ _
    exact ⟨hB, (by simp only [Slots, Fits, and_self])⟩
end Go.Proofs.Ytafmgmaelnpehaa
end

section
set_option linter.unusedVariables false
set_option linter.unusedSimpArgs false
namespace Go.Proofs.Ytafmgmaelnpehaa
open Go.RowKit Go.TL Go.Shelf Go.Fu
attribute [local go_sem] Oper.semAt_some
open PFurrowAsks Go.Proofs.YtafmgmaelnpehaaW.PrintWords
set_option maxRecDepth 100000 in
set_option maxHeartbeats 4000000 in
theorem wt_9a {V : World} {nb a11 cb n r : Nat} {Ab : Option Addr} {bs : List Int} {most bt lo hi : Int} (b11 : Box2 V a11 28 lo hi) (hn : n ≤ 8) (hr : r < 256) (hle : lo ≤ most) (t : Array Value) (hSl : Slots [none, some (.int .i64 most), some (.int .u8 bt), some (.slice Ab bs.length cb), some (.pointer (some ⟨nb, 0, none⟩)), none, none, none, none, some (.int .i64 0), some (.int .i64 0), some (.pointer (some ⟨a11, 0, none⟩)), some (.int .i64 0), some (.int .i64 ((n : Nat) : Int)), some (.func (.func 37) #[] #[]), none, none, none, none, none, none, none, none, none, none, none, none, none, none, none, none, none, none, none, none, none, none, none, none, none, none, none, none, none, none, none, none, none, none, none, none, none, none, none, none, none, none, none, none, none, none, none, none, none, none, none, none, none, none, none, none, none, none, none, none, none, none, none, none, none, none, none, none, none, none, none, none, none, none, none, none, none, none, none, none, none, none, none, none, none, none, none, none, none, none, none, none, none, none, none, none, none, none, none, none, none, none, none, none, none, none, none, none, none, none, none, none, none, none, none, none, none, none, none, none, none, none, none, none, none, none, none, none, none, none, none, none, none, none, none, none, none, none, none, none, none, none, none, none, none, none, none, none, none, none, none, none, none, none, none, none, none, none, none, none] t) :
    Exec Try.prog none (sub (Try.f8.body.getD .skip) [1, 1, 1, 1, 1, 1, 1, 0, 0]) t V (andThen (fun t' W' => Below V.heap.size V W' ∧ Slots [none, some (.int .i64 most), some (.int .u8 bt), some (.slice Ab bs.length cb), some (.pointer (some ⟨nb, 0, none⟩)), none, none, none, none, some (.int .i64 0), some (.int .i64 0), some (.pointer (some ⟨a11, 0, none⟩)), some (.int .i64 0), some (.int .i64 ((n : Nat) : Int)), some (.func (.func 37) #[] #[]), none, none, none, none, none, none, none, none, none, none, none, none, none, none, none, none, none, none, none, none, none, none, none, none, none, none, none, none, none, none, none, none, none, none, none, none, none, none, none, none, none, none, none, none, none, none, none, none, none, none, none, none, none, none, none, none, none, none, none, none, none, none, none, none, none, none, none, none, none, none, none, none, none, none, none, none, none, none, none, none, none, none, none, none, some (.bool false), none, none, none, none, none, none, none, none, none, none, none, none, none, none, none, none, none, none, none, none, none, none, none, none, none, none, none, none, none, none, none, none, none, none, none, none, none, none, none, none, none, none, none, none, none, none, none, none, none, none, none, none, none, none, none, none, none, none, none, none, none, none, none, none, none, none, none, none, none, none, none, none, none, none, none] t') fun _ _ _ => False) := by
  obtain ⟨x, hx⟩ := Slots.open_ hSl; simp only [fill, Nat.reduceAdd] at hx; subst hx; clear hSl
  have e0 := b11.cell0
  have hw : IntKind.i64.wrap ((n : Int) - 1) = (n : Int) - 1 := IntWalk.i64_in _ (by omega)
  have hz : ones 8 0 = 0 := rfl
  have hmx : ¬ max 0 ((n : Int) - 1) < ((ones 8 0 : Nat) : Int) := by rw [hz]; omega
  clear b11
  refine exec_region_o fun ds => ?_
  show (Code.region _ _ _).wpIn _ _ _ _ _ _
  gi_wp2_with fail
  refine ⟨trivial, rfl, (callsIn_wide.2 (size_c 0 (by omega) V)).mono ?_⟩
  rintro e X ⟨rfl, hx⟩
  have hK := Keep.of_below hx
  have HX := Lib.hid hx
  clear hx
  gi_wp2
  all_goals (refine eq_mk hK ⟨HX.out, ?_⟩; simp only [Slots, Fits, and_self]; try simp; try omega)
set_option maxRecDepth 100000 in
set_option maxHeartbeats 4000000 in
theorem wt_9b {V : World} {nb a11 cb n r : Nat} {Ab : Option Addr} {bs : List Int} {most bt lo hi : Int} (b11 : Box2 V a11 28 lo hi) (hn : n ≤ 8) (hr : r < 256) (h0 : r ≠ 0) (hrn : r < 2 ^ n) (hle : ¬ lo ≤ most) (hf : ones 8 r ≤ n - 1) (t : Array Value) (hSl : Slots [none, some (.int .i64 most), some (.int .u8 bt), some (.slice Ab bs.length cb), some (.pointer (some ⟨nb, 0, none⟩)), none, none, none, none, some (.int .i64 ((r : Nat) : Int)), some (.int .i64 0), some (.pointer (some ⟨a11, 0, none⟩)), some (.int .i64 0), some (.int .i64 ((n : Nat) : Int)), some (.func (.func 37) #[] #[]), none, none, none, none, none, none, none, none, none, none, none, none, none, none, none, none, none, none, none, none, none, none, none, none, none, none, none, none, none, none, none, none, none, none, none, none, none, none, none, none, none, none, none, none, none, none, none, none, none, none, none, none, none, none, none, none, none, none, none, none, none, none, none, none, none, none, none, none, none, none, none, none, none, none, none, none, none, none, none, none, none, none, none, none, none, none, none, none, none, none, none, none, none, none, none, none, none, none, none, none, none, none, none, none, none, none, none, none, none, none, none, none, none, none, none, none, none, none, none, none, none, none, none, none, none, none, none, none, none, none, none, none, none, none, none, none, none, none, none, none, none, none, none, none, none, none, none, none, none, none, none, none, none, none, none, none, none, none, none, none] t) :
    Exec Try.prog none (sub (Try.f8.body.getD .skip) [1, 1, 1, 1, 1, 1, 1, 0, 0]) t V (andThen (fun t' W' => Below V.heap.size V W' ∧ Slots [none, some (.int .i64 most), some (.int .u8 bt), some (.slice Ab bs.length cb), some (.pointer (some ⟨nb, 0, none⟩)), none, none, none, none, some (.int .i64 ((r : Nat) : Int)), some (.int .i64 0), some (.pointer (some ⟨a11, 0, none⟩)), some (.int .i64 0), some (.int .i64 ((n : Nat) : Int)), some (.func (.func 37) #[] #[]), none, none, none, none, none, none, none, none, none, none, none, none, none, none, none, none, none, none, none, none, none, none, none, none, none, none, none, none, none, none, none, none, none, none, none, none, none, none, none, none, none, none, none, none, none, none, none, none, none, none, none, none, none, none, none, none, none, none, none, none, none, none, none, none, none, none, none, none, none, none, none, none, none, none, none, none, none, none, none, none, none, none, none, none, some (.bool false), none, none, none, none, none, none, none, none, none, none, none, none, none, none, none, none, none, none, none, none, none, none, none, none, none, none, none, none, none, none, none, none, none, none, none, none, none, none, none, none, none, none, none, none, none, none, none, none, none, none, none, none, none, none, none, none, none, none, none, none, none, none, none, none, none, none, none, none, none, none, none, none, none, none, none] t') fun _ _ _ => False) := by
  obtain ⟨x, hx⟩ := Slots.open_ hSl; simp only [fill, Nat.reduceAdd] at hx; subst hx; clear hSl
  have e0 := b11.cell0
  have hw : IntKind.i64.wrap ((n : Int) - 1) = (n : Int) - 1 := IntWalk.i64_in _ (by omega)
  have hmx : ¬ max 0 ((n : Int) - 1) < ((ones 8 r : Nat) : Int) := by omega
  have h1 : ¬ (r : Int) < 0 := by omega
  have h2 : ¬ (r : Int) = 0 := by omega
  have h3 : (r : Int) / 2 ^ n = 0 := Int.ediv_eq_zero_of_lt (by omega) (by exact_mod_cast hrn)
  have h4 : (r : Int) / 2 ^ min n 64 = 0 := by rw [show min n 64 = n by omega]; exact h3
  clear b11
  refine exec_region_o fun ds => ?_
  show (Code.region _ _ _).wpIn _ _ _ _ _ _
  gi_wp2_with fail
  refine ⟨trivial, rfl, (callsIn_wide.2 (size_c r hr V)).mono ?_⟩
  rintro e X ⟨rfl, hx⟩
  have hK := Keep.of_below hx
  have HX := Lib.hid hx
  clear hx
  gi_wp2
  all_goals (refine eq_mk hK ⟨HX.out, ?_⟩; simp only [Slots, Fits, and_self]; try simp; try omega)
end Go.Proofs.Ytafmgmaelnpehaa
end

section
set_option linter.unusedVariables false
set_option linter.unusedSimpArgs false
namespace Go.Proofs.Ytafmgmaelnpehaa
open Go.RowKit Go.TL Go.Shelf Go.Fu
attribute [local go_sem] Oper.semAt_some
open PFurrowAsks Go.Proofs.YtafmgmaelnpehaaW.PrintWords
theorem undef_bool {b : Bool} (h : some undef = some (Value.bool b)) : False := by cases h
set_option maxRecDepth 100000 in
set_option maxHeartbeats 4000000 in
theorem wt_13a {V : World} {nb a11 a16 cb n r s : Nat} {Ab : Option Addr} {bs : List Int} {most bt lo hi : Int} (b16 : Box2 V a16 28 lo hi) (hr : r < 256) (hs : s < 256) (hle : ¬ lo ≤ most) (t : Array Value) (hSl : Slots [none, some (.int .i64 most), some (.int .u8 bt), some (.slice Ab bs.length cb), some (.pointer (some ⟨nb, 0, none⟩)), none, none, none, none, some (.int .i64 ((r : Nat) : Int)), some (.int .i64 0), some (.pointer (some ⟨a11, 0, none⟩)), some (.int .i64 0), some (.int .i64 ((n : Nat) : Int)), some (.func (.func 37) #[] #[]), some (.int .i64 ((s : Nat) : Int)), some (.pointer (some ⟨a16, 0, none⟩)), some (.int .i64 0), none, none, none, none, none, none, none, none, none, none, none, none, none, none, none, none, none, none, none, none, none, none, none, none, none, none, none, none, none, none, none, none, none, none, none, none, none, none, none, none, none, none, none, none, none, none, none, none, none, none, none, none, none, none, none, none, none, none, none, none, none, none, none, none, none, none, none, none, none, none, none, none, none, none, none, none, none, none, none, none, none, none, none, none, none, none, none, none, none, none, none, none, none, none, none, none, none, none, none, none, none, none, none, none, none, none, none, none, none, none, none, none, none, none, none, none, none, none, none, none, none, none, none, none, none, none, none, none, none, none, none, none, none, none, none, none, none, none, none, none, none, none, none, none, none, none, none, none, none, none, none, none, none, none, none, none, none] t) :
    Exec Try.prog none (sub (Try.f8.body.getD .skip) [1, 1, 1, 1, 1, 1, 1, 1, 1, 1, 0, 0]) t V (andThen (fun t' W' => Below V.heap.size V W' ∧ Slots [none, some (.int .i64 most), some (.int .u8 bt), some (.slice Ab bs.length cb), some (.pointer (some ⟨nb, 0, none⟩)), none, none, none, none, some (.int .i64 ((r : Nat) : Int)), some (.int .i64 0), some (.pointer (some ⟨a11, 0, none⟩)), some (.int .i64 0), some (.int .i64 ((n : Nat) : Int)), some (.func (.func 37) #[] #[]), some (.int .i64 ((s : Nat) : Int)), some (.pointer (some ⟨a16, 0, none⟩)), some (.int .i64 0), none, none, none, none, none, none, none, none, none, none, none, none, none, none, none, none, none, none, none, none, none, none, none, none, none, none, none, none, none, none, none, none, none, none, none, none, none, none, none, none, none, none, none, none, none, none, none, none, none, none, none, none, none, none, none, none, none, none, none, none, none, none, none, none, none, none, none, none, none, none, none, none, none, none, none, none, none, none, none, none, none, none, none, none, none, none, none, none, none, none, none, none, none, none, none, none, none, none, none, none, none, none, none, none, none, none, none, none, none, none, none, none, none, none, none, none, none, none, none, none, none, none, none, none, none, none, some (.bool false), none, none, none, none, none, none, none, none, none, none, none, none, none, none, none, none, none, none, none, none, none, none, none, none, none, none, none, none, none, none] t') fun _ _ _ => False) := by
  obtain ⟨x, hx⟩ := Slots.open_ hSl; simp only [fill, Nat.reduceAdd] at hx; subst hx; clear hSl
  have e0 := b16.cell0
  clear b16
  refine exec_region_o fun ds => ?_
  show (Code.region _ _ _).wpIn _ _ _ _ _ _
  gi_wp2_with fail
  have HS := Lib.hid (Below.refl V.heap.size V)
  have hK := Keep.refl V
  all_goals try exact (undef_bool ‹some undef = some (Value.bool _)›).elim
  refine ⟨(fun _ h => by cases h), ?_⟩
  rename_i kh x1 h1 w1 he1
  refine kh _ _ ?_
  clear he1 kh x1 h1 w1
  gi_wp2_with fail
  all_goals try exact (undef_bool ‹some undef = some (Value.bool _)›).elim
  refine ⟨(fun _ h => by cases h), ?_⟩
  rename_i kh x1 h1 w1 he1
  refine kh _ _ ?_
  clear he1 kh x1 h1 w1
  gi_wp2_with fail
  all_goals try exact (undef_bool ‹some undef = some (Value.bool _)›).elim
  refine ⟨(fun _ h => by cases h), ?_⟩
  rename_i kh x2 h2 x1 h1 w1 he1
  refine kh _ _ ?_
  clear he1 kh x1 h1 w1
  gi_wp2_with fail
  all_goals try exact (undef_bool ‹some undef = some (Value.bool _)›).elim
  refine ⟨(fun _ h => by cases h), ?_⟩
  rename_i kh x1 h1 w1 he1
  refine kh _ _ ?_
  clear he1 kh x1 h1 w1
  gi_wp2
  all_goals (refine eq_mk hK ⟨HS.out, ?_⟩; simp only [Slots, Fits, and_self]; try simp; try omega)
end Go.Proofs.Ytafmgmaelnpehaa
end

section
set_option linter.unusedVariables false
set_option linter.unusedSimpArgs false
namespace Go.Proofs.Ytafmgmaelnpehaa
open Go.RowKit Go.TL Go.Shelf Go.Fu
attribute [local go_sem] Oper.semAt_some
open PFurrowAsks Go.Proofs.YtafmgmaelnpehaaW.PrintWords
set_option maxRecDepth 100000 in
set_option maxHeartbeats 4000000 in
theorem wt_13b {V : World} {nb a11 a16 cb n r s : Nat} {Ab : Option Addr} {bs : List Int} {most bt lo hi : Int} (b16 : Box2 V a16 28 lo hi) (hr : r < 256) (hs : s < 256) (hle : lo ≤ most) (hlt : ones 8 r < ones 8 s) (t : Array Value) (hSl : Slots [none, some (.int .i64 most), some (.int .u8 bt), some (.slice Ab bs.length cb), some (.pointer (some ⟨nb, 0, none⟩)), none, none, none, none, some (.int .i64 ((r : Nat) : Int)), some (.int .i64 0), some (.pointer (some ⟨a11, 0, none⟩)), some (.int .i64 0), some (.int .i64 ((n : Nat) : Int)), some (.func (.func 37) #[] #[]), some (.int .i64 ((s : Nat) : Int)), some (.pointer (some ⟨a16, 0, none⟩)), some (.int .i64 0), none, none, none, none, none, none, none, none, none, none, none, none, none, none, none, none, none, none, none, none, none, none, none, none, none, none, none, none, none, none, none, none, none, none, none, none, none, none, none, none, none, none, none, none, none, none, none, none, none, none, none, none, none, none, none, none, none, none, none, none, none, none, none, none, none, none, none, none, none, none, none, none, none, none, none, none, none, none, none, none, none, none, none, none, none, none, none, none, none, none, none, none, none, none, none, none, none, none, none, none, none, none, none, none, none, none, none, none, none, none, none, none, none, none, none, none, none, none, none, none, none, none, none, none, none, none, none, none, none, none, none, none, none, none, none, none, none, none, none, none, none, none, none, none, none, none, none, none, none, none, none, none, none, none, none, none, none] t) :
    Exec Try.prog none (sub (Try.f8.body.getD .skip) [1, 1, 1, 1, 1, 1, 1, 1, 1, 1, 0, 0]) t V (andThen (fun t' W' => Below V.heap.size V W' ∧ Slots [none, some (.int .i64 most), some (.int .u8 bt), some (.slice Ab bs.length cb), some (.pointer (some ⟨nb, 0, none⟩)), none, none, none, none, some (.int .i64 ((r : Nat) : Int)), some (.int .i64 0), some (.pointer (some ⟨a11, 0, none⟩)), some (.int .i64 0), some (.int .i64 ((n : Nat) : Int)), some (.func (.func 37) #[] #[]), some (.int .i64 ((s : Nat) : Int)), some (.pointer (some ⟨a16, 0, none⟩)), some (.int .i64 0), none, none, none, none, none, none, none, none, none, none, none, none, none, none, none, none, none, none, none, none, none, none, none, none, none, none, none, none, none, none, none, none, none, none, none, none, none, none, none, none, none, none, none, none, none, none, none, none, none, none, none, none, none, none, none, none, none, none, none, none, none, none, none, none, none, none, none, none, none, none, none, none, none, none, none, none, none, none, none, none, none, none, none, none, none, none, none, none, none, none, none, none, none, none, none, none, none, none, none, none, none, none, none, none, none, none, none, none, none, none, none, none, none, none, none, none, none, none, none, none, none, none, none, none, none, none, some (.bool false), none, none, none, none, none, none, none, none, none, none, none, none, none, none, none, none, none, none, none, none, none, none, none, none, none, none, none, none, none, none] t') fun _ _ _ => False) := by
  obtain ⟨x, hx⟩ := Slots.open_ hSl; simp only [fill, Nat.reduceAdd] at hx; subst hx; clear hSl
  have e0 := b16.cell0
  have f1 : ¬ ((ones 8 s : Nat) : Int) < ((ones 8 r : Nat) : Int) := by omega
  have f2 : ¬ ((ones 8 s : Nat) : Int) = ((ones 8 r : Nat) : Int) := by omega
  clear b16
  refine exec_region_o fun ds => ?_
  show (Code.region _ _ _).wpIn _ _ _ _ _ _
  gi_wp2_with fail
  have HS := Lib.hid (Below.refl V.heap.size V)
  have hK := Keep.refl V
  refine ⟨trivial, rfl, (callsIn_wide.2 (size_c s hs _)).mono ?_⟩
  rintro e X0 ⟨rfl, hx⟩
  replace hK := hK.trans (Keep.of_below hx)
  have HS := Lib.hid (HS.out.trans (hx.mono HS.out.size))
  clear hx
  gi_wp2_with fail
  refine ⟨trivial, rfl, (callsIn_wide.2 (size_c r hr _)).mono ?_⟩
  rintro e X1 ⟨rfl, hx⟩
  replace hK := hK.trans (Keep.of_below hx)
  have HS := Lib.hid (HS.out.trans (hx.mono HS.out.size))
  clear hx
  gi_wp2_with fail
  refine ⟨trivial, rfl, (callsIn_wide.2 (size_c s hs _)).mono ?_⟩
  rintro e X2 ⟨rfl, hx⟩
  replace hK := hK.trans (Keep.of_below hx)
  have HS := Lib.hid (HS.out.trans (hx.mono HS.out.size))
  clear hx
  gi_wp2_with fail
  refine ⟨trivial, rfl, (callsIn_wide.2 (size_c r hr _)).mono ?_⟩
  rintro e X3 ⟨rfl, hx⟩
  replace hK := hK.trans (Keep.of_below hx)
  have HS := Lib.hid (HS.out.trans (hx.mono HS.out.size))
  clear hx
  gi_wp2
  all_goals (refine eq_mk hK ⟨HS.out, ?_⟩; simp only [Slots, Fits, and_self]; simp; try omega)
end Go.Proofs.Ytafmgmaelnpehaa
end

section
set_option linter.unusedVariables false
set_option linter.unusedSimpArgs false
namespace Go.Proofs.Ytafmgmaelnpehaa
open Go.RowKit Go.TL Go.Shelf Go.Fu
attribute [local go_sem] Oper.semAt_some
open PFurrowAsks Go.Proofs.YtafmgmaelnpehaaW.PrintWords
set_option maxRecDepth 100000 in
set_option maxHeartbeats 4000000 in
theorem wt_13c {V : World} {nb a11 a16 cb n r s : Nat} {Ab : Option Addr} {bs : List Int} {most bt lo hi : Int} (b16 : Box2 V a16 28 lo hi) (hr : r < 256) (hs : s < 256) (hle : lo ≤ most) (hlt : ones 8 s = ones 8 r) (hrs : r ≤ s) (t : Array Value) (hSl : Slots [none, some (.int .i64 most), some (.int .u8 bt), some (.slice Ab bs.length cb), some (.pointer (some ⟨nb, 0, none⟩)), none, none, none, none, some (.int .i64 ((r : Nat) : Int)), some (.int .i64 0), some (.pointer (some ⟨a11, 0, none⟩)), some (.int .i64 0), some (.int .i64 ((n : Nat) : Int)), some (.func (.func 37) #[] #[]), some (.int .i64 ((s : Nat) : Int)), some (.pointer (some ⟨a16, 0, none⟩)), some (.int .i64 0), none, none, none, none, none, none, none, none, none, none, none, none, none, none, none, none, none, none, none, none, none, none, none, none, none, none, none, none, none, none, none, none, none, none, none, none, none, none, none, none, none, none, none, none, none, none, none, none, none, none, none, none, none, none, none, none, none, none, none, none, none, none, none, none, none, none, none, none, none, none, none, none, none, none, none, none, none, none, none, none, none, none, none, none, none, none, none, none, none, none, none, none, none, none, none, none, none, none, none, none, none, none, none, none, none, none, none, none, none, none, none, none, none, none, none, none, none, none, none, none, none, none, none, none, none, none, none, none, none, none, none, none, none, none, none, none, none, none, none, none, none, none, none, none, none, none, none, none, none, none, none, none, none, none, none, none, none] t) :
    Exec Try.prog none (sub (Try.f8.body.getD .skip) [1, 1, 1, 1, 1, 1, 1, 1, 1, 1, 0, 0]) t V (andThen (fun t' W' => Below V.heap.size V W' ∧ Slots [none, some (.int .i64 most), some (.int .u8 bt), some (.slice Ab bs.length cb), some (.pointer (some ⟨nb, 0, none⟩)), none, none, none, none, some (.int .i64 ((r : Nat) : Int)), some (.int .i64 0), some (.pointer (some ⟨a11, 0, none⟩)), some (.int .i64 0), some (.int .i64 ((n : Nat) : Int)), some (.func (.func 37) #[] #[]), some (.int .i64 ((s : Nat) : Int)), some (.pointer (some ⟨a16, 0, none⟩)), some (.int .i64 0), none, none, none, none, none, none, none, none, none, none, none, none, none, none, none, none, none, none, none, none, none, none, none, none, none, none, none, none, none, none, none, none, none, none, none, none, none, none, none, none, none, none, none, none, none, none, none, none, none, none, none, none, none, none, none, none, none, none, none, none, none, none, none, none, none, none, none, none, none, none, none, none, none, none, none, none, none, none, none, none, none, none, none, none, none, none, none, none, none, none, none, none, none, none, none, none, none, none, none, none, none, none, none, none, none, none, none, none, none, none, none, none, none, none, none, none, none, none, none, none, none, none, none, none, none, none, some (.bool false), none, none, none, none, none, none, none, none, none, none, none, none, none, none, none, none, none, none, none, none, none, none, none, none, none, none, none, none, none, none] t') fun _ _ _ => False) := by
  obtain ⟨x, hx⟩ := Slots.open_ hSl; simp only [fill, Nat.reduceAdd] at hx; subst hx; clear hSl
  have e0 := b16.cell0
  have f1 : ¬ ((ones 8 s : Nat) : Int) < ((ones 8 r : Nat) : Int) := by omega
  have f2 : ((ones 8 s : Nat) : Int) = ((ones 8 r : Nat) : Int) := by omega
  have f3 : ¬ (s : Int) < (r : Int) := by omega
  clear b16
  refine exec_region_o fun ds => ?_
  show (Code.region _ _ _).wpIn _ _ _ _ _ _
  gi_wp2_with fail
  have HS := Lib.hid (Below.refl V.heap.size V)
  have hK := Keep.refl V
  refine ⟨trivial, rfl, (callsIn_wide.2 (size_c s hs _)).mono ?_⟩
  rintro e X0 ⟨rfl, hx⟩
  replace hK := hK.trans (Keep.of_below hx)
  have HS := Lib.hid (HS.out.trans (hx.mono HS.out.size))
  clear hx
  gi_wp2_with fail
  refine ⟨trivial, rfl, (callsIn_wide.2 (size_c r hr _)).mono ?_⟩
  rintro e X1 ⟨rfl, hx⟩
  replace hK := hK.trans (Keep.of_below hx)
  have HS := Lib.hid (HS.out.trans (hx.mono HS.out.size))
  clear hx
  gi_wp2_with fail
  refine ⟨trivial, rfl, (callsIn_wide.2 (size_c s hs _)).mono ?_⟩
  rintro e X2 ⟨rfl, hx⟩
  replace hK := hK.trans (Keep.of_below hx)
  have HS := Lib.hid (HS.out.trans (hx.mono HS.out.size))
  clear hx
  gi_wp2_with fail
  refine ⟨trivial, rfl, (callsIn_wide.2 (size_c r hr _)).mono ?_⟩
  rintro e X3 ⟨rfl, hx⟩
  replace hK := hK.trans (Keep.of_below hx)
  have HS := Lib.hid (HS.out.trans (hx.mono HS.out.size))
  clear hx
  gi_wp2
  all_goals (refine eq_mk hK ⟨HS.out, ?_⟩; simp only [Slots, Fits, and_self]; try simp; try omega)
end Go.Proofs.Ytafmgmaelnpehaa
end

section
set_option linter.unusedVariables false
set_option linter.unusedSimpArgs false
namespace Go.Proofs.Ytafmgmaelnpehaa
open Go.RowKit Go.TL Go.Shelf Go.Fu
attribute [local go_sem] Oper.semAt_some
open PFurrowAsks Go.Proofs.YtafmgmaelnpehaaW.PrintWords
set_option maxRecDepth 100000 in
set_option maxHeartbeats 2000000 in
theorem wrong_any (F : Fur) (most bt : Int) (Ab : Option Addr) (cb : Nat) (bs : List Int) (w : World) (h : F.At w) (hbt : 0 ≤ bt ∧ bt ≤ 255) (hby : RowB w Ab bs) (hbs : ∀ b ∈ bs, 0 ≤ b ∧ b ≤ 255) : Calls Try.prog 8 #[F.val, .int .i64 most, .int .u8 bt, .slice Ab bs.length cb] w fun e w' => e = .returned (.bool true) ∧ Below w.heap.size w w' := by
  refine calls_of_exec Try.func8 rfl ?_
  simp only [Try.ntmps8, List.size_toArray, List.length_cons, List.length_nil, Nat.reduceAdd, Nat.reduceSub, Array.replicate_succ, Array.replicate_zero, List.push_toArray, List.append_toArray, List.nil_append, List.cons_append]
  simp only [Fur.val]
  refine exec_seq (exec_region_o fun ds => ?_)
  gi_wp2
  refine eq_mk ((Keep.refl w).alloc _) ?_
  show Exec _ _ _ _ _ _
  have b1 := Box3.new w 24 F.s0 F.s1 F.s2
  have hB := (Below.refl w.heap.size w).alloc (Nat.le_refl _) (.cells #[F.s0, F.s1, F.s2] 24)
  generalize w.alloc (.cells #[F.s0, F.s1, F.s2] 24) = W0 at *
  have hF := h.below hB
  clear h
  have c0 := b1.cell0
  have c1 := b1.cell1
  have c2 := b1.cell2
  obtain ⟨hv, hhv⟩ : ∃ b, heavyB F.l0 F.l1 F.l2 6 6 = b := ⟨_, rfl⟩
  have hvy := heavy_any F 6 6 W0 hF
  rw [hhv] at hvy
  refine exec_seq (exec_seq (exec_region_o fun ds => ?_))
  gi_wp2_with fail
  refine ⟨trivial, rfl, (callsIn_wide.2 hvy).mono ?_⟩
  rintro e X ⟨rfl, hx⟩
  have hK := Keep.of_below hx
  replace b1 : Box3 X w.heap.size 24 F.s0 F.s1 F.s2 := (hx.block _ b1.lt).trans b1
  replace hF := hF.below hx
  replace hB := hB.trans (hx.mono hB.size)
  clear hx hvy c0 c1 c2
  gi_wp2
  refine eq_mk hK ?_
  show Exec _ _ _ _ _ _
  clear hK
  clear W0
  cases hv with
  | true =>
    refine exec_cond (b := true) rfl (fun _ => ?_) (fun h => by cases h)
    refine exec_seq (exec_region_o fun ds => ?_)
    gi_wp2_with fail
    refine ⟨trivial, rfl, (callsIn_wide.2 (alive_any X)).mono ?_⟩
    rintro e Y ⟨rfl, hy⟩
    gi_wp2
    refine eq_mk (Keep.of_below hy) ?_
    show Exec _ _ _ _ _ _
    exact exec_ret ⟨.inr rfl, fun W' hG => ⟨.bool true, by simp [results, Try.f8, go_sem], rfl, (hB.trans (hy.mono hB.size)).trans (hG.below (Nat.le_refl _) (hB.trans (hy.mono hB.size)).size)⟩⟩
  | false =>
  refine exec_cond (b := false) rfl (fun h => by cases h) (fun _ => exec_skip ?_)
  show Exec _ _ _ _ _ _
  have HVY := Lib.hid hhv
  clear hhv
  cases hva : F.va with
  | false =>
    have c0 := b1.cell0
    have c1 := b1.cell1
    have c2 := b1.cell2
    refine exec_seq (exec_region_o fun ds => ?_)
    gi_wp2_with fail
    refine ⟨trivial, rfl, (callsIn_wide.2 (wrong_bad hva most X hF)).mono ?_⟩
    rintro e Y1 ⟨rfl, hy⟩
    replace hF := hF.below hy
    replace hB := hB.trans (hy.mono hB.size)
    replace b1 := box3_below hy b1
    have hK := Keep.of_below hy
    clear hy c0 c1 c2
    gi_wp2
    refine eq_mk hK ?_
    show Exec _ _ _ _ _ _
    clear hK
    clear X
    have c0 := b1.cell0
    have c1 := b1.cell1
    have c2 := b1.cell2
    have hrf := refFurrow_c F Y1 hF
    rw [hva] at hrf
    refine exec_seq (exec_seq (exec_region_o fun ds => ?_))
    gi_wp2_with fail
    refine ⟨trivial, rfl, (callsIn_wide.2 hrf).mono ?_⟩
    rintro e Y ⟨rfl, hy⟩
    replace hF := hF.below hy
    replace hB := hB.trans (hy.mono hB.size)
    replace b1 := box3_below hy b1
    have hK := Keep.of_below hy
    clear hy hrf c0 c1 c2
    gi_wp2
    refine eq_mk hK ?_
    show Exec _ _ _ _ _ _
    clear hK
    clear Y1
    refine exec_cond (b := true) rfl (fun _ => ?_) (fun h => by cases h)
    have c0 := b1.cell0
    have c1 := b1.cell1
    have c2 := b1.cell2
    have hrf := refFurrow_c F Y hF
    rw [hva] at hrf
    refine exec_seq (exec_region_o fun ds => ?_)
    gi_wp2_with fail
    refine ⟨trivial, rfl, (callsIn_wide.2 hrf).mono ?_⟩
    rintro e Z ⟨rfl, hy⟩
    replace hB := hB.trans (hy.mono hB.size)
    have hK := Keep.of_below hy
    clear hy hrf c0 c1 c2 b1 hF
    gi_wp2_with fail
    refine ⟨trivial, rfl, (callsIn_wide.2 (alive_any _)).mono ?_⟩
    rintro e Q ⟨rfl, hq⟩
    gi_wp2
    refine eq_mk (hK.trans (Keep.of_below hq)) ?_
    show Exec _ _ _ _ _ _
    exact exec_ret ⟨.inr rfl, fun W' hG => ⟨.bool true, by simp [results, Try.f8, go_sem], rfl, (hB.trans (hq.mono hB.size)).trans (hG.below (Nat.le_refl _) (hB.trans (hq.mono hB.size)).size)⟩⟩
  | true =>
  have HV := Lib.hid hva
  clear hva
  by_cases hm : 0 ≤ most
  · have hnm : ¬ most < 0 := by omega
    have c0 := b1.cell0
    have c1 := b1.cell1
    have c2 := b1.cell2
    refine exec_seq (exec_region_o fun ds => ?_)
    gi_wp2_with fail
    refine ⟨trivial, rfl, (callsIn_wide.2 (wrong_good HV.out hm X hF)).mono ?_⟩
    rintro e Y11 ⟨⟨r, rfl, hw⟩, hy⟩
    replace hF := hF.below hy
    replace hB := hB.trans (hy.mono hB.size)
    replace b1 := box3_below hy b1
    have hK := Keep.of_below hy
    clear hy c0 c1 c2
    gi_wp2
    refine eq_mk hK ?_
    show Exec _ _ _ _ _ _
    clear hK
    clear X
    have c0 := b1.cell0
    have c1 := b1.cell1
    have c2 := b1.cell2
    have hrf := refFurrow_c F Y11 hF
    rw [HV.out] at hrf
    refine exec_seq (exec_seq (exec_region_o fun ds => ?_))
    gi_wp2_with fail
    refine ⟨trivial, rfl, (callsIn_wide.2 hrf).mono ?_⟩
    rintro e Y ⟨rfl, hy⟩
    replace hF := hF.below hy
    replace hB := hB.trans (hy.mono hB.size)
    replace b1 := box3_below hy b1
    have hK := Keep.of_below hy
    clear hy hrf c0 c1 c2
    gi_wp2
    refine eq_mk hK ?_
    show Exec _ _ _ _ _ _
    clear hK
    clear Y11
    refine exec_cond (b := false) (by first | rfl | (show Value.bool _ = _; simp; omega)) (fun h => by cases h) (fun _ => exec_skip ?_)
    show Exec _ _ _ _ _ _
    have c0 := b1.cell0
    have c1 := b1.cell1
    have c2 := b1.cell2
    refine exec_seq (exec_region_o fun ds => ?_)
    gi_wp2_with fail
    refine ⟨trivial, rfl, (callsIn_wide.2 (bend_good HV.out Y hF)).mono ?_⟩
    rintro e Y21 ⟨rfl, hy⟩
    replace hF := hF.below hy
    replace hB := hB.trans (hy.mono hB.size)
    replace b1 := box3_below hy b1
    have hK := Keep.of_below hy
    clear hy c0 c1 c2
    obtain ⟨hi, hhi⟩ : ∃ x, hiF F.pl (F.pl.length - 2) = x := ⟨_, rfl⟩
    rw [hhi]
    have Hhi := Lib.hid hhi
    clear hhi
    gi_wp2
    refine eq_mk (hK.alloc _) ?_
    show Exec _ _ _ _ _ _
    have ha := (Below.refl Y21.heap.size Y21).alloc (Nat.le_refl _) (.cells #[.int .i64 ((leastN F.pl : Nat) : Int), .int .i64 hi] 28)
    replace hF := hF.below ha
    replace hB := hB.trans (ha.mono hB.size)
    replace b1 := box3_below ha b1
    have q11 := Box2.new Y21 28 ((leastN F.pl : Nat) : Int) hi
    generalize Y21.alloc (.cells #[.int .i64 ((leastN F.pl : Nat) : Int), .int .i64 hi] 28) = Z21 at *
    clear ha hK
    generalize Y21.heap.size = a11 at *
    clear Y21 Y
    have c0 := b1.cell0
    have c1 := b1.cell1
    have c2 := b1.cell2
    simp only [Fur.s0] at c0
    refine exec_seq (exec_region_o fun ds => ?_)
    gi_wp2
    refine eq_mk (Keep.refl _) ?_
    show Exec _ _ _ _ _ _
    clear c0 c1 c2
    refine exec_seq (exec_region_o fun ds => ?_)
    gi_wp2
    refine eq_mk (Keep.refl _) ?_
    show Exec _ _ _ _ _ _
    have hr : r < 256 := Nat.lt_of_lt_of_le hw.lt (show 2 ^ F.pl.length ≤ 2 ^ 8 from Nat.pow_le_pow_right (by omega) (by rw [F.pl_len]; exact Fur.le8 HV.out))
    have h8 := Fur.le8 HV.out
    have hpl := F.pl_len
    have hz := wrong_zero (Fur.okS HV.out) hm hw
    have hfew := wrong_few (by rw [hpl]; exact h8) (Fur.ok12 HV.out) hm hw
    rw [hpl] at hfew
    have hrn : r < 2 ^ F.l0.length := by have := hw.lt; rw [hpl] at this; exact this
    have HW := Lib.hid hw
    clear hw
    obtain ⟨lo, hlo⟩ : ∃ x, ((leastN F.pl : Nat) : Int) = x := ⟨_, rfl⟩
    rw [hlo] at q11 hz
    clear hlo
    refine exec_seq (exec_cut (fun t' W' => Below Z21.heap.size Z21 W' ∧ Slots [none, some (.int .i64 most), some (.int .u8 bt), some (.slice Ab bs.length cb), some (.pointer (some ⟨w.heap.size, 0, none⟩)), none, none, none, none, some (.int .i64 ((r : Nat) : Int)), some (.int .i64 0), some (.pointer (some ⟨a11, 0, none⟩)), some (.int .i64 0), some (.int .i64 ((F.l0.length : Nat) : Int)), some (.func (.func 37) #[] #[]), none, none, none, none, none, none, none, none, none, none, none, none, none, none, none, none, none, none, none, none, none, none, none, none, none, none, none, none, none, none, none, none, none, none, none, none, none, none, none, none, none, none, none, none, none, none, none, none, none, none, none, none, none, none, none, none, none, none, none, none, none, none, none, none, none, none, none, none, none, none, none, none, none, none, none, none, none, none, none, none, none, none, none, none, some (.bool false), none, none, none, none, none, none, none, none, none, none, none, none, none, none, none, none, none, none, none, none, none, none, none, none, none, none, none, none, none, none, none, none, none, none, none, none, none, none, none, none, none, none, none, none, none, none, none, none, none, none, none, none, none, none, none, none, none, none, none, none, none, none, none, none, none, none, none, none, none, none, none, none, none, none, none] t') ?_ ?_)
    · by_cases r0 : r = 0
      · subst r0
        refine (wt_9a (cb := cb) (Ab := Ab) (bs := bs) (nb := w.heap.size) (bt := bt) q11 h8 hr (hz.1 rfl) _ (by simp only [Slots, Fits, and_self]; simp)).mono ?_
        intro e t' V h
        obtain ⟨rfl, h⟩ := only_normal h
        exact h
      · refine (wt_9b (cb := cb) (Ab := Ab) (bs := bs) (nb := w.heap.size) (bt := bt) q11 h8 hr r0 hrn (fun c => r0 (hz.2 c)) hfew _ (by simp only [Slots, Fits, and_self])).mono ?_
        intro e t' V h
        obtain ⟨rfl, h⟩ := only_normal h
        exact h
    rintro t' V ⟨hy, hSl⟩
    clear hz hfew q11 Hhi
    replace hF := hF.below hy
    replace hB := hB.trans (hy.mono hB.size)
    replace b1 := box3_below hy b1
    clear hy
    clear Z21
    obtain ⟨x, hx⟩ := Slots.open_ hSl; simp only [fill, Nat.reduceAdd] at hx; subst hx; clear hSl
    refine exec_cond (b := false) rfl (fun h => by cases h) (fun _ => exec_skip ?_)
    show Exec _ _ _ _ _ _
    obtain ⟨s, hs⟩ : ∃ s, bt.toNat % 2 ^ F.l0.length = s := ⟨_, rfl⟩
    have e1 : IntKind.i64.wrap bt = bt := IntWalk.i64_in _ (by omega)
    have e2 : IntKind.i64.wrap (2 ^ F.l0.length) = 2 ^ F.l0.length := wrap_pw h8
    have e2b : IntKind.i64.wrap (2 ^ min F.l0.length 64) = 2 ^ F.l0.length := by rw [show min F.l0.length 64 = F.l0.length by omega]; exact e2
    have e3 : IntKind.i64.wrap (2 ^ F.l0.length - 1) = 2 ^ F.l0.length - 1 := wrap_pw1 h8
    have e4 : bits .and .i64 bt (2 ^ F.l0.length - 1) = ((s : Nat) : Int) := by rw [← hs]; exact mask_is hbt.1 hbt.2 h8
    have hsn : s < 2 ^ F.l0.length := by rw [← hs]; exact Nat.mod_lt _ (Nat.two_pow_pos _)
    have hs8 : s < 256 := Nat.lt_of_lt_of_le hsn (show 2 ^ F.l0.length ≤ 2 ^ 8 from Nat.pow_le_pow_right (by omega) h8)
    clear hs
    refine exec_seq (exec_region_o fun ds => ?_)
    gi_wp2
    refine eq_mk (Keep.refl _) ?_
    show Exec _ _ _ _ _ _
    clear e1 e2 e2b e3 e4 hbt
    have c0 := b1.cell0
    have c1 := b1.cell1
    have c2 := b1.cell2
    have hbV := hby.below hB
    refine exec_seq (exec_region_o fun ds => ?_)
    gi_wp2_with fail
    refine ⟨trivial, rfl, (callsIn_wide.2 (free38_any F Ab cb bs s V hF hbV hbs h8 hs8)).mono ?_⟩
    rintro e X ⟨⟨G, hG, rfl, g0, g1, g2⟩, hx⟩
    have hK := Keep.of_below hx
    replace hF := hF.below hx
    replace hB := hB.trans (hx.mono hB.size)
    replace b1 := box3_below hx b1
    have HG := Lib.hid (And.intro g0 (And.intro g1 g2))
    clear hx c0 c1 c2 hbV g0 g1 g2
    gi_wp2_with fail
    refine ⟨trivial, rfl, (callsIn_wide.2 (pt_bend HV.out hbs HG.out.1 HG.out.2.1 HG.out.2.2 X hG)).mono ?_⟩
    rintro e Y ⟨rfl, hy⟩
    replace hK := hK.trans (Keep.of_below hy)
    replace hF := hF.below hy
    replace hB := hB.trans (hy.mono hB.size)
    replace b1 := box3_below hy b1
    have hmore := own_more HV.out hbs HG.out.1 HG.out.2.1 HG.out.2.2 hm hsn HW.out
    obtain ⟨l2, hl2⟩ : ∃ x, ((leastN G.pl : Nat) : Int) = x := ⟨_, rfl⟩
    obtain ⟨u2, hu2⟩ : ∃ x, hiF G.pl (G.pl.length - 2) = x := ⟨_, rfl⟩
    rw [hl2] at hmore
    rw [hl2, hu2]
    have HM := Lib.hid hmore
    clear hy hmore hl2 hu2 HG hG
    gi_wp2
    refine eq_mk (hK.alloc _) ?_
    show Exec _ _ _ _ _ _
    have ha := (Below.refl Y.heap.size Y).alloc (Nat.le_refl _) (.cells #[.int .i64 l2, .int .i64 u2] 28)
    replace hF := hF.below ha
    replace hB := hB.trans (ha.mono hB.size)
    replace b1 := box3_below ha b1
    have q16 := Box2.new Y 28 l2 u2
    generalize Y.alloc (.cells #[.int .i64 l2, .int .i64 u2] 28) = Z at *
    clear ha hK
    generalize Y.heap.size = a16 at *
    clear X Y
    clear V
    refine exec_seq (exec_cut (fun t' W' => Below Z.heap.size Z W' ∧ Slots [none, some (.int .i64 most), some (.int .u8 bt), some (.slice Ab bs.length cb), some (.pointer (some ⟨w.heap.size, 0, none⟩)), none, none, none, none, some (.int .i64 ((r : Nat) : Int)), some (.int .i64 0), some (.pointer (some ⟨a11, 0, none⟩)), some (.int .i64 0), some (.int .i64 ((F.l0.length : Nat) : Int)), some (.func (.func 37) #[] #[]), some (.int .i64 ((s : Nat) : Int)), some (.pointer (some ⟨a16, 0, none⟩)), some (.int .i64 0), none, none, none, none, none, none, none, none, none, none, none, none, none, none, none, none, none, none, none, none, none, none, none, none, none, none, none, none, none, none, none, none, none, none, none, none, none, none, none, none, none, none, none, none, none, none, none, none, none, none, none, none, none, none, none, none, none, none, none, none, none, none, none, none, none, none, none, none, none, none, none, none, none, none, none, none, none, none, none, none, none, none, none, none, none, none, none, none, none, none, none, none, none, none, none, none, none, none, none, none, none, none, none, none, none, none, none, none, none, none, none, none, none, none, none, none, none, none, none, none, none, none, none, none, none, none, some (.bool false), none, none, none, none, none, none, none, none, none, none, none, none, none, none, none, none, none, none, none, none, none, none, none, none, none, none, none, none, none, none] t') ?_ ?_)
    · by_cases f1 : l2 ≤ most
      · have hmo := HM.out f1
        by_cases f2 : ones 8 s = ones 8 r
        · refine (wt_13c (cb := cb) (Ab := Ab) (bs := bs) (nb := w.heap.size) (bt := bt) (a11 := a11) (n := F.l0.length) q16 hr hs8 f1 f2 (hmo.2 f2) _ (by simp only [Slots, Fits, and_self])).mono ?_
          intro e t' V h
          obtain ⟨rfl, h⟩ := only_normal h
          exact h
        · refine (wt_13b (cb := cb) (Ab := Ab) (bs := bs) (nb := w.heap.size) (bt := bt) (a11 := a11) (n := F.l0.length) q16 hr hs8 f1 (by omega) _ (by simp only [Slots, Fits, and_self])).mono ?_
          intro e t' V h
          obtain ⟨rfl, h⟩ := only_normal h
          exact h
      · refine (wt_13a (cb := cb) (Ab := Ab) (bs := bs) (nb := w.heap.size) (bt := bt) (a11 := a11) (n := F.l0.length) q16 hr hs8 f1 _ (by simp only [Slots, Fits, and_self])).mono ?_
        intro e t' V h
        obtain ⟨rfl, h⟩ := only_normal h
        exact h
    rintro t' V ⟨hy, hSl⟩
    clear x HM q16
    replace hF := hF.below hy
    replace hB := hB.trans (hy.mono hB.size)
    replace b1 := box3_below hy b1
    clear hy
    clear Z
    obtain ⟨x, hx⟩ := Slots.open_ hSl; simp only [fill, Nat.reduceAdd] at hx; subst hx; clear hSl
    refine exec_cond (b := false) rfl (fun h => by cases h) (fun _ => exec_skip ?_)
    show Exec _ _ _ _ _ _
    refine exec_seq (exec_seq (exec_region_o fun ds => ?_))
    gi_wp2
    refine eq_mk (Keep.refl _) ?_
    show Exec _ _ _ _ _ _
    have hbV := hby.below hB
    refine (wl_loop (cb := cb) HV hF b1 hbV hbs hm HW.out hr _ (by simp only [Slots, Fits, and_self])).mono ?_
    intro e t' X h
    obtain ⟨rfl, hx, hSl⟩ := only_normal h
    clear h x hF b1 hbV
    replace hB := hB.trans (hx.mono hB.size)
    clear hx
    clear V
    obtain ⟨x, hx⟩ := Slots.open_ hSl; simp only [fill, Nat.reduceAdd] at hx; subst hx; clear hSl
    show Exec _ _ _ _ _ _
    refine exec_seq (exec_region_o fun ds => ?_)
    gi_wp2_with fail
    refine ⟨trivial, rfl, (callsIn_wide.2 (alive_any _)).mono ?_⟩
    rintro e Q ⟨rfl, hq⟩
    gi_wp2
    refine eq_mk (Keep.of_below hq) ?_
    show Exec _ _ _ _ _ _
    exact exec_ret ⟨.inr rfl, fun W' hG => ⟨.bool true, by simp [results, Try.f8, go_sem], rfl, (hB.trans (hq.mono hB.size)).trans (hG.below (Nat.le_refl _) (hB.trans (hq.mono hB.size)).size)⟩⟩
  · have hnm : most < 0 := by omega
    have c0 := b1.cell0
    have c1 := b1.cell1
    have c2 := b1.cell2
    refine exec_seq (exec_region_o fun ds => ?_)
    gi_wp2_with fail
    refine ⟨trivial, rfl, (callsIn_wide.2 (wrong_neg HV.out (Int.not_le.2 (by omega)) X hF)).mono ?_⟩
    rintro e Y1 ⟨rfl, hy⟩
    replace hF := hF.below hy
    replace hB := hB.trans (hy.mono hB.size)
    replace b1 := box3_below hy b1
    have hK := Keep.of_below hy
    clear hy c0 c1 c2
    gi_wp2
    refine eq_mk hK ?_
    show Exec _ _ _ _ _ _
    clear hK
    clear X
    have c0 := b1.cell0
    have c1 := b1.cell1
    have c2 := b1.cell2
    have hrf := refFurrow_c F Y1 hF
    rw [HV.out] at hrf
    refine exec_seq (exec_seq (exec_region_o fun ds => ?_))
    gi_wp2_with fail
    refine ⟨trivial, rfl, (callsIn_wide.2 hrf).mono ?_⟩
    rintro e Y ⟨rfl, hy⟩
    replace hF := hF.below hy
    replace hB := hB.trans (hy.mono hB.size)
    replace b1 := box3_below hy b1
    have hK := Keep.of_below hy
    clear hy hrf c0 c1 c2
    gi_wp2
    refine eq_mk hK ?_
    show Exec _ _ _ _ _ _
    clear hK
    clear Y1
    refine exec_cond (b := true) rfl (fun _ => ?_) (fun h => by cases h)
    have c0 := b1.cell0
    have c1 := b1.cell1
    have c2 := b1.cell2
    have hrf := refFurrow_c F Y hF
    rw [HV.out] at hrf
    refine exec_seq (exec_region_o fun ds => ?_)
    gi_wp2_with fail
    refine ⟨trivial, rfl, (callsIn_wide.2 hrf).mono ?_⟩
    rintro e Z ⟨rfl, hy⟩
    replace hB := hB.trans (hy.mono hB.size)
    have hK := Keep.of_below hy
    clear hy hrf c0 c1 c2 b1 hF
    gi_wp2_with fail
    refine ⟨trivial, rfl, (callsIn_wide.2 (alive_any _)).mono ?_⟩
    rintro e Q ⟨rfl, hq⟩
    gi_wp2
    refine eq_mk (hK.trans (Keep.of_below hq)) ?_
    show Exec _ _ _ _ _ _
    exact exec_ret ⟨.inr rfl, fun W' hG => ⟨.bool true, by simp [results, Try.f8, go_sem], rfl, (hB.trans (hq.mono hB.size)).trans (hG.below (Nat.le_refl _) (hB.trans (hq.mono hB.size)).size)⟩⟩
end Go.Proofs.Ytafmgmaelnpehaa
end

section
set_option linter.unusedVariables false
namespace Go.Proofs.Ytafmgmaelnpehaa
open Go.ChangeShapes Go.WideShapes Go.RowKit Go.Joins Go.Deep PFurrowAsks Go.Proofs.YtafmgmaelnpehaaW.PrintWords
section
variable {H : Type} {enc : TypeId × Value → H} {w : World}
theorem row_open {n : Nat} {v : Value} {y : DataW H × List MemPlace} (h : DataW.trod enc Try.prog w 0 (fun _ => true) true n 22 [v] = some y) : ∃ A c l, v = .slice A (l : List S28).length c ∧ l.length ≤ c ∧ Row w A l := by
  rcases open_slice_pairs Try.underlying22 Try.underlying28 (by kernel_rfl) rfl rfl (by kernel_rfl) (by kernel_rfl) h with ⟨hcs, _⟩ | ⟨a, len, cap, m, n', V0, V1, D0, D1, P0, P1, hcs, _, hl, hm, hmm, _, hi⟩
  · simp only [List.cons.injEq, and_true] at hcs
    exact ⟨none, 0, [], hcs, Nat.le_refl _, rfl, by simp, fun hp => by simp at hp⟩
  · simp only [List.cons.injEq, and_true] at hcs
    have hlm : len ≤ m := by rw [hmm]; split <;> omega
    have each : ∀ i, i < len → ∃ x : S28, w.cell? (a.add (i * 2)) = some (.int .i64 x.f0) ∧ w.cell? (a.add (i * 2 + 1)) = some (.int .i64 x.f1) := by
      intro i hi'
      obtain ⟨c0, c1, t0, t1⟩ := hi i (by omega)
      obtain ⟨x, e0, _, _⟩ := DataW.trod_int Try.underlying3 t0
      obtain ⟨z, e1, _, _⟩ := DataW.trod_int Try.underlying3 t1
      simp only [List.cons.injEq, and_true] at e0 e1
      exact ⟨⟨x, z⟩, by rw [c0, e0], by rw [c1, e1]⟩
    have hex : ∃ l : List S28, l.length = len ∧ ∀ i p, l[i]? = some p → w.cell? (a.add (i * 2)) = some (.int .i64 p.f0) ∧ w.cell? (a.add (i * 2 + 1)) = some (.int .i64 p.f1) := by
      have go : ∀ k, k ≤ len → ∃ l : List S28, l.length = k ∧ ∀ i p, l[i]? = some p → w.cell? (a.add (i * 2)) = some (.int .i64 p.f0) ∧ w.cell? (a.add (i * 2 + 1)) = some (.int .i64 p.f1) := by
        intro k
        induction k with
        | zero => exact fun _ => ⟨[], rfl, fun i p hp => by simp at hp⟩
        | succ k ih =>
          intro hk
          obtain ⟨l, hl1, hl2⟩ := ih (by omega)
          obtain ⟨x, h1, h2⟩ := each k (by omega)
          refine ⟨l ++ [x], by simp [hl1], fun i p hp => ?_⟩
          rcases Nat.lt_or_ge i l.length with hlt | hge
          · rw [List.getElem?_append_left hlt] at hp
            exact hl2 i p hp
          · rw [List.getElem?_append_right hge] at hp
            have hi0 : i - l.length = 0 := by
              rcases Nat.eq_zero_or_pos (i - l.length) with h0 | h0
              · exact h0
              · obtain ⟨q, hq⟩ : ∃ q, i - l.length = q + 1 := ⟨i - l.length - 1, by omega⟩
                rw [hq] at hp
                simp at hp
            rw [hi0] at hp
            simp only [List.getElem?_cons_zero, Option.some.injEq] at hp
            subst hp
            obtain rfl : i = k := by omega
            exact ⟨h1, h2⟩
      exact go len (Nat.le_refl _)
    obtain ⟨l, hl1, hl2⟩ := hex
    refine ⟨some a, cap, l, by rw [hcs, hl1], by omega, rfl, by unfold maxLen at hm; omega, fun hp => ⟨a, rfl, fun j p hp => ?_⟩⟩
    obtain ⟨h1, h2⟩ := hl2 j p hp
    refine ⟨[.int .i64 p.f0, .int .i64 p.f1], rfl, k28_mk w p, fun i u hu => ?_⟩
    match i, hu with
    | 0, hu => simp at hu; subst hu; exact h1
    | 1, hu => simp at hu; subst hu; exact h2
    | i + 2, hu => simp at hu
set_option maxRecDepth 100000 in
theorem fur_open {r : Reach} {b0 : Nat} {v : Value} {d : DataW H} {p : List MemPlace} (hv : Value.okWide Try.prog w r b0 24 v) (h : DataW.Trod enc Try.prog w 0 (fun _ => true) true 24 v d p) : ∃ F : Fur, v = F.val ∧ F.At w := by
  obtain ⟨v0, v1, v2, y0, y1, y2, n, rfl, _, _, h0, h1, h2⟩ := open_agg3 Try.underlying24 (by kernel_rfl) (by kernel_rfl) hv h
  obtain ⟨A0, c0, l0, rfl, g0, r0⟩ := row_open h0
  obtain ⟨A1, c1, l1, rfl, g1, r1⟩ := row_open h1
  obtain ⟨A2, c2, l2, rfl, g2, r2⟩ := row_open h2
  exact ⟨⟨A0, c0, l0, A1, c1, l1, A2, c2, l2⟩, rfl, ⟨r0, g0, r1, g1, r2, g2⟩⟩
end
end Go.Proofs.Ytafmgmaelnpehaa
end

section
namespace Go.Proofs.Ytafmgmaelnpehaa
open Go.RowKit Go.TL Go.Fu PFurrowAsks Go.Proofs.YtafmgmaelnpehaaW.PrintWords in
theorem wrong_row (F : Fur) (most bt : Int) (a : Option Addr) (len cap : Nat) (z : List Int) (w : World) (h : F.At w) (hb : (Lit.int .u8 bt).wf = true) (hr : (a = none ∧ len = 0 ∧ cap = 0 ∧ z = []) ∨ ∃ x, a = some x ∧ len ≤ cap ∧ cap ≤ maxLen ∧ z.length = cap ∧ (∀ i, i < z.length → w.cell? (x.add i) = some (.int .u8 (z.getD i 0))) ∧ ∀ n ∈ z, (Lit.int .u8 n).wf = true) :
    Calls Try.prog 8 #[F.val, .int .i64 most, .int .u8 bt, .slice a len cap] w fun e w' => e = .returned (.bool true) ∧ Below w.heap.size w w' := by
  obtain ⟨l, rfl, h1, _, h2, _⟩ := ReadsInt.ofRowC hr
  exact wrong_any F most bt a cap l w h (bounds_u8 hb) h1 fun b hb => bounds_u8 (h2 b hb)
end Go.Proofs.Ytafmgmaelnpehaa
namespace Go.Proofs.Ytafmgmaelnpehaa.furrowWrong
open Go.ChangeShapes Go.WideShapes Go.ChangeAt Go.RowKit
open Go.ChangeMaps (open_string shut_string)
set_option linter.unusedVariables false
theorem own : ownKnob Try.prog.godebug = none := by kernel_rfl
theorem laidOut : laidOutB Try.prog = true := by kernel_rfl
def IsRow (k : IntKind) (w : World) (a : Option Addr) (len cap : Nat) (zs : List Int) : Prop :=
  (a = none ∧ len = 0 ∧ cap = 0 ∧ zs = []) ∨
  ∃ x, a = some x ∧ len ≤ cap ∧ cap ≤ maxLen ∧ zs.length = cap ∧ (∀ i, i < zs.length → w.cell? (x.add i) = some (.int k (zs.getD i 0))) ∧ ∀ n ∈ zs, (Lit.int k n).wf = true
set_option maxRecDepth 100000 in
theorem lifted (os : Os) (started : os.Started) (H : Type) (enc : TypeId × Value → H) :
    ReturnsInHanded {} Try.checked os 8 .any (Rows.furrowWrongSpec.pre6 enc Try.prog Try.f8 Rows.furrowWrongRow.domain false) (Rows.furrowWrongSpec.post enc Try.prog Try.f8 false true false false) := by
  refine returnsInHanded_of_change_sized (C := Try.checked) own started (by kernel_rfl) Try.func8
    (ChangeSpec.witness6 (enc := enc) (C := Try.checked) false ⟨#[], #[.agg #[.slice none 0 0, .slice none 0 0, .slice none 0 0], .int .i64 0, .int .u8 0, .slice none 0 0], []⟩ 8 (by kernel_rfl) (by kernel_rfl) (by kernel_rfl) (by kernel_rfl)) ?_
  intro W base args ds gs before hval0 hW hcnd hsz0 _
  have hsz : (DataW.weightsEach Try.prog (Try.f8.params.toList ++ Rows.furrowWrongSpec.plain.varTypes Try.prog) (ds ++ gs)).all (· ≤ reachBytes) = true := hsz0
  have hval : ∀ (j : Nat) t v, Try.f8.params[j]? = some t → args[j]? = some v → Value.okWide Try.prog W .any base t v := hval0
  have hW' := hW
  obtain ⟨p, q, hA0, hV, rfl, hfz, hnd⟩ := hW
  have hA : DataW.TrodAll enc Try.prog W 0 (fun _ => true) true Try.f8.params.toList args.toList ds p := hA0
  rw [Try.params8] at hA hval hsz
  obtain ⟨v0, vs0, d0, ds0, p0, q0, hargs, rfl, rfl, h0, r0⟩ := trodAll_cons hA
  obtain ⟨v1, vs1, d1, ds1, p1, q1, rfl, rfl, rfl, h1, r1⟩ := trodAll_cons r0
  obtain ⟨v2, vs2, d2, ds2, p2, q2, rfl, rfl, rfl, h2, r2⟩ := trodAll_cons r1
  obtain ⟨v3, vs3, d3, ds3, p3, q3, rfl, rfl, rfl, h3, r3⟩ := trodAll_cons r2
  obtain ⟨rfl, rfl, rfl⟩ := trodAll_nil r3
  obtain rfl : args = #[v0, v1, v2, v3] := by cases args; simp_all
  obtain ⟨rfl, rfl⟩ := trodVars_none hV
  have k0 := h0
  have lt0 : ∀ x ∈ p0, x.block < W.heap.size := by obtain ⟨m, hm⟩ := k0; exact DataW.trod_lt m _ _ _ hm
  obtain ⟨F0, rfl, hF0⟩ := fur_open (hval 0 24 v0 rfl rfl) h0
  obtain ⟨a1, rfl, rfl, rfl, w1⟩ := open_int Try.underlying3 (hval 1 3 v1 rfl rfl) h1
  obtain ⟨a2, rfl, rfl, rfl, w2⟩ := open_int Try.underlying5 (hval 2 5 v2 rfl rfl) h2
  obtain ⟨a3, len3, cap3, rfl⟩ := okWide_slice Try.underlying52 (hval 3 52 v3 rfl rfl)
  have k3 := h3
  have lt3 : ∀ x ∈ p3, x.block < W.heap.size := by obtain ⟨m, hm⟩ := k3; exact DataW.trod_lt m _ _ _ hm
  obtain ⟨z3, w3⟩ : ∃ zs, IsRow .u8 W a3 len3 cap3 zs := by
    obtain ⟨fuel, hf⟩ := h3
    rcases open_ints Try.underlying52 Try.underlying5 (by kernel_rfl) hf with ⟨hcs, _⟩ | ⟨x, l, c, zs, hcs, _, hl, hm, hz, _, hcell, hwz⟩
    · simp [Value.cells] at hcs
      obtain ⟨rfl, rfl, rfl⟩ := hcs
      exact ⟨[], .inl ⟨rfl, rfl, rfl, rfl⟩⟩
    · simp [Value.cells] at hcs
      obtain ⟨rfl, rfl, rfl⟩ := hcs
      exact ⟨zs, .inr ⟨_, rfl, hl, hm, by simpa using hz, hcell, hwz⟩⟩
  clear hA0 hval0 hsz0 hsz
  refine (wrong_row F0 a1 a2 a3 len3 cap3 z3 W hF0 w2 w3).mono fun e W' ⟨he, bel⟩ => ?_
  subst he
  exact ⟨_, rfl, _, _, _, [], _, [], hW', trodAll_mk1 (shut_bool Try.underlying4 _), (trodAll_cons_mk (Below.trod laidOut (by kernel_rfl) (of_decide_eq_true (by kernel_rfl)) k0 bel lt0) (trodAll_cons_mk (shut_int Try.underlying3 w1) (trodAll_cons_mk (shut_int Try.underlying5 w2) (trodAll_cons_mk (Below.trod laidOut (by kernel_rfl) (of_decide_eq_true (by kernel_rfl)) k3 bel lt3) trodAll_mk0)))), rfl, bel.frame _, fun h => by cases h⟩
theorem over : Rows.furrowWrongRow.holds Try.pinned (OpenSpec.ofChange Rows.furrowWrongSpec) :=
  OpenClaim.holds_of_wide 8 Try.f8 rfl rfl rfl rfl rfl rfl rfl ⟨rfl, rfl, rfl, rfl, rfl⟩ rfl rfl rfl rfl rfl (by kernel_rfl) Try.func8 (by kernel_rfl)
    (of_decide_eq_true (by kernel_rfl)) (by unfold Func.isWrapper; first | (rw [if_pos (by decide +kernel)]; kernel_rfl) | (rw [if_neg (by decide +kernel)]; exact ⟨rfl, rfl⟩))
    (fun os started H enc _ => lifted os started H enc)
theorem proved : Rows.FurrowWrongSaid := over
#print axioms proved
end Go.Proofs.Ytafmgmaelnpehaa.furrowWrong
namespace Go.Proofs.Ytafmgmaelnpehaa
/-- The row, under a short name, for the claim. -/
theorem furrowWrong_holds : Rows.FurrowWrongSaid := furrowWrong.proved
end Go.Proofs.Ytafmgmaelnpehaa
end
