/- Proved: FurrowMore returns true for all furrows and numbers, in whatever order Go evaluates what it leaves open; no condition. -/
import Derived.Test.YtafmgmaelnpehaaC3
import Derived.Test.YtafmgmaelnpehaaC1
import Derived.Lib.Hide
import Derived.ArgAppend
import Derived.Test.YtafmgmaelnpehaaC2
import Derived.Deep.SlicePairs
import Derived.Lib.SmallJoins
import Derived.Carry
import Derived.ChangeArms
import Derived.ChangeOld
import Derived.WideShapes
import Derived.Test.YtafmgmaelnpehaaRows
import Derived.WalkKit
import Derived.ProofKit
import Derived.OpenShut
import Derived.ShutString
import Derived.Below
import Derived.SizedLaws
section
set_option linter.unusedVariables false
set_option linter.unusedSimpArgs false
namespace Go.Proofs.Ytafmgmaelnpehaa
open Go.RowKit Go.Fu PFurrowAsks Go.Proofs.YtafmgmaelnpehaaW.PrintWords
/-! ### Bits -/
theorem or_all : (List.range 8).all (fun k => (List.range (2 ^ k)).all fun s => bits .or .i64 (s : Int) (wrap64 (2 ^ k)) == ((s + 2 ^ k : Nat) : Int)) = true := by kernel_rfl
theorem or_is (k s : Nat) (hk : k < 8) (hs : s < 2 ^ k) : bits .or .i64 (s : Int) (wrap64 (2 ^ k)) = ((s + 2 ^ k : Nat) : Int) := by
  have h := List.all_eq_true.1 or_all k (List.mem_range.2 hk)
  have h2 := List.all_eq_true.1 h s (List.mem_range.2 hs)
  exact eq_of_beq h2
/-- A set of stations, as a number. -/
def setN (p : Nat → Bool) : Nat → Nat
  | 0 => 0
  | k + 1 => setN p k + if p k then 2 ^ k else 0
theorem setN_lt (p : Nat → Bool) : ∀ k, setN p k < 2 ^ k
  | 0 => by simp [setN]
  | k + 1 => by
    have := setN_lt p k
    unfold setN
    rw [Nat.pow_succ]
    split <;> omega
theorem shM_set (p : Nat → Bool) : ∀ k, k ≤ 8 → shM p k = ((setN p k : Nat) : Int)
  | 0, _ => rfl
  | k + 1, h => by
    unfold shM setN
    rw [shM_set p k (by omega)]
    split
    · rw [or_is k _ (by omega) (setN_lt p k)]
    · simp
theorem setN_bit (p : Nat → Bool) : ∀ (n i : Nat), setN p n / 2 ^ i % 2 = if i < n ∧ p i = true then 1 else 0
  | 0, i => by simp [setN]
  | n + 1, i => by
    have ih := setN_bit p n i
    have hlt := setN_lt p n
    unfold setN
    rcases Nat.lt_trichotomy i n with h | h | h
    · have e : (setN p n + if p n = true then 2 ^ n else 0) / 2 ^ i % 2 = setN p n / 2 ^ i % 2 := by
        split
        · have : 2 ^ n = 2 ^ i * (2 * 2 ^ (n - i - 1)) := by
            rw [← Nat.pow_succ', ← Nat.pow_add]
            congr 1
            omega
          rw [this, Nat.add_mul_div_left _ _ (Nat.two_pow_pos i), Nat.add_mul_mod_self_left]
        · simp
      rw [e, ih]
      congr 1
      apply propext
      constructor
      · rintro ⟨_, h2⟩; exact ⟨by omega, h2⟩
      · rintro ⟨_, h2⟩; exact ⟨h, h2⟩
    · subst h
      split
      · rename_i hp
        rw [Nat.add_div_right _ (Nat.two_pow_pos i), Nat.div_eq_of_lt hlt]
        simp [hp]
      · rename_i hp
        rw [Nat.add_zero, Nat.div_eq_of_lt hlt]
        simp [hp]
    · have : setN p n + (if p n = true then 2 ^ n else 0) < 2 ^ i := by
        have h1 : 2 ^ (n + 1) ≤ 2 ^ i := Nat.pow_le_pow_right (by omega) (by omega)
        rw [Nat.pow_succ] at h1
        split <;> omega
      rw [Nat.div_eq_of_lt this]
      simp
      intro h1
      omega
end Go.Proofs.Ytafmgmaelnpehaa
end

section
set_option linter.unusedVariables false
set_option linter.unusedSimpArgs false
namespace Go.Proofs.Ytafmgmaelnpehaa
open Go.RowKit Go.Fu
theorem bendI_nn (a b c : Int) : 0 ≤ bendI a b c := by unfold bendI; split <;> omega
theorem bnd_nn (x : Nat → Int) (n : Nat) : 0 ≤ bnd x n := bendI_nn _ _ _
def allBends (A B C : List Int) : List Int := A.flatMap fun a => B.flatMap fun b => C.map fun c => bendI a b c
theorem stA_eq (A B C : List Int) (st : Bool × Int × Int) : stA A B C st = (allBends A B C).foldl step1 st := by
  unfold stA allBends stB stC
  rw [List.foldl_flatMap]
  congr 1
  funext s a
  rw [List.foldl_flatMap]
  congr 1
  funext s b
  rw [List.foldl_map]
theorem step_fold : ∀ (L : List Int) (lo hi : Int), lo ≤ hi → ∃ lo' hi', L.foldl step1 (true, lo, hi) = (true, lo', hi') ∧ lo' ≤ lo ∧ hi ≤ hi' ∧ (lo' = lo ∨ lo' ∈ L) ∧ (hi' = hi ∨ hi' ∈ L) ∧ ∀ v ∈ L, lo' ≤ v ∧ v ≤ hi'
  | [], lo, hi, h => ⟨lo, hi, rfl, Int.le_refl _, Int.le_refl _, .inl rfl, .inl rfl, fun v hv => by cases hv⟩
  | v :: L, lo, hi, h => by
    obtain ⟨lo', hi', h1, h2, h3, h4, h5, h6⟩ := step_fold L (if v < lo then v else lo) (if hi < v then v else hi) (by split <;> split <;> omega)
    refine ⟨lo', hi', ?_, ?_, ?_, ?_, ?_, ?_⟩
    · rw [List.foldl_cons]; exact h1
    · split at h2 <;> omega
    · split at h3 <;> omega
    · rcases h4 with h4 | h4
      · split at h4
        · exact .inr (by rw [h4]; exact List.mem_cons_self)
        · exact .inl h4
      · exact .inr (List.mem_cons_of_mem _ h4)
    · rcases h5 with h5 | h5
      · split at h5
        · exact .inr (by rw [h5]; exact List.mem_cons_self)
        · exact .inl h5
      · exact .inr (List.mem_cons_of_mem _ h5)
    · intro u hu
      rcases List.mem_cons.1 hu with rfl | hu
      · constructor
        · split at h2 <;> omega
        · split at h3 <;> omega
      · exact h6 u hu
theorem fold_spec (L : List Int) (hL : L ≠ []) : ((L.foldl step1 (false, 0, 0)).2.1 ∈ L ∧ (L.foldl step1 (false, 0, 0)).2.2 ∈ L) ∧ ∀ v ∈ L, (L.foldl step1 (false, 0, 0)).2.1 ≤ v ∧ v ≤ (L.foldl step1 (false, 0, 0)).2.2 := by
  cases L with
  | nil => exact absurd rfl hL
  | cons v L =>
    have e : (v :: L).foldl step1 (false, 0, 0) = L.foldl step1 (true, v, v) := rfl
    obtain ⟨lo', hi', h1, h2, h3, h4, h5, h6⟩ := step_fold L v v (Int.le_refl _)
    rw [e, h1]
    refine ⟨⟨?_, ?_⟩, fun u hu => ?_⟩
    · rcases h4 with h4 | h4
      · show lo' ∈ _; rw [h4]; exact List.mem_cons_self
      · exact List.mem_cons_of_mem _ h4
    · rcases h5 with h5 | h5
      · show hi' ∈ _; rw [h5]; exact List.mem_cons_self
      · exact List.mem_cons_of_mem _ h5
    · rcases List.mem_cons.1 hu with rfl | hu
      · exact ⟨h2, h3⟩
      · exact h6 u hu
theorem mem_bends (A B C : List Int) (v : Int) : v ∈ allBends A B C ↔ ∃ a ∈ A, ∃ b ∈ B, ∃ c ∈ C, bendI a b c = v := by simp [allBends]
/-- Three offsets beside one another are those of some truth. -/
theorem truth_three {l : List (Int × Int)} (hok : ∀ x ∈ l, okSpan x) {n : Nat} (h1 : 1 ≤ n) (h2 : n + 1 < l.length) {a b c : Int} (ha : InS l (n - 1) a) (hb : InS l n b) (hc : InS l (n + 1) c) : ∃ x, Truth l x ∧ bnd x n = bendI a b c := by
  refine ⟨fun i => if i = n - 1 then a else if i = n then b else if i = n + 1 then c else (l.getD i (0, 0)).1, fun i hi => ?_, ?_⟩
  · simp only
    by_cases e1 : i = n - 1
    · rw [if_pos e1, e1]; exact ha
    · rw [if_neg e1]
      by_cases e2 : i = n
      · rw [if_pos e2, e2]; exact hb
      · rw [if_neg e2]
        by_cases e3 : i = n + 1
        · rw [if_pos e3, e3]; exact hc
        · rw [if_neg e3]; exact lo_in hok i hi
  · unfold bnd
    simp only
    simp only [if_true, show n ≠ n - 1 by omega, show n + 1 ≠ n - 1 by omega, show n + 1 ≠ n by omega, if_false]
structure AtSpec (l : List (Int × Int)) (n : Nat) (s : Int × Int) : Prop where
  all : ∀ x, Truth l x → s.1 ≤ bnd x n ∧ bnd x n ≤ s.2
  lo : ∃ x, Truth l x ∧ bnd x n = s.1
  hi : ∃ x, Truth l x ∧ bnd x n = s.2
theorem at_spec (l : List (Int × Int)) (n : Nat) (h1 : 1 ≤ n) (h2 : n + 1 < l.length) (hok : ∀ x ∈ l, okSpan x) : AtSpec l n (atF l n) := by
  have hm : ∀ v, v ∈ allBends (spanL (l.getD (n - 1) (0, 0))) (spanL (l.getD n (0, 0))) (spanL (l.getD (n + 1) (0, 0))) ↔ ∃ a, InS l (n - 1) a ∧ ∃ b, InS l n b ∧ ∃ c, InS l (n + 1) c ∧ bendI a b c = v := by
    intro v
    rw [mem_bends]
    simp only [mem_in]
  have he : atF l n = ((allBends (spanL (l.getD (n - 1) (0, 0))) (spanL (l.getD n (0, 0))) (spanL (l.getD (n + 1) (0, 0)))).foldl step1 (false, 0, 0)).2 := by
    unfold atF
    rw [stA_eq]
  have hne : allBends (spanL (l.getD (n - 1) (0, 0))) (spanL (l.getD n (0, 0))) (spanL (l.getD (n + 1) (0, 0))) ≠ [] := by
    intro e
    have := (hm (bendI (l.getD (n - 1) (0, 0)).1 (l.getD n (0, 0)).1 (l.getD (n + 1) (0, 0)).1)).2 ⟨_, lo_in hok _ (by omega), _, lo_in hok _ (by omega), _, lo_in hok _ (by omega), rfl⟩
    rw [e] at this
    cases this
  obtain ⟨⟨s1, s2⟩, s3⟩ := fold_spec _ hne
  rw [← he] at s1 s2 s3
  refine ⟨fun x hx => s3 _ ((hm _).2 ⟨_, hx _ (by omega), _, hx _ (by omega), _, hx _ h2, rfl⟩), ?_, ?_⟩
  · obtain ⟨a, ha, b, hb, c, hc, e⟩ := (hm _).1 s1
    obtain ⟨x, hx, hbx⟩ := truth_three hok h1 h2 ha hb hc
    exact ⟨x, hx, hbx.trans e⟩
  · obtain ⟨a, ha, b, hb, c, hc, e⟩ := (hm _).1 s2
    obtain ⟨x, hx, hbx⟩ := truth_three hok h1 h2 ha hb hc
    exact ⟨x, hx, hbx.trans e⟩
/-- The greatest bend at the stations 1 to k. -/
def mostF (x : Nat → Int) : Nat → Int
  | 0 => 0
  | k + 1 => if mostF x k < bnd x (k + 1) then bnd x (k + 1) else mostF x k
theorem mostF_nn (x : Nat → Int) : ∀ k, 0 ≤ mostF x k
  | 0 => Int.le_refl _
  | k + 1 => by have := mostF_nn x k; have := bnd_nn x (k + 1); unfold mostF; split <;> omega
theorem mostF_le (x : Nat → Int) (m : Int) (hm : 0 ≤ m) : ∀ k, mostF x k ≤ m ↔ ∀ n, 1 ≤ n → n ≤ k → bnd x n ≤ m
  | 0 => ⟨fun _ n h1 h2 => by omega, fun _ => hm⟩
  | k + 1 => by
    have ih := mostF_le x m hm k
    unfold mostF
    constructor
    · intro h n h1 h2
      by_cases e : n = k + 1
      · subst e; split at h <;> omega
      · exact ih.1 (by split at h <;> omega) n h1 (by omega)
    · intro h
      have h3 := h (k + 1) (by omega) (Nat.le_refl _)
      have h4 := ih.2 fun n h1 h2 => h n h1 (by omega)
      split <;> omega
theorem mostF_at (x : Nat → Int) : ∀ k, mostF x k = 0 ∨ ∃ n, 1 ≤ n ∧ n ≤ k ∧ bnd x n = mostF x k
  | 0 => .inl rfl
  | k + 1 => by
    unfold mostF
    split
    · exact .inr ⟨k + 1, by omega, Nat.le_refl _, rfl⟩
    · rcases mostF_at x k with h | ⟨n, h1, h2, h3⟩
      · exact .inl h
      · exact .inr ⟨n, h1, by omega, h3⟩
/-- The bend of the furrow that lies so. -/
def mostL (l : List (Int × Int)) (x : Nat → Int) : Int := mostF x (l.length - 2)
theorem mostL_le {l : List (Int × Int)} {x : Nat → Int} {m : Int} (hm : 0 ≤ m) : mostL l x ≤ m ↔ ∀ n, 1 ≤ n → n + 1 < l.length → bnd x n ≤ m := by
  unfold mostL
  rw [mostF_le x m hm]
  exact ⟨fun h n h1 h2 => h n h1 (by omega), fun h n h1 h2 => h n h1 (by omega)⟩
theorem bnd_le_most {l : List (Int × Int)} {x : Nat → Int} {n : Nat} (h1 : 1 ≤ n) (h2 : n + 1 < l.length) : bnd x n ≤ mostL l x := (mostL_le (mostF_nn x _)).1 (Int.le_refl _) n h1 h2
theorem canB_most {l : List (Int × Int)} (hok : ∀ x ∈ l, okSpan x) {m : Int} (hm : 0 ≤ m) : canB l (upP m) = true ↔ ∃ x, Truth l x ∧ mostL l x ≤ m := by
  rw [canB_iff l _ hok]
  constructor
  · rintro ⟨x, hx, h⟩
    exact ⟨x, hx, (mostL_le hm).2 fun n h1 h2 => of_decide_eq_true (h n h1 h2)⟩
  · rintro ⟨x, hx, h⟩
    exact ⟨x, hx, fun n h1 h2 => decide_eq_true ((mostL_le hm).1 h n h1 h2)⟩
theorem least_spec (l : List (Int × Int)) (hok : ∀ x ∈ l, okSpan x) : (∃ x, Truth l x ∧ mostL l x = leastN l) ∧ ∀ x, Truth l x → (leastN l : Int) ≤ mostL l x := by
  have hl := leastN_is l hok
  have hall : ∀ x, Truth l x → (leastN l : Int) ≤ mostL l x := by
    intro x hx
    refine Int.not_lt.1 fun hlt => ?_
    have h0 := mostF_nn x (l.length - 2)
    obtain ⟨k, hk⟩ : ∃ k : Nat, mostL l x = k := ⟨(mostL l x).toNat, by unfold mostL; omega⟩
    have h1 := hl.2 k (by omega)
    have h2 := (canB_most hok (m := (k : Int)) (by omega)).2 ⟨x, hx, by omega⟩
    rw [h1] at h2
    cases h2
  obtain ⟨x, hx, hm⟩ := (canB_most hok (m := ((leastN l : Nat) : Int)) (by omega)).1 hl.1
  exact ⟨⟨x, hx, by have := hall x hx; omega⟩, hall⟩
theorem lo_truth {l : List (Int × Int)} (hok : ∀ x ∈ l, okSpan x) : Truth l fun i => (l.getD i (0, 0)).1 := fun i hi => lo_in hok i hi
theorem hiF_all (l : List (Int × Int)) (hok : ∀ x ∈ l, okSpan x) : ∀ k, k + 2 ≤ l.length ∨ k = 0 → 0 ≤ hiF l k ∧ (∀ n, 1 ≤ n → n ≤ k → (atF l n).2 ≤ hiF l k) ∧ (hiF l k = 0 ∨ ∃ n, 1 ≤ n ∧ n ≤ k ∧ (atF l n).2 = hiF l k)
  | 0, _ => ⟨Int.le_refl _, fun n h1 h2 => by omega, .inl rfl⟩
  | k + 1, h => by
    obtain ⟨i1, i2, i3⟩ := hiF_all l hok k (by omega)
    unfold hiF
    refine ⟨by split <;> omega, fun n h1 h2 => ?_, ?_⟩
    · by_cases e : n = k + 1
      · subst e; split <;> omega
      · have := i2 n h1 (by omega); split <;> omega
    · split
      · exact .inr ⟨k + 1, by omega, Nat.le_refl _, rfl⟩
      · rcases i3 with i3 | ⟨n, h1, h2, h3⟩
        · exact .inl i3
        · exact .inr ⟨n, h1, by omega, h3⟩
theorem hi_spec (l : List (Int × Int)) (hok : ∀ x ∈ l, okSpan x) : (∃ x, Truth l x ∧ mostL l x = hiF l (l.length - 2)) ∧ ∀ x, Truth l x → mostL l x ≤ hiF l (l.length - 2) := by
  obtain ⟨i1, i2, i3⟩ := hiF_all l hok (l.length - 2) (by omega)
  have hall : ∀ x, Truth l x → mostL l x ≤ hiF l (l.length - 2) := fun x hx => (mostL_le i1).2 fun n h1 h2 => Int.le_trans ((at_spec l n h1 h2 hok).all x hx).2 (i2 n h1 (by omega))
  refine ⟨?_, hall⟩
  rcases i3 with i3 | ⟨n, h1, h2, h3⟩
  · refine ⟨_, lo_truth hok, ?_⟩
    have := hall _ (lo_truth hok)
    have := mostF_nn (fun i => (l.getD i (0, 0)).1) (l.length - 2)
    unfold mostL at *
    omega
  · obtain ⟨x, hx, hb⟩ := (at_spec l n h1 (by omega) hok).hi
    refine ⟨x, hx, ?_⟩
    have := hall x hx
    have := bnd_le_most (l := l) (x := x) h1 (by omega)
    omega
/-! ### Where it bends most -/
theorem worstC_iff (l : List (Int × Int)) (n : Nat) (h1 : 1 ≤ n) (h2 : n + 1 < l.length) (hok : ∀ x ∈ l, okSpan x) : worstC l n = true ↔ ∃ x, Truth l x ∧ ∀ i, 1 ≤ i → i + 1 < l.length → bnd x i ≤ bnd x n := by
  have hs := at_spec l n h1 h2 hok
  unfold worstC
  simp only [Bool.and_eq_true, decide_eq_true_eq, List.any_eq_true, h1, true_and]
  constructor
  · rintro ⟨own, ho, hc⟩
    obtain ⟨x, hx, hp⟩ := (canB_iff l _ hok).1 hc
    refine ⟨x, hx, fun i i1 i2 => ?_⟩
    have hn := hp n h1 h2
    have hi := hp i i1 i2
    unfold wp1 at hn hi
    simp only [Bool.or_eq_true, decide_eq_true_eq, Bool.and_eq_true, Bool.not_eq_true', decide_eq_false_iff_not] at hn hi
    rcases hn with hn | hn
    · rcases hi with hi | hi <;> omega
    · exact absurd trivial hn.2
  · rintro ⟨x, hx, hm⟩
    refine ⟨bnd x n, (mem_spanL _ _).2 (hs.all x hx), (canB_iff l _ hok).2 ⟨x, hx, fun i i1 i2 => ?_⟩⟩
    unfold wp1
    simp only [Bool.or_eq_true, decide_eq_true_eq, Bool.and_eq_true, Bool.not_eq_true', decide_eq_false_iff_not]
    have := hm i i1 i2
    by_cases e : bnd x i = bnd x n
    · exact .inl e
    · refine .inr ⟨by omega, fun e2 => e ?_⟩
      have : i = n := by exact_mod_cast e2
      rw [this]
theorem worstS_iff (l : List (Int × Int)) (n : Nat) (h1 : 1 ≤ n) (h2 : n + 1 < l.length) (hok : ∀ x ∈ l, okSpan x) : worstS l n = true ↔ ∀ x, Truth l x → ∀ i, 1 ≤ i → i + 1 < l.length → bnd x i ≤ bnd x n := by
  have hs := at_spec l n h1 h2 hok
  unfold worstS
  simp only [Bool.and_eq_true, decide_eq_true_eq, Bool.not_eq_true', h1, true_and, List.any_eq_false]
  constructor
  · intro h x hx i i1 i2
    refine Int.not_lt.1 fun hlt => ?_
    have hne : i ≠ n := by rintro rfl; omega
    refine h (bnd x n) ((mem_spanL _ _).2 (hs.all x hx)) ?_
    unfold lessO
    rw [List.any_eq_true]
    refine ⟨i, List.mem_range.2 (by omega), ?_⟩
    simp only [Bool.and_eq_true, decide_eq_true_eq, Bool.not_eq_true', decide_eq_false_iff_not]
    refine ⟨⟨i1, hne⟩, (canB_iff l _ hok).2 ⟨x, hx, fun m m1 m2 => ?_⟩⟩
    unfold wp2
    simp only [Bool.or_eq_true, decide_eq_true_eq, Bool.and_eq_true, Bool.not_eq_true', decide_eq_false_iff_not]
    constructor
    · by_cases e : m = n
      · exact .inr (by rw [e])
      · exact .inl (by omega)
    · by_cases e : m = i
      · exact .inr (by rw [e]; exact hlt)
      · exact .inl (by omega)
  · intro h own ho hl
    unfold lessO at hl
    rw [List.any_eq_true] at hl
    obtain ⟨i, hi, hc⟩ := hl
    simp only [Bool.and_eq_true, decide_eq_true_eq, Bool.not_eq_true', decide_eq_false_iff_not] at hc
    have hir := List.mem_range.1 hi
    obtain ⟨x, hx, hp⟩ := (canB_iff l _ hok).1 hc.2
    have a := hp n h1 h2
    have b := hp i hc.1.1 (by omega)
    unfold wp2 at a b
    simp only [Bool.or_eq_true, decide_eq_true_eq, Bool.and_eq_true, Bool.not_eq_true', decide_eq_false_iff_not] at a b
    have := h x hx i hc.1.1 (by omega)
    have ha : bnd x n = own := by rcases a.1 with a | a <;> first | exact a | exact absurd trivial a
    have hb : own < bnd x i := by rcases b.2 with b | b <;> first | exact b | exact absurd trivial b
    omega
end Go.Proofs.Ytafmgmaelnpehaa
end

section
namespace Go.Proofs.Ytafmgmaelnpehaa.PFurrowAsks
open Go.RowKit Go.Proofs.YtafmgmaelnpehaaW.PrintWords Go.Proofs.YtafmgmaelnpehaaW.PrintLast Go.Proofs.YtafmgmaelnpehaaW.PrintMore
attribute [local go_sem] max2_int min2_int max_two min_two max_three min_three max_four min_four   -- for this text's walks alone
set_option linter.unusedVariables false
set_option linter.unusedSimpArgs false

/-! ### furrowworksref04_Size: function 37 -/
def furrowworksref04_Size.l0 : Nat → Int → Int → Option (Int)
  | 0, _, _ => none
  | k + 1, x0, x3 => if x0 > 0 then (furrowworksref04_Size.l0 k (wrap64 (Int.tdiv x0 2)) (wrap64 (x3 + (Int.tmod x0 2)))) else (some x3)
def furrowworksref04_Size.f (k : Nat) (a0 : Int) : Option (Int) := furrowworksref04_Size.l0 k a0 0
theorem furrowworksref04_Size.mono_l : ∀ k, (∀ y0 y1, LeO (furrowworksref04_Size.l0 k y0 y1) (furrowworksref04_Size.l0 (k + 1) y0 y1))
  | 0 => fun _ _ r h => by simp [furrowworksref04_Size.l0] at h
  | k + 1 => by
    have ih0 := furrowworksref04_Size.mono_l k
    · intro y0 y1
      unfold furrowworksref04_Size.l0
      repeat' first
      | (with_reducible exact ih0 _ _)
      | (with_reducible exact LeO.refl _)
      | (with_reducible exact LeO.none _)
      | (with_reducible refine LeO.ite ?_ ?_)
      | (with_reducible refine LeO.bind ?_ (fun _ => ?_))
      | exact ih0 _ _
      | exact LeO.none _
      | refine LeO.ite ?_ ?_
      | refine LeO.bind ?_ (fun _ => ?_)
theorem furrowworksref04_Size.mono : ∀ a0 k, LeO (furrowworksref04_Size.f k a0) (furrowworksref04_Size.f (k + 1) a0) := by
  intro a0 k
  have ih0 := furrowworksref04_Size.mono_l k
  unfold furrowworksref04_Size.f
  repeat' first
      | (with_reducible exact ih0 _ _)
      | (with_reducible exact LeO.refl _)
      | (with_reducible exact LeO.none _)
      | (with_reducible refine LeO.ite ?_ ?_)
      | (with_reducible refine LeO.bind ?_ (fun _ => ?_))
      | exact ih0 _ _
      | exact LeO.none _
      | refine LeO.ite ?_ ?_
      | refine LeO.bind ?_ (fun _ => ?_)
set_option maxHeartbeats 8000000 in
set_option maxRecDepth 100000 in
theorem furrowworksref04_Size.calls (k : Nat) (a0 : Int) (r : Int) (w : World) (h : furrowworksref04_Size.f k a0 = some r) :
    Calls Try.prog 37 #[.int .i64 a0] w fun e w' => e = .returned (.int .i64 r) ∧ Drawn0 w w' := by
  have H : (furrowworksref04_Size.l0 k a0 0) = some r := h
  clear h
  have H' := Aside0.mk H
  clear H
  go_enter Try.func37, Try.ntmps37
  go_wp2
  go_loopg [0, 3] k (fun kq v0 v3 w' => ∃ (x0_1 : Int) (x3_1 : Int), v0 = .int .i64 x0_1 ∧ v3 = .int .i64 x3_1 ∧ Aside0 (furrowworksref04_Size.l0 kq x0_1 x3_1 = some r) ∧ Aside0 (kq ≤ k) ∧ Drawn0 w w')
  case atStart => exact ⟨(a0), (0), (by first | rfl | (simp; done) | (simp [*]; done)), (by first | rfl | (simp; done) | (simp [*]; done)), H', ⟨Nat.le_refl _⟩, by repeat (first | exact Drawn0.refl _ | apply Drawn0.step)⟩
  case round =>
    clear H'
    obtain ⟨x0_1, x3_1, rfl, rfl, HA, HK1, ⟨m1, rfl⟩⟩ := hrel
    cases gk with
    | zero => exact absurd HA.out (by simp [furrowworksref04_Size.l0])
    | succ k1 =>
      have H := HA.out
      clear HA
      simp only [furrowworksref04_Size.l0] at H
      by_cases c2 : x0_1 > 0
      · rw [if_pos c2] at H
        have c2b0 : decide (0 < x0_1) = true := decide_eq_true c2
        clear c2
        have H' := Aside0.mk H
        clear H
        go_wp2
        go_roundg k1
        case measure => have := HK1.out; omega
        case rel => exact ⟨(wrap64 (Int.tdiv x0_1 2)), (wrap64 (x3_1 + (Int.tmod x0_1 2))), (by first | rfl | (simp; done) | (simp [*]; done)), (by first | rfl | (simp; done) | (simp [*]; done)), H', ⟨by have := HK1.out; omega⟩, by repeat (first | exact Drawn0.refl _ | apply Drawn0.step)⟩
      · rw [if_neg c2] at H
        have c2b0 : decide (0 < x0_1) = false := decide_eq_false c2
        clear c2
        obtain rfl := Option.some.inj H
        go_wp2
        go_ret
        exact ⟨by first | rfl | (simp; done) | (simp [*]; done), by repeat (first | exact Drawn0.refl _ | apply Drawn0.step)⟩

end Go.Proofs.Ytafmgmaelnpehaa.PFurrowAsks
end

section
set_option linter.unusedVariables false
set_option linter.unusedSimpArgs false
namespace Go.Proofs.Ytafmgmaelnpehaa
open Go.RowKit Go.TL Go.Shelf Go.Fu
open PFurrowAsks Go.Proofs.YtafmgmaelnpehaaW.PrintWords
theorem only_normal {M : Array Value → World → Prop} {e : Exit} {t : Array Value} {W : World} (h : andThen M (fun _ _ _ => False) e t W) : e = .normal ∧ M t W := by
  cases e <;> first | exact ⟨rfl, h⟩ | exact False.elim h
theorem box3_below {W W' : World} {B : Nat} {t : TypeId} {a b c : Value} (h : Below W.heap.size W W') (hb : Box3 W B t a b c) : Box3 W' B t a b c := (h.block _ hb.lt).trans hb
theorem wrap_id {a : Int} (h1 : -1000000000 ≤ a) (h2 : a ≤ 1000000000) : wrap64 a = a := by unfold wrap64; omega
theorem size_l : ∀ (j s c : Nat), s < 2 ^ j → j ≤ 8 → c + j ≤ 100 → Ev (fun k => furrowworksref04_Size.l0 k s c) (((c + ones j s : Nat) : Int))
  | 0, s, c, h, _, _ => by
    obtain rfl : s = 0 := by simpa using h
    refine ⟨1, fun k hk => ?_⟩
    obtain ⟨k, rfl⟩ : ∃ m, k = m + 1 := ⟨k - 1, by omega⟩
    simp only [furrowworksref04_Size.l0]
    rw [if_neg (by omega)]
    simp [ones]
  | j + 1, s, c, h, hj, hc => by
    have hs : s < 256 := Nat.lt_of_lt_of_le h (Nat.pow_le_pow_right (by omega) hj : 2 ^ (j + 1) ≤ 2 ^ 8)
    by_cases h0 : s = 0
    · subst h0
      have : ∀ j, ones j 0 = 0 := fun j => by induction j with
        | zero => rfl
        | succ j ih => simp [ones, ih]
      refine ⟨1, fun k hk => ?_⟩
      obtain ⟨k, rfl⟩ : ∃ m, k = m + 1 := ⟨k - 1, by omega⟩
      simp only [furrowworksref04_Size.l0]
      rw [if_neg (by omega), this]
      rfl
    · have ih := size_l j (s / 2) (c + s % 2) (by rw [Nat.pow_succ] at h; omega) (by omega) (by omega)
      refine Ev.step (f := fun k => furrowworksref04_Size.l0 k ((s / 2 : Nat) : Int) ((c + s % 2 : Nat) : Int)) (fun k => ?_) (by simpa [ones, Nat.add_assoc] using ih)
      simp only [furrowworksref04_Size.l0]
      have e1 : Int.tdiv (s : Int) 2 = ((s / 2 : Nat) : Int) := by rw [Int.tdiv_eq_ediv_of_nonneg (by omega)]; omega
      have e2 : Int.tmod (s : Int) 2 = ((s % 2 : Nat) : Int) := by rw [Int.tmod_eq_emod_of_nonneg (by omega)]; omega
      rw [if_pos (by omega), e1, e2, wrap_id (by omega) (by omega), wrap_id (by omega) (by omega)]
      norm_cast
theorem ones_le8 (j s : Nat) (h : s < 2 ^ j) (hj : j ≤ 8) : ones j s = ones 8 s := by
  have : ∀ (k j s : Nat), s < 2 ^ j → ones (j + k) s = ones j s := by
    intro k j
    induction j with
    | zero =>
      intro s h
      obtain rfl : s = 0 := by simpa using h
      have : ∀ j, ones j 0 = 0 := fun j => by induction j with
        | zero => rfl
        | succ j ih => simp [ones, ih]
      rw [this, this]
    | succ j ih =>
      intro s h
      rw [show j + 1 + k = (j + k) + 1 by omega]
      simp only [ones]
      rw [ih (s / 2) (by rw [Nat.pow_succ] at h; omega)]
  have := this (8 - j) j s h
  rw [show j + (8 - j) = 8 by omega] at this
  exact this.symm
theorem size_ev (s : Nat) (hs : s < 256) : Ev (fun k => furrowworksref04_Size.f k s) ((ones 8 s : Nat) : Int) := by
  have := size_l 8 s 0 hs (by omega) (by omega)
  rw [Nat.zero_add] at this
  exact this
theorem andn_all : (List.range 128).all (fun a => (List.range 128).all fun b => bits .andNot .i64 (a : Int) (b : Int) == 0 || (List.range 7).any fun i => a / 2 ^ i % 2 == 1 && b / 2 ^ i % 2 == 0) = true := by kernel_rfl
theorem andn_is (a b : Nat) (ha : a < 128) (hb : b < 128) (h : ∀ i, i < 7 → a / 2 ^ i % 2 = 1 → b / 2 ^ i % 2 = 1) : bits .andNot .i64 (a : Int) (b : Int) = 0 := by
  have h1 := List.all_eq_true.1 andn_all a (List.mem_range.2 ha)
  have h2 := List.all_eq_true.1 h1 b (List.mem_range.2 hb)
  rcases Bool.or_eq_true_iff.1 h2 with h3 | h3
  · exact eq_of_beq h3
  · obtain ⟨i, hi, h4⟩ := List.any_eq_true.1 h3
    rw [Bool.and_eq_true, beq_iff_eq, beq_iff_eq] at h4
    have := h i (List.mem_range.1 hi) h4.1
    omega
theorem andb_all : (List.range 256).all (fun s => (List.range 8).all fun k => bits .and .i64 ((s : Int) / 2 ^ k) 1 == ((s / 2 ^ k % 2 : Nat) : Int)) = true := by kernel_rfl
theorem andb_is (s k : Nat) (hs : s < 256) (hk : k < 8) : bits .and .i64 ((s : Int) / 2 ^ k) 1 = ((s / 2 ^ k % 2 : Nat) : Int) := by
  have h := List.all_eq_true.1 andb_all s (List.mem_range.2 hs)
  have h2 := List.all_eq_true.1 h k (List.mem_range.2 hk)
  exact eq_of_beq h2
theorem set_sub {p q : Nat → Bool} {n : Nat} (h : ∀ i, i < n → p i = true → q i = true) (i : Nat) (hi : setN p n / 2 ^ i % 2 = 1) : setN q n / 2 ^ i % 2 = 1 := by
  rw [setN_bit] at hi ⊢
  split at hi
  · rename_i hc
    rw [if_pos ⟨hc.1, h i hc.1 hc.2⟩]
  · cases hi
theorem refFurrow_c (F : Fur) (w : World) (h : F.At w) : Calls Try.prog 36 #[F.val] w fun e w' => e = .returned (.bool F.va) ∧ Below w.heap.size w w' :=
  furrowworksref04_Furrow.calls 20 F.A0 F.c0 F.l0 F.A1 F.c1 F.l1 F.A2 F.c2 F.l2 _ w h.r0 h.h0 h.r1 h.h1 h.r2 h.h2 (refFurrow_is _ _ _)
theorem size_c (s : Nat) (hs : s < 256) (w : World) : Calls Try.prog 37 #[.int .i64 s] w fun e w' => e = .returned (.int .i64 ((ones 8 s : Nat) : Int)) ∧ Below w.heap.size w w' := by
  obtain ⟨k, hk⟩ := (size_ev s hs).rounds
  exact (furrowworksref04_Size.calls k s _ w hk).mono fun e w' ⟨a, b⟩ => ⟨a, b.below⟩
theorem worstS_pos {l : List (Int × Int)} {n : Nat} (h : worstS l n = true) : 1 ≤ n := by
  unfold worstS at h
  simp only [Bool.and_eq_true, decide_eq_true_eq] at h
  exact h.1
theorem worstC_pos {l : List (Int × Int)} {n : Nat} (h : worstC l n = true) : 1 ≤ n := by
  unfold worstC at h
  simp only [Bool.and_eq_true, decide_eq_true_eq] at h
  exact h.1
theorem canB_sub {l l' : List (Int × Int)} {p : Int → Int → Bool} (hok : ∀ x ∈ l, okSpan x) (hok' : ∀ x ∈ l', okSpan x) (hl : l'.length = l.length) (hs : ∀ i, i < l.length → (l.getD i (0, 0)).1 ≤ (l'.getD i (0, 0)).1 ∧ (l'.getD i (0, 0)).2 ≤ (l.getD i (0, 0)).2) (h : canB l' p = true) : canB l p = true := by
  obtain ⟨x, hx, hp⟩ := (canB_iff l' p hok').1 h
  refine (canB_iff l p hok).2 ⟨x, fun i hi => ?_, fun n h1 h2 => hp n h1 (by omega)⟩
  have a := hx i (by omega)
  have b := hs i hi
  unfold InS at a ⊢
  omega
end Go.Proofs.Ytafmgmaelnpehaa
end

section
set_option linter.unusedVariables false
set_option linter.unusedSimpArgs false
namespace Go.Proofs.Ytafmgmaelnpehaa
open Go.RowKit Go.TL Go.Fu
open PFurrowAsks Go.Proofs.YtafmgmaelnpehaaW.PrintWords
/-- Spans that lie in those of another list. -/
structure Sub2 (l l' : List (Int × Int)) : Prop where
  len : l'.length = l.length
  sub : ∀ i, i < l.length → (l.getD i (0, 0)).1 ≤ (l'.getD i (0, 0)).1 ∧ (l'.getD i (0, 0)).2 ≤ (l.getD i (0, 0)).2
theorem Sub2.truth {l l' : List (Int × Int)} (h : Sub2 l l') {x : Nat → Int} (hx : Truth l' x) : Truth l x := fun i hi => by
  have a := hx i (by rw [h.len]; exact hi)
  have b := h.sub i hi
  unfold InS at a ⊢
  omega
theorem Sub2.most {l l' : List (Int × Int)} (h : Sub2 l l') (x : Nat → Int) : mostL l' x = mostL l x := by unfold mostL; rw [h.len]
theorem sub_least {l l' : List (Int × Int)} (hok : ∀ x ∈ l, okSpan x) (hok' : ∀ x ∈ l', okSpan x) (h : Sub2 l l') : leastN l ≤ leastN l' := by
  obtain ⟨x, hx, hm⟩ := (least_spec l' hok').1
  have := (least_spec l hok).2 x (h.truth hx)
  rw [h.most] at hm
  omega
theorem sub_hi {l l' : List (Int × Int)} (hok : ∀ x ∈ l, okSpan x) (hok' : ∀ x ∈ l', okSpan x) (h : Sub2 l l') : hiF l' (l'.length - 2) ≤ hiF l (l.length - 2) := by
  obtain ⟨x, hx, hm⟩ := (hi_spec l' hok').1
  have := (hi_spec l hok).2 x (h.truth hx)
  rw [h.most] at hm
  omega
theorem sub_S {l l' : List (Int × Int)} (hok : ∀ x ∈ l, okSpan x) (hok' : ∀ x ∈ l', okSpan x) (h : Sub2 l l') {n : Nat} (h2 : n + 1 < l.length) (hs : worstS l n = true) : worstS l' n = true := by
  have h1 := worstS_pos hs
  refine (worstS_iff l' n h1 (by rw [h.len]; exact h2) hok').2 fun x hx i i1 i2 => ?_
  rw [h.len] at i2
  exact (worstS_iff l n h1 h2 hok).1 hs x (h.truth hx) i i1 i2
theorem sub_C {l l' : List (Int × Int)} (hok : ∀ x ∈ l, okSpan x) (hok' : ∀ x ∈ l', okSpan x) (h : Sub2 l l') {n : Nat} (h2 : n + 1 < l.length) (hs : worstC l' n = true) : worstC l n = true := by
  have h1 := worstC_pos hs
  obtain ⟨x, hx, hb⟩ := (worstC_iff l' n h1 (by rw [h.len]; exact h2) hok').1 hs
  refine (worstC_iff l n h1 h2 hok).2 ⟨x, h.truth hx, fun i i1 i2 => hb i i1 (by rw [h.len]; exact i2)⟩
theorem sub_wrong {l l' : List (Int × Int)} (hok : ∀ x ∈ l, okSpan x) (hok' : ∀ x ∈ l', okSpan x) (h : Sub2 l l') {most : Int} {r r' : Nat} (hw : IsWrong l most r) (hw' : IsWrong l' most r') : ones 8 r ≤ ones 8 r' := by
  refine (hw.min r' (by rw [← h.len]; exact hw'.lt) ?_).1
  refine canB_sub (freeS_ok _ _ hok) (freeS_ok _ _ hok') (by rw [freeS_len, freeS_len, h.len]) (fun i hi => ?_) hw'.can
  rw [freeS_len] at hi
  rw [freeS_get _ _ _ hi, freeS_get _ _ _ (by rw [h.len]; exact hi)]
  split
  · exact ⟨Int.le_refl _, Int.le_refl _⟩
  · exact h.sub i hi
theorem shM_lt {p : Nat → Bool} {n : Nat} (h : n ≤ 7) : setN p n < 128 := Nat.lt_of_lt_of_le (setN_lt p n) (show 2 ^ n ≤ 2 ^ 7 from Nat.pow_le_pow_right (by omega) h)
/-! ### One span of each row is made narrower -/
def narS (b : Bool) (s : S28) : S28 := if b then ⟨min s.f1 (s.f0 + 1), s.f1⟩ else ⟨s.f0, max s.f0 (s.f1 - 2)⟩
def narL (b : Bool) (l : List S28) (k : Nat) : List S28 := l.set k (narS b (rd_T28 l k))
theorem narL_len (b : Bool) (l : List S28) (k : Nat) : (narL b l k).length = l.length := by simp [narL]
theorem nar_in (b : Bool) (s : S28) (h : s.f0 ≤ s.f1) : s.f0 ≤ (narS b s).f0 ∧ (narS b s).f0 ≤ (narS b s).f1 ∧ (narS b s).f1 ≤ s.f1 := by
  unfold narS
  split
  · simp only; omega
  · simp only; omega
theorem narL_rd (b : Bool) (l : List S28) (k j : Nat) (hj : j < l.length) : rd_T28 (narL b l k) j = if j = k then narS b (rd_T28 l k) else rd_T28 l j := by
  unfold narL rd_T28
  by_cases e : k = j
  · subst e; simp [List.getElem?_set, hj]
  · simp [List.getElem?_set, e, Ne.symm e]
theorem nar_valid {l0 l1 l2 : List S28} (h : valid l0 l1 l2 = true) (b0 b1 b2 : Bool) (k : Nat) : valid (narL b0 l0 k) (narL b1 l1 k) (narL b2 l2 k) = true := by
  obtain ⟨h1, h2, h3, h4⟩ := valid_lens h
  unfold valid
  simp only [Bool.and_eq_true, decide_eq_true_eq, narL_len]
  refine ⟨⟨⟨h1, h2⟩, h3⟩, (stsOk_all _ _ _ _ _).2 fun j _ hj => ?_⟩
  have hj' : j < l0.length := by omega
  have hs := h4 j hj'
  rw [narL_rd b0 l0 k j hj', narL_rd b1 l1 k j (by omega), narL_rd b2 l2 k j (by omega)]
  by_cases e : j = k
  · subst e
    simp only [if_true]
    unfold stOk at hs ⊢
    simp only [Bool.and_eq_true, decide_eq_true_eq] at hs ⊢
    have a := nar_in b0 (rd_T28 l0 j) (by omega)
    have b := nar_in b1 (rd_T28 l1 j) (by omega)
    have c := nar_in b2 (rd_T28 l2 j) (by omega)
    omega
  · rw [if_neg e, if_neg e, if_neg e]; exact hs
end Go.Proofs.Ytafmgmaelnpehaa
end

section
set_option linter.unusedVariables false
set_option linter.unusedSimpArgs false
namespace Go.Proofs.Ytafmgmaelnpehaa
open Go.RowKit Go.TL Go.Shelf Go.Fu
attribute [local go_sem] Oper.semAt_some
open PFurrowAsks Go.Proofs.YtafmgmaelnpehaaW.PrintWords
theorem row_cells {W : World} {ad : Addr} {l : List S28} (hr : Row W (some ad) l) : ∀ j u, (flat (l.map toP))[j]? = some u → W.cell? (ad.add j) = some u := by
  intro j u hj
  have hjl : j < l.length * 2 := by
    have := (List.getElem?_eq_some_iff.1 hj).1
    rw [flat_len, List.length_map] at this
    exact this
  have hi : j / 2 < l.length := by omega
  obtain ⟨ad', hA', d0, d1⟩ := at_T28 hr ((j / 2 : Nat) : Int) (by omega) (by omega)
  cases hA'
  rw [Int.toNat_natCast] at d0 d1
  have hg := flat_get (l.map toP) (j / 2) (by simpa using hi)
  have hrd : rd_T28 l ((j / 2 : Nat) : Int) = l[j / 2]'hi := by
    generalize j / 2 = i at hi ⊢
    simp [rd_T28, hi]
  rw [hrd] at d0 d1
  rcases (show j = j / 2 * 2 ∨ j = j / 2 * 2 + 1 by omega) with hh | hh
  · have h1 := hg.1
    rw [← hh, hj] at h1
    rw [← hh] at d0
    rw [d0, h1]
    simp [toP]
  · have h1 := hg.2
    rw [← hh, hj] at h1
    rw [← add_field _ _ 1 (by omega), ← hh] at d1
    rw [d1, h1]
    simp [toP]
/-- append([]Span{}, row...). -/
theorem app_row {W : World} {ad : Addr} {l : List S28} {n c : Nat} (hr : Row W (some ad) l) (hn : l.length = n) (h1 : 0 < n) (h8 : n ≤ 8) (z : Addr) (ty : TypeId) :
    ∃ g c' W', (Builtin.append_ #[22, 22] ty #[.slice (some z) 0 0, .slice (some ad) n c]).run Try.prog W = .ok (.slice (some ⟨g, 0, none⟩) n c') W' ∧ W'.ownsRow W.heap.size 28 2 (.slice (some ⟨g, 0, none⟩) n c') n (flat (l.map toP)) ∧ W.grownBy W' none := by
  obtain ⟨i0, hi0, hz⟩ : ∃ i0, Try.prog.info? 28 = some i0 ∧ (i0.zero, i0.size, i0.bytes) = (some (.agg #[(.int .i64 0), (.int .i64 0)]), 2, 16) := by
    have := info28
    cases h : Try.prog.info? 28 with
    | none => rw [h] at this; cases this
    | some i0 => rw [h] at this; exact ⟨i0, rfl, Option.some.inj this⟩
  simp only [Prod.mk.injEq] at hz
  obtain ⟨hz0, hz1, hz2⟩ := hz
  obtain ⟨v', W', hrun, hown, hgr⟩ := run_append_arg_grows (P := Try.prog) W 22 ty 28 i0 (.agg #[.int .i64 0, .int .i64 0]) 2 16 Try.underlying22 hi0 hz0 hz1 hz2 rfl (by decide) z 0 0 [] rfl (fun j u h => by simp at h) ad n c (flat (l.map toP)) (by rw [flat_len, List.length_map, hn]) (row_cells hr) (by omega) (by unfold maxLen; omega) (by omega)
  rw [Nat.zero_add, List.nil_append] at hown
  obtain ⟨m, rfl⟩ : ∃ m, n = m + 1 := ⟨n - 1, by omega⟩
  rcases hown.2 with ⟨_, h0⟩ | ⟨g, cap, cur, rfl, _⟩
  · omega
  · exact ⟨g, cap, W', hrun, hown, hgr⟩
theorem own_mono {W : World} {B B' size n : Nat} {e : TypeId} {v : Value} {xs : List Value} (h : W.ownsRow B e size v n xs) (hb : B' ≤ B) : W.ownsRow B' e size v n xs := by
  refine ⟨h.1, ?_⟩
  rcases h.2 with hn | ⟨g, cap, cur, rfl, h1, r⟩
  · exact .inl hn
  · exact .inr ⟨g, cap, cur, rfl, Nat.le_trans hb h1, r⟩
/-- Three of a kind. -/
def fn3 {α : Type} (a b c : α) : Nat → α
  | 0 => a
  | 1 => b
  | _ => c
def sl3 (g c : Nat → Nat) (n i : Nat) : Value := .slice (some ⟨g i, 0, none⟩) n (c i)
/-- Three rows, each in a block of its own. -/
structure Rows3 (W : World) (N n : Nat) (g c : Nat → Nat) (l : Nat → List S28) : Prop where
  own : ∀ i, i < 3 → W.ownsRow N 28 2 (sl3 g c n i) n (flat ((l i).map toP))
  ne : ∀ i j, i < 3 → j < 3 → i ≠ j → g i ≠ g j
theorem Rows3.below {W W' : World} {N n : Nat} {g c : Nat → Nat} {l : Nat → List S28} (h : Rows3 W N n g c l) (hb : Below W.heap.size W W') : Rows3 W' N n g c l := ⟨fun i hi => own_grow (h.own i hi) (Grow.of_below (B := 0) hb), h.ne⟩
theorem Rows3.lt {W : World} {N n : Nat} {g c : Nat → Nat} {l : Nat → List S28} (h : Rows3 W N n g c l) {i : Nat} (hi : i < 3) : N ≤ g i ∧ g i < W.heap.size := (h.own i hi).lt _ rfl
theorem Rows3.far {W : World} {N n : Nat} {g c : Nat → Nat} {l : Nat → List S28} (h : Rows3 W N n g c l) {p : Addr} {u : Value} (hp : p.block < N) : Rows3 (W.setCell p u) N n g c l :=
  ⟨fun i hi => own_far (h.own i hi) fun k hk => by have := (h.own i hi).lt k hk; omega, h.ne⟩
def LmS (F : Fur) (w : World) (nb : Nat) (W : World) : Prop := Below w.heap.size w W ∧ Box3 W nb 24 F.s0 F.s1 F.s2
theorem LmS.alloc {F : Fur} {w W : World} {nb : Nat} (h : LmS F w nb W) (o : Obj) : LmS F w nb (W.alloc o) := ⟨h.1.alloc h.1.size o, box3_below ((Below.refl _ W).alloc (Nat.le_refl _) o) h.2⟩
theorem LmS.grown {F : Fur} {w W W' : World} {nb : Nat} (h : LmS F w nb W) (hg : W.grownBy W' none) : LmS F w nb W' := ⟨h.1.grown hg h.1.size (fun q e => by cases e), box3_below ((Below.refl _ W).grown hg (Nat.le_refl _) (fun q e => by cases e)) h.2⟩
theorem LmS.set {F : Fur} {w W : World} {nb b i : Nat} (h : LmS F w nb W) (hb : w.heap.size ≤ b) (hne : nb ≠ b) (u : Value) : LmS F w nb (W.setCell ⟨b, i, none⟩ u) := ⟨h.1.setCell (p := ⟨b, i, none⟩) hb u, (Below.heap_setCell W _ u _ hne).trans h.2⟩
theorem grown_below {W W' : World} (hg : W.grownBy W' none) : Below W.heap.size W W' := (Below.refl _ W).grown hg (Nat.le_refl _) (fun q e => by cases e)
theorem own_kept {W W' : World} {B n : Nat} {v : Value} {xs : List Value} (h : W.ownsRow B 28 2 v n xs) (hg : W.grownBy W' none) : W'.ownsRow B 28 2 v n xs := own_grow h (Grow.of_below (B := 0) (grown_below hg))
/-! ### The copies, one after the other -/
structure CpS (F : Fur) (w V : World) (nb b9 : Nat) (x0 x1 x2 : Value) (X : World) : Prop where
  s : LmS F w nb X
  b : Box3 X b9 24 x0 x1 x2
  z : b9 + 1 ≤ X.heap.size
  k : Keep V X
def CpO (b9 n g c : Nat) (l : List S28) (X : World) : Prop := X.ownsRow (b9 + 1) 28 2 (.slice (some ⟨g, 0, none⟩) n c) n (flat (l.map toP))
section
variable {F : Fur} {w V : World} {nb b9 n g0 c0 g1 c1 g2 c2 : Nat} {x0 x1 x2 : Value} {X X' : World}
theorem CpS.alloc (h : CpS F w V nb b9 x0 x1 x2 X) (o : Obj) : CpS F w V nb b9 x0 x1 x2 (X.alloc o) :=
  ⟨h.s.alloc o, box3_below ((Below.refl _ X).alloc (Nat.le_refl _) o) h.b, Nat.le_trans h.z ((Below.refl _ X).alloc (Nat.le_refl _) o).size, h.k.alloc o⟩
theorem CpS.grown (h : CpS F w V nb b9 x0 x1 x2 X) (hg : X.grownBy X' none) : CpS F w V nb b9 x0 x1 x2 X' :=
  ⟨h.s.grown hg, box3_below (grown_below hg) h.b, Nat.le_trans h.z (grown_below hg).size, h.k.grown hg (fun j o e _ => by cases e)⟩
structure Cp1 (F : Fur) (w V : World) (nb b9 : Nat) (x0 x1 x2 : Value) (g0 c0 : Nat) (X : World) : Prop where
  c : CpS F w V nb b9 x0 x1 x2 X
  o : CpO b9 F.l0.length g0 c0 F.l0 X
structure Cp2 (F : Fur) (w V : World) (nb b9 : Nat) (x0 x1 x2 : Value) (g0 c0 g1 c1 : Nat) (X : World) : Prop where
  d : Cp1 F w V nb b9 x0 x1 x2 g0 c0 X
  o : CpO b9 F.l0.length g1 c1 F.l1 X
  n : g0 ≠ g1
structure Cp3 (F : Fur) (w V : World) (nb b9 : Nat) (x0 x1 x2 : Value) (g0 c0 g1 c1 g2 c2 : Nat) (X : World) : Prop where
  d : Cp2 F w V nb b9 x0 x1 x2 g0 c0 g1 c1 X
  o : CpO b9 F.l0.length g2 c2 F.l2 X
  n0 : g0 ≠ g2
  n1 : g1 ≠ g2
theorem Cp1.s (h : Cp1 F w V nb b9 x0 x1 x2 g0 c0 X) : LmS F w nb X := h.c.s
theorem Cp2.s (h : Cp2 F w V nb b9 x0 x1 x2 g0 c0 g1 c1 X) : LmS F w nb X := h.d.c.s
theorem Cp3.s (h : Cp3 F w V nb b9 x0 x1 x2 g0 c0 g1 c1 g2 c2 X) : LmS F w nb X := h.d.d.c.s
theorem Cp1.alloc (h : Cp1 F w V nb b9 x0 x1 x2 g0 c0 X) (o : Obj) : Cp1 F w V nb b9 x0 x1 x2 g0 c0 (X.alloc o) := ⟨h.c.alloc o, World.ownsRow.alloc h.o o⟩
theorem Cp2.alloc (h : Cp2 F w V nb b9 x0 x1 x2 g0 c0 g1 c1 X) (o : Obj) : Cp2 F w V nb b9 x0 x1 x2 g0 c0 g1 c1 (X.alloc o) := ⟨h.d.alloc o, World.ownsRow.alloc h.o o, h.n⟩
theorem cpo_lt {l : List S28} (h : CpO b9 n g0 c0 l X) : g0 < X.heap.size := (World.ownsRow.lt h g0 rfl).2
theorem cp_app0 (hC : CpS F w V nb b9 x0 x1 x2 X) (h : F.At w) {a : Addr} (e : F.A0 = some a) (hp : 0 < F.l0.length) (h8 : F.l0.length ≤ 8) (z : Addr) :
    ∃ g c X', (Builtin.append_ #[22, 22] 22 #[.slice (some z) 0 0, .slice (some a) F.l0.length F.c0]).run Try.prog X = .ok (.slice (some ⟨g, 0, none⟩) F.l0.length c) X' ∧ Cp1 F w V nb b9 x0 x1 x2 g c X' := by
  obtain ⟨g, c, X', hr, ho, hg⟩ := app_row (W := X) (l := F.l0) (n := F.l0.length) (c := F.c0) (by have := (h.below hC.s.1).r0; rw [e] at this; exact this) rfl hp h8 z 22
  exact ⟨g, c, X', hr, hC.grown hg, own_mono ho hC.z⟩
theorem cp_app1 (hC : Cp1 F w V nb b9 x0 x1 x2 g0 c0 X) (h : F.At w) {a : Addr} (e : F.A1 = some a) (hn : F.l1.length = F.l0.length) (hp : 0 < F.l0.length) (h8 : F.l0.length ≤ 8) (z : Addr) :
    ∃ g c X', (Builtin.append_ #[22, 22] 22 #[.slice (some z) 0 0, .slice (some a) F.l0.length F.c1]).run Try.prog X = .ok (.slice (some ⟨g, 0, none⟩) F.l0.length c) X' ∧ Cp2 F w V nb b9 x0 x1 x2 g0 c0 g c X' := by
  obtain ⟨g, c, X', hr, ho, hg⟩ := app_row (W := X) (l := F.l1) (n := F.l0.length) (c := F.c1) (by have := (h.below hC.s.1).r1; rw [e] at this; exact this) hn hp h8 z 22
  have h1 := cpo_lt hC.o
  have h2 := (ho.lt g rfl).1
  exact ⟨g, c, X', hr, ⟨hC.c.grown hg, own_kept hC.o hg⟩, own_mono ho hC.c.z, by omega⟩
theorem cp_app2 (hC : Cp2 F w V nb b9 x0 x1 x2 g0 c0 g1 c1 X) (h : F.At w) {a : Addr} (e : F.A2 = some a) (hn : F.l2.length = F.l0.length) (hp : 0 < F.l0.length) (h8 : F.l0.length ≤ 8) (z : Addr) :
    ∃ g c X', (Builtin.append_ #[22, 22] 22 #[.slice (some z) 0 0, .slice (some a) F.l0.length F.c2]).run Try.prog X = .ok (.slice (some ⟨g, 0, none⟩) F.l0.length c) X' ∧ Cp3 F w V nb b9 x0 x1 x2 g0 c0 g1 c1 g c X' := by
  obtain ⟨g, c, X', hr, ho, hg⟩ := app_row (W := X) (l := F.l2) (n := F.l0.length) (c := F.c2) (by have := (h.below hC.s.1).r2; rw [e] at this; exact this) hn hp h8 z 22
  have h1 := cpo_lt hC.o
  have h0 := cpo_lt hC.d.o
  have h2 := (ho.lt g rfl).1
  exact ⟨g, c, X', hr, ⟨⟨hC.d.c.grown hg, own_kept hC.d.o hg⟩, own_kept hC.o hg, hC.n⟩, own_mono ho hC.d.c.z, by omega, by omega⟩
end
theorem exec_app {P : Program} {a : Act} {w w' : World} {v xv v' : Value} (x : It) (s y : Operand) (t : TypeId) (ho : x.op = .call { callee := .builtin .append, args := #[s, y], argTypes := #[t, t] }) (hs : a.eval s = v) (hx : a.eval y = xv)
    (hr : (Builtin.append_ #[t, t] x.ty #[v, xv]).run P w = .ok v' w') : (execOp a.eval (mkO x)).run P w = .ok (.value v') w' := by
  unfold execOp
  simp only [mkO, ho, resolve, invoke, builtin, Sem.run_bind, Sem.run_pure, Result.andThen_ok, List.map_toArray, List.map_cons, List.map_nil, hs, hx, hr]
theorem put_eq (l : List Value) (ds : List Deferred) (d : Nat) (v : Value) : ({ tmps := l.toArray, defers := ds } : Act).put (some d) v = { tmps := (l.set d v).toArray, defers := ds } := by
  simp [Act.put]
end Go.Proofs.Ytafmgmaelnpehaa
end

section
set_option linter.unusedVariables false
set_option linter.unusedSimpArgs false
namespace Go.Proofs.Ytafmgmaelnpehaa
open Go.RowKit Go.TL Go.Shelf Go.Fu
attribute [local go_sem] Oper.semAt_some
open PFurrowAsks Go.Proofs.YtafmgmaelnpehaaW.PrintWords
theorem put_none (a : Act) (v : Value) : a.put none v = a := rfl
theorem box3_frozen {W : World} {B : Nat} {t : TypeId} {a b c : Value} (h : Box3 W B t a b c) (j : Nat) : W.frozen? ⟨B, j, none⟩ = false := by simp [World.frozen?, show W.heap[B]? = _ from h]
theorem box3_set0 {W : World} {B : Nat} {t : TypeId} {a b c : Value} (h : Box3 W B t a b c) (u : Value) : Box3 (W.setCell ⟨B, 0, none⟩ u) B t u b c := heap_setCell_same W B 0 _ t u h
theorem box3_set1 {W : World} {B : Nat} {t : TypeId} {a b c : Value} (h : Box3 W B t a b c) (u : Value) : Box3 (W.setCell ⟨B, 1, none⟩ u) B t a u c := heap_setCell_same W B 1 _ t u h
theorem box3_set2 {W : World} {B : Nat} {t : TypeId} {a b c : Value} (h : Box3 W B t a b c) (u : Value) : Box3 (W.setCell ⟨B, 2, none⟩ u) B t a b u := heap_setCell_same W B 2 _ t u h
/-- The furrow's rows lie in blocks of their own. -/
def LmP (F : Fur) (w : World) (nb b9 : Nat) (most least bt : Int) (t : Array Value) (W : World) : Prop :=
  ∃ g c : Nat → Nat, LmS F w nb W ∧ Box3 W b9 24 (sl3 g c F.l0.length 0) (sl3 g c F.l0.length 1) (sl3 g c F.l0.length 2) ∧ Rows3 W (b9 + 1) F.l0.length g c (fn3 F.l0 F.l1 F.l2) ∧ Slots [none, some (.int .i64 most), some (.int .i64 least), some (.int .u8 bt), some (.pointer (some ⟨nb, 0, none⟩)), none, none, none, none, some (.pointer (some ⟨b9, 0, none⟩)), none, none, none, none, none, none, none, none, none, none, none, none, none, none, none, none, none, none, none, none, none, none, none, none, none, none, none, none, none, none, none, none, none, none, none, none, none, none, none, none, none, none, none, none, none, none, none, none, none, none, none, none, none, none, none, none, none, none, none, none, none, none, none, none, none, none, none, none, none, none, none, none, none, none, none, none, none, none, none, none, none, none, none, none, none, none, none, none, none, none, none, none, none, none, none, none, none, none, none, none, none, none, none, none, none, none, none, none, none, none, none, none, none, none, none, none, none, none, none, none, none, none, none, none, none, none, none, none, none, none, none, none, none, none, none, none, none, none, none, none, none, none, none, none, none, none, none, none, none, none, none, none, none, none, none, none, none, none, none, none, none, none, none, none, none, none, none, none, none, none, none, none, none, none, none, none, none, none, none, none, none, none, none, none, none, none, none, none, none, none, none, none, none, none, none, none, none, none, none, none, none, none, none, none, none, none, none, none, none, none, none, none, none, none, none, none, none, none, none, none, none, none, none, none, none, none, none, none, none, none, none, none, none, none, none, none, none, none, none, none, none, none, none, none, none, none, none, none, none, none, none, none, none, none, none, none, none, none] t
def lb_1t : It := ⟨(Op.fieldAddr 24 (Operand.tmp 4) 0), some 55, 0, true, none⟩
def lb_2t : It := ⟨(Op.load 22 (Operand.tmp 55)), some 56, 22, true, none⟩
def lb_5t : It := ⟨(Op.fieldAddr 24 (Operand.tmp 4) 1), some 59, 0, true, none⟩
def lb_6t : It := ⟨(Op.load 22 (Operand.tmp 59)), some 60, 22, true, none⟩
def lb_9t : It := ⟨(Op.fieldAddr 24 (Operand.tmp 4) 2), some 63, 0, true, none⟩
def lb_10t : It := ⟨(Op.load 22 (Operand.tmp 63)), some 64, 22, true, none⟩
def lb_0 : It := ⟨(Op.buildSlice 22 0 #[]), some 54, 22, false, none⟩
def lb_3 : It := ⟨(Op.call { callee := (Callee.builtin Builtin.append), args := #[(Operand.tmp 54), (Operand.tmp 56)], argTypes := #[22, 22] }), some 57, 22, false, none⟩
def lb_12t : It := ⟨(Op.fieldAddr 24 (Operand.tmp 9) 0), some 66, 0, true, none⟩
def lb_4 : It := ⟨(Op.buildSlice 22 0 #[]), some 58, 22, false, none⟩
def lb_7 : It := ⟨(Op.call { callee := (Callee.builtin Builtin.append), args := #[(Operand.tmp 58), (Operand.tmp 60)], argTypes := #[22, 22] }), some 61, 22, false, none⟩
def lb_8 : It := ⟨(Op.buildSlice 22 0 #[]), some 62, 22, false, none⟩
def lb_11 : It := ⟨(Op.call { callee := (Callee.builtin Builtin.append), args := #[(Operand.tmp 62), (Operand.tmp 64)], argTypes := #[22, 22] }), some 65, 22, false, none⟩
def lb_13 : It := ⟨(Op.store 22 (Operand.tmp 66) (Operand.tmp 57)), none, 0, false, none⟩
def lb_14 : It := ⟨(Op.fieldAddr 24 (Operand.tmp 9) 1), some 67, 0, false, none⟩
def lb_15 : It := ⟨(Op.store 22 (Operand.tmp 67) (Operand.tmp 61)), none, 0, false, none⟩
def lb_16 : It := ⟨(Op.fieldAddr 24 (Operand.tmp 9) 2), some 68, 0, false, none⟩
def lb_17 : It := ⟨(Op.store 22 (Operand.tmp 68) (Operand.tmp 65)), none, 0, false, none⟩
set_option maxRecDepth 100000 in
set_option maxHeartbeats 1000000 in
theorem lm_tail {F : Fur} {V w X : World} {nb b9 g0 g1 g2 c0 c1 c2 : Nat} {most least bt : Int} {x0 x1 x2 : Value} {ds : List Deferred} {Q' : Exit → Act → World → Prop} (hC : Cp3 F w V nb b9 x0 x1 x2 g0 c0 g1 c1 g2 c2 X) (hne : nb ≠ b9) (hw9 : w.heap.size ≤ b9)
    (hQn : ∀ t W, Keep V W → andThen (LmP F w nb b9 most least bt) (fun _ _ _ => False) .normal t W → Q' .normal { tmps := t, defers := ds } W) (t : Array Value)
    (hSl : Slots [none, some (.int .i64 most), some (.int .i64 least), some (.int .u8 bt), some (.pointer (some ⟨nb, 0, none⟩)), none, none, none, none, some (.pointer (some ⟨b9, 0, none⟩)), none, none, none, none, none, none, none, none, none, none, none, none, none, none, none, none, none, none, none, none, none, none, none, none, none, none, none, none, none, none, none, none, none, none, none, none, none, none, none, none, none, none, none, none, none, none, none, some (.slice (some ⟨g0, 0, none⟩) F.l0.length c0), none, none, none, some (.slice (some ⟨g1, 0, none⟩) F.l0.length c1), none, none, none, some (.slice (some ⟨g2, 0, none⟩) F.l0.length c2), some (.pointer (some ⟨b9, 0, none⟩)), none, none, none, none, none, none, none, none, none, none, none, none, none, none, none, none, none, none, none, none, none, none, none, none, none, none, none, none, none, none, none, none, none, none, none, none, none, none, none, none, none, none, none, none, none, none, none, none, none, none, none, none, none, none, none, none, none, none, none, none, none, none, none, none, none, none, none, none, none, none, none, none, none, none, none, none, none, none, none, none, none, none, none, none, none, none, none, none, none, none, none, none, none, none, none, none, none, none, none, none, none, none, none, none, none, none, none, none, none, none, none, none, none, none, none, none, none, none, none, none, none, none, none, none, none, none, none, none, none, none, none, none, none, none, none, none, none, none, none, none, none, none, none, none, none, none, none, none, none, none, none, none, none, none, none, none, none, none, none, none, none, none, none, none, none, none, none, none, none, none, none, none, none, none, none, none, none, none, none, none, none, none, none, none, none, none, none, none, none, none, none, none, none, none, none, none, none, none, none, none, none] t) :
    seqT Try.prog (Opq (regOps (sub (Try.f10.body.getD .skip) [1, 1, 1, 0]))) (LmS F w nb) Q' (.one 13 false (.one 14 false (.one 15 false (.one 16 false (.one 17 false (.nil)))))) { tmps := t, defers := ds } X := by
  obtain ⟨x, hx⟩ := Slots.open_ hSl; simp only [fill, Nat.reduceAdd] at hx; subst hx; clear hSl
  have hN : b9 < b9 + 1 := Nat.lt_succ_self _
  have hR : Rows3 X (b9 + 1) F.l0.length (fn3 g0 g1 g2) (fn3 c0 c1 c2) (fn3 F.l0 F.l1 F.l2) := by
    refine ⟨fun i hi => ?_, fun i j hi hj hij => ?_⟩
    · match i, hi with
      | 0, _ => exact hC.d.d.o
      | 1, _ => exact hC.d.o
      | 2, _ => exact hC.o
    · have l01 := hC.d.n
      have l02 := hC.n0
      have l12 := hC.n1
      match i, j, hi, hj with
      | 0, 0, _, _ => exact absurd rfl hij
      | 0, 1, _, _ => exact l01
      | 0, 2, _, _ => exact l02
      | 1, 0, _, _ => exact l01.symm
      | 1, 1, _, _ => exact absurd rfl hij
      | 1, 2, _, _ => exact l12
      | 2, 0, _, _ => exact l02.symm
      | 2, 1, _, _ => exact l12.symm
      | 2, 2, _, _ => exact absurd rfl hij
  have hS := hC.s
  have h9 := hC.d.d.c.b
  have hKW := hC.d.d.c.k
  clear hC
  have s0 := h9.cell0
  have s1 := box3_frozen h9 0
  refine tr_store lb_13 (X.setCell ⟨b9, 0, none⟩ (sl3 (fn3 g0 g1 g2) (fn3 c0 c1 c2) F.l0.length 0)) (by kernel_rfl) rfl (by first | exact rfl | trivial) (by simp [go_sem, mkO, lb_13, sl3, fn3, s0, s1]) (hS.set hw9 hne _) ?_; simp only [lb_13, put_none]
  replace hS := hS.set (i := 0) hw9 hne (sl3 (fn3 g0 g1 g2) (fn3 c0 c1 c2) F.l0.length 0)
  replace h9 := box3_set0 h9 (sl3 (fn3 g0 g1 g2) (fn3 c0 c1 c2) F.l0.length 0)
  replace hR := hR.far (p := ⟨b9, 0, none⟩) (u := (sl3 (fn3 g0 g1 g2) (fn3 c0 c1 c2) F.l0.length 0)) (by exact hN)
  replace hKW := hKW.setCell ⟨b9, 0, none⟩ (sl3 (fn3 g0 g1 g2) (fn3 c0 c1 c2) F.l0.length 0)
  clear s0 s1
  generalize X.setCell ⟨b9, 0, none⟩ (sl3 (fn3 g0 g1 g2) (fn3 c0 c1 c2) F.l0.length 0) = Y1 at *
  refine tr_make lb_14 (.pointer (some ⟨b9, 1, none⟩)) _ (by kernel_rfl) rfl (by first | exact rfl | trivial) ?_ hS ?_; (focus (simp [go_sem, mkO, lb_14]; done)); simp only [lb_14, put_eq, List.set_cons_succ, List.set_cons_zero]
  have s0 := h9.cell1
  have s1 := box3_frozen h9 1
  refine tr_store lb_15 (Y1.setCell ⟨b9, 1, none⟩ (sl3 (fn3 g0 g1 g2) (fn3 c0 c1 c2) F.l0.length 1)) (by kernel_rfl) rfl (by first | exact rfl | trivial) (by simp [go_sem, mkO, lb_15, sl3, fn3, s0, s1]) (hS.set hw9 hne _) ?_; simp only [lb_15, put_none]
  replace hS := hS.set (i := 1) hw9 hne (sl3 (fn3 g0 g1 g2) (fn3 c0 c1 c2) F.l0.length 1)
  replace h9 := box3_set1 h9 (sl3 (fn3 g0 g1 g2) (fn3 c0 c1 c2) F.l0.length 1)
  replace hR := hR.far (p := ⟨b9, 1, none⟩) (u := (sl3 (fn3 g0 g1 g2) (fn3 c0 c1 c2) F.l0.length 1)) (by exact hN)
  replace hKW := hKW.setCell ⟨b9, 1, none⟩ (sl3 (fn3 g0 g1 g2) (fn3 c0 c1 c2) F.l0.length 1)
  clear s0 s1
  generalize Y1.setCell ⟨b9, 1, none⟩ (sl3 (fn3 g0 g1 g2) (fn3 c0 c1 c2) F.l0.length 1) = Y2 at *
  refine tr_make lb_16 (.pointer (some ⟨b9, 2, none⟩)) _ (by kernel_rfl) rfl (by first | exact rfl | trivial) ?_ hS ?_; (focus (simp [go_sem, mkO, lb_16]; done)); simp only [lb_16, put_eq, List.set_cons_succ, List.set_cons_zero]
  have s0 := h9.cell2
  have s1 := box3_frozen h9 2
  refine tr_store lb_17 (Y2.setCell ⟨b9, 2, none⟩ (sl3 (fn3 g0 g1 g2) (fn3 c0 c1 c2) F.l0.length 2)) (by kernel_rfl) rfl (by first | exact rfl | trivial) (by simp [go_sem, mkO, lb_17, sl3, fn3, s0, s1]) (hS.set hw9 hne _) ?_; simp only [lb_17, put_none]
  replace hS := hS.set (i := 2) hw9 hne (sl3 (fn3 g0 g1 g2) (fn3 c0 c1 c2) F.l0.length 2)
  replace h9 := box3_set2 h9 (sl3 (fn3 g0 g1 g2) (fn3 c0 c1 c2) F.l0.length 2)
  replace hR := hR.far (p := ⟨b9, 2, none⟩) (u := (sl3 (fn3 g0 g1 g2) (fn3 c0 c1 c2) F.l0.length 2)) (by exact hN)
  replace hKW := hKW.setCell ⟨b9, 2, none⟩ (sl3 (fn3 g0 g1 g2) (fn3 c0 c1 c2) F.l0.length 2)
  clear s0 s1
  generalize Y2.setCell ⟨b9, 2, none⟩ (sl3 (fn3 g0 g1 g2) (fn3 c0 c1 c2) F.l0.length 2) = Y3 at *
  exact hQn _ _ hKW ⟨fn3 g0 g1 g2, fn3 c0 c1 c2, hS, h9, hR, (by simp only [Slots, Fits, and_self])⟩
set_option maxRecDepth 100000 in
set_option maxHeartbeats 4000000 in
theorem lm_copy {F : Fur} {w V : World} {nb b9 : Nat} {most least bt : Int} (h : F.At w) (hv : F.va = true) (hp : 0 < F.l0.length) (hS : LmS F w nb V) (h9 : Box3 V b9 24 F.s0 F.s1 F.s2) (hne : nb ≠ b9) (hw9 : w.heap.size ≤ b9) (t : Array Value) (hSl : Slots [none, some (.int .i64 most), some (.int .i64 least), some (.int .u8 bt), some (.pointer (some ⟨nb, 0, none⟩)), none, none, none, none, some (.pointer (some ⟨b9, 0, none⟩)), none, none, none, none, none, none, none, none, none, none, none, none, none, none, none, none, none, none, none, none, none, none, none, none, none, none, none, none, none, none, none, none, none, none, none, none, none, none, none, none, none, none, none, none, none, none, none, none, none, none, none, none, none, none, none, none, none, none, none, none, none, none, none, none, none, none, none, none, none, none, none, none, none, none, none, none, none, none, none, none, none, none, none, none, none, none, none, none, none, none, none, none, none, none, none, none, none, none, none, none, none, none, none, none, none, none, none, none, none, none, none, none, none, none, none, none, none, none, none, none, none, none, none, none, none, none, none, none, none, none, none, none, none, none, none, none, none, none, none, none, none, none, none, none, none, none, none, none, none, none, none, none, none, none, none, none, none, none, none, none, none, none, none, none, none, none, none, none, none, none, none, none, none, none, none, none, none, none, none, none, none, none, none, none, none, none, none, none, none, none, none, none, none, none, none, none, none, none, none, none, none, none, none, none, none, none, none, none, none, none, none, none, none, none, none, none, none, none, none, none, none, none, none, none, none, none, none, none, none, none, none, none, none, none, none, none, none, none, none, none, none, none, none, none, none, none, none, none, none, none, none, none, none, none, none, none, none, none] t) :
    Exec Try.prog none (sub (Try.f10.body.getD .skip) [1, 1, 1, 0]) t V (andThen (LmP F w nb b9 most least bt) fun _ _ _ => False) := by
  obtain ⟨x, hx⟩ := Slots.open_ hSl; simp only [fill, Nat.reduceAdd] at hx; subst hx; clear hSl
  have hu22 := Try.underlying22
  obtain ⟨h8, n1, n2, _⟩ := valid_lens hv
  obtain ⟨a0, e0⟩ : ∃ a, F.A0 = some a := by obtain ⟨a, ha, _⟩ := at_T28 h.r0 0 (by omega) (by omega); exact ⟨a, ha⟩
  obtain ⟨a1, e1⟩ : ∃ a, F.A1 = some a := by obtain ⟨a, ha, _⟩ := at_T28 h.r1 0 (by omega) (by omega); exact ⟨a, ha⟩
  obtain ⟨a2, e2⟩ : ∃ a, F.A2 = some a := by obtain ⟨a, ha, _⟩ := at_T28 h.r2 0 (by omega) (by omega); exact ⟨a, ha⟩
  have q0 : ∀ W', LmS F w nb W' → W'.cell? ⟨nb, 0, none⟩ = some (.slice (some a0) F.l0.length F.c0) := fun W' hq => by have a := hq.2.cell0; simp only [Fur.s0, e0] at a; exact a
  have q1 : ∀ W', LmS F w nb W' → W'.cell? ⟨nb, 1, none⟩ = some (.slice (some a1) F.l0.length F.c1) := fun W' hq => by have a := hq.2.cell1; simp only [Fur.s1, e1, n1] at a; exact a
  have q2 : ∀ W', LmS F w nb W' → W'.cell? ⟨nb, 2, none⟩ = some (.slice (some a2) F.l0.length F.c2) := fun W' hq => by have a := hq.2.cell2; simp only [Fur.s2, e2, n2] at a; exact a
  have hC : CpS F w V nb b9 F.s0 F.s1 F.s2 V.drew := ⟨⟨hS.1.drew, hS.2⟩, h9, h9.lt, (Keep.refl V).drew⟩
  clear hS h9
  refine region_tree (c := (sub (Try.f10.body.getD .skip) [1, 1, 1, 0])) (id := 4) (.one 1 true (.one 2 true (.one 5 true (.one 6 true (.one 9 true (.one 10 true (.three 0 4 8 (.three 3 4 8 (.one 12 true (.two 4 8 (.two 7 8 (.one 8 false (.one 11 false (.one 13 false (.one 14 false (.one 15 false (.one 16 false (.one 17 false (.nil)))))))) (.one 7 false (.one 11 false (.one 13 false (.one 14 false (.one 15 false (.one 16 false (.one 17 false (.nil))))))))) (.one 4 false (.one 7 false (.one 11 false (.one 13 false (.one 14 false (.one 15 false (.one 16 false (.one 17 false (.nil))))))))))) (.two 3 8 (.one 12 true (.two 7 8 (.one 8 false (.one 11 false (.one 13 false (.one 14 false (.one 15 false (.one 16 false (.one 17 false (.nil)))))))) (.one 7 false (.one 11 false (.one 13 false (.one 14 false (.one 15 false (.one 16 false (.one 17 false (.nil)))))))))) (.one 3 false (.one 12 true (.one 7 false (.one 11 false (.one 13 false (.one 14 false (.one 15 false (.one 16 false (.one 17 false (.nil))))))))))) (.two 3 4 (.one 12 true (.one 4 false (.one 7 false (.one 11 false (.one 13 false (.one 14 false (.one 15 false (.one 16 false (.one 17 false (.nil)))))))))) (.one 3 false (.one 12 true (.one 7 false (.one 11 false (.one 13 false (.one 14 false (.one 15 false (.one 16 false (.one 17 false (.nil)))))))))))) (.two 0 8 (.two 3 8 (.one 12 true (.two 7 8 (.one 8 false (.one 11 false (.one 13 false (.one 14 false (.one 15 false (.one 16 false (.one 17 false (.nil)))))))) (.one 7 false (.one 11 false (.one 13 false (.one 14 false (.one 15 false (.one 16 false (.one 17 false (.nil)))))))))) (.one 3 false (.one 12 true (.one 7 false (.one 11 false (.one 13 false (.one 14 false (.one 15 false (.one 16 false (.one 17 false (.nil))))))))))) (.one 0 false (.one 3 false (.one 12 true (.one 7 false (.one 11 false (.one 13 false (.one 14 false (.one 15 false (.one 16 false (.one 17 false (.nil)))))))))))) (.two 0 4 (.two 3 4 (.one 12 true (.one 4 false (.one 7 false (.one 11 false (.one 13 false (.one 14 false (.one 15 false (.one 16 false (.one 17 false (.nil)))))))))) (.one 3 false (.one 12 true (.one 7 false (.one 11 false (.one 13 false (.one 14 false (.one 15 false (.one 16 false (.one 17 false (.nil))))))))))) (.one 0 false (.one 3 false (.one 12 true (.one 7 false (.one 11 false (.one 13 false (.one 14 false (.one 15 false (.one 16 false (.one 17 false (.nil))))))))))))))))))) (Opq (regOps (sub (Try.f10.body.getD .skip) [1, 1, 1, 0]))) rfl (by kernel_rfl) (by kernel_rfl) (by kernel_rfl) (by kernel_rfl) (by kernel_rfl) (by kernel_rfl) [0, 0, 2, 5, 0, 0, 32, 88, 0, 0, 512, 1408, 15, 6159, 12543, 28927, 65535, 131071] (by kernel_rfl) (by kernel_rfl) (LmS F w nb) (fun _ _ _ => False) (fun _ _ _ h => h.elim) (fun _ _ _ _ _ _ _ _ h => h.elim) fun ds Q' hQn hQp => ?_
  generalize V.drew = X0 at *
  refine tr_take lb_1t (.pointer (some ⟨nb, 0, none⟩)) (by kernel_rfl) rfl (by first | exact rfl | trivial) (fun wq hq => ?_) (hC.s) ?_; (focus (simp [go_sem, mkO, lb_1t]; done)); simp only [lb_1t, put_eq, List.set_cons_succ, List.set_cons_zero]
  refine tr_take lb_2t (.slice (some a0) F.l0.length F.c0) (by kernel_rfl) rfl (by first | exact rfl | trivial) (fun wq hq => ?_) (hC.s) ?_; (focus (simp [go_sem, mkO, lb_2t, q0 wq hq]; done)); simp only [lb_2t, put_eq, List.set_cons_succ, List.set_cons_zero]
  refine tr_take lb_5t (.pointer (some ⟨nb, 1, none⟩)) (by kernel_rfl) rfl (by first | exact rfl | trivial) (fun wq hq => ?_) (hC.s) ?_; (focus (simp [go_sem, mkO, lb_5t]; done)); simp only [lb_5t, put_eq, List.set_cons_succ, List.set_cons_zero]
  refine tr_take lb_6t (.slice (some a1) F.l0.length F.c1) (by kernel_rfl) rfl (by first | exact rfl | trivial) (fun wq hq => ?_) (hC.s) ?_; (focus (simp [go_sem, mkO, lb_6t, q1 wq hq]; done)); simp only [lb_6t, put_eq, List.set_cons_succ, List.set_cons_zero]
  refine tr_take lb_9t (.pointer (some ⟨nb, 2, none⟩)) (by kernel_rfl) rfl (by first | exact rfl | trivial) (fun wq hq => ?_) (hC.s) ?_; (focus (simp [go_sem, mkO, lb_9t]; done)); simp only [lb_9t, put_eq, List.set_cons_succ, List.set_cons_zero]
  refine tr_take lb_10t (.slice (some a2) F.l0.length F.c2) (by kernel_rfl) rfl (by first | exact rfl | trivial) (fun wq hq => ?_) (hC.s) ?_; (focus (simp [go_sem, mkO, lb_10t, q2 wq hq]; done)); simp only [lb_10t, put_eq, List.set_cons_succ, List.set_cons_zero]
  refine ⟨?_, ?_, ?_⟩
  · refine tr_make lb_0 (.slice (some ⟨X0.heap.size, 0, none⟩) 0 0) (X0.alloc (.cells #[] 28)) (by kernel_rfl) rfl (by first | exact rfl | trivial) (by simp [go_sem, mkO, lb_0, hu22]) (hC.s.alloc _) ?_; simp only [lb_0, put_eq, List.set_cons_succ, List.set_cons_zero]
    replace hC := hC.alloc (.cells #[] 28)
    generalize X0.alloc (.cells #[] 28) = X1 at *; generalize X0.heap.size = z0 at *
    refine ⟨?_, ?_, ?_⟩
    · obtain ⟨g0, c0, X2, hrun, hD⟩ := cp_app0 hC h e0 hp h8 ⟨z0, 0, none⟩
      refine tr_make lb_3 (.slice (some ⟨g0, 0, none⟩) F.l0.length c0) X2 (by kernel_rfl) rfl (by first | exact rfl | trivial) (exec_app lb_3 _ _ _ rfl rfl rfl hrun) hD.s ?_; simp only [lb_3, put_eq, List.set_cons_succ, List.set_cons_zero]
      clear hC hrun; have hC := hD; clear hD X1
      refine tr_take lb_12t (.pointer (some ⟨b9, 0, none⟩)) (by kernel_rfl) rfl (by first | exact rfl | trivial) (fun wq hq => ?_) (hC.s) ?_; (focus (simp [go_sem, mkO, lb_12t]; done)); simp only [lb_12t, put_eq, List.set_cons_succ, List.set_cons_zero]
      refine ⟨?_, ?_⟩
      · refine tr_make lb_4 (.slice (some ⟨X2.heap.size, 0, none⟩) 0 0) (X2.alloc (.cells #[] 28)) (by kernel_rfl) rfl (by first | exact rfl | trivial) (by simp [go_sem, mkO, lb_4, hu22]) (hC.s.alloc _) ?_; simp only [lb_4, put_eq, List.set_cons_succ, List.set_cons_zero]
        replace hC := hC.alloc (.cells #[] 28)
        generalize X2.alloc (.cells #[] 28) = X3 at *; generalize X2.heap.size = z4 at *
        refine ⟨?_, ?_⟩
        · obtain ⟨g1, c1, X4, hrun, hD⟩ := cp_app1 hC h e1 n1 hp h8 ⟨z4, 0, none⟩
          refine tr_make lb_7 (.slice (some ⟨g1, 0, none⟩) F.l0.length c1) X4 (by kernel_rfl) rfl (by first | exact rfl | trivial) (exec_app lb_7 _ _ _ rfl rfl rfl hrun) hD.s ?_; simp only [lb_7, put_eq, List.set_cons_succ, List.set_cons_zero]
          clear hC hrun; have hC := hD; clear hD X3
          refine tr_make lb_8 (.slice (some ⟨X4.heap.size, 0, none⟩) 0 0) (X4.alloc (.cells #[] 28)) (by kernel_rfl) rfl (by first | exact rfl | trivial) (by simp [go_sem, mkO, lb_8, hu22]) (hC.s.alloc _) ?_; simp only [lb_8, put_eq, List.set_cons_succ, List.set_cons_zero]
          replace hC := hC.alloc (.cells #[] 28)
          generalize X4.alloc (.cells #[] 28) = X5 at *; generalize X4.heap.size = z8 at *
          obtain ⟨g2, c2, X6, hrun, hD⟩ := cp_app2 hC h e2 n2 hp h8 ⟨z8, 0, none⟩
          refine tr_make lb_11 (.slice (some ⟨g2, 0, none⟩) F.l0.length c2) X6 (by kernel_rfl) rfl (by first | exact rfl | trivial) (exec_app lb_11 _ _ _ rfl rfl rfl hrun) hD.s ?_; simp only [lb_11, put_eq, List.set_cons_succ, List.set_cons_zero]
          clear hC hrun; have hC := hD; clear hD X5
          exact lm_tail hC hne hw9 hQn _ (by simp only [Slots, Fits, and_self])
        · refine tr_make lb_8 (.slice (some ⟨X3.heap.size, 0, none⟩) 0 0) (X3.alloc (.cells #[] 28)) (by kernel_rfl) rfl (by first | exact rfl | trivial) (by simp [go_sem, mkO, lb_8, hu22]) (hC.s.alloc _) ?_; simp only [lb_8, put_eq, List.set_cons_succ, List.set_cons_zero]
          replace hC := hC.alloc (.cells #[] 28)
          generalize X3.alloc (.cells #[] 28) = X4 at *; generalize X3.heap.size = z8 at *
          obtain ⟨g1, c1, X5, hrun, hD⟩ := cp_app1 hC h e1 n1 hp h8 ⟨z4, 0, none⟩
          refine tr_make lb_7 (.slice (some ⟨g1, 0, none⟩) F.l0.length c1) X5 (by kernel_rfl) rfl (by first | exact rfl | trivial) (exec_app lb_7 _ _ _ rfl rfl rfl hrun) hD.s ?_; simp only [lb_7, put_eq, List.set_cons_succ, List.set_cons_zero]
          clear hC hrun; have hC := hD; clear hD X4
          obtain ⟨g2, c2, X6, hrun, hD⟩ := cp_app2 hC h e2 n2 hp h8 ⟨z8, 0, none⟩
          refine tr_make lb_11 (.slice (some ⟨g2, 0, none⟩) F.l0.length c2) X6 (by kernel_rfl) rfl (by first | exact rfl | trivial) (exec_app lb_11 _ _ _ rfl rfl rfl hrun) hD.s ?_; simp only [lb_11, put_eq, List.set_cons_succ, List.set_cons_zero]
          clear hC hrun; have hC := hD; clear hD X5
          exact lm_tail hC hne hw9 hQn _ (by simp only [Slots, Fits, and_self])
      · refine tr_make lb_8 (.slice (some ⟨X2.heap.size, 0, none⟩) 0 0) (X2.alloc (.cells #[] 28)) (by kernel_rfl) rfl (by first | exact rfl | trivial) (by simp [go_sem, mkO, lb_8, hu22]) (hC.s.alloc _) ?_; simp only [lb_8, put_eq, List.set_cons_succ, List.set_cons_zero]
        replace hC := hC.alloc (.cells #[] 28)
        generalize X2.alloc (.cells #[] 28) = X3 at *; generalize X2.heap.size = z8 at *
        refine tr_make lb_4 (.slice (some ⟨X3.heap.size, 0, none⟩) 0 0) (X3.alloc (.cells #[] 28)) (by kernel_rfl) rfl (by first | exact rfl | trivial) (by simp [go_sem, mkO, lb_4, hu22]) (hC.s.alloc _) ?_; simp only [lb_4, put_eq, List.set_cons_succ, List.set_cons_zero]
        replace hC := hC.alloc (.cells #[] 28)
        generalize X3.alloc (.cells #[] 28) = X4 at *; generalize X3.heap.size = z4 at *
        obtain ⟨g1, c1, X5, hrun, hD⟩ := cp_app1 hC h e1 n1 hp h8 ⟨z4, 0, none⟩
        refine tr_make lb_7 (.slice (some ⟨g1, 0, none⟩) F.l0.length c1) X5 (by kernel_rfl) rfl (by first | exact rfl | trivial) (exec_app lb_7 _ _ _ rfl rfl rfl hrun) hD.s ?_; simp only [lb_7, put_eq, List.set_cons_succ, List.set_cons_zero]
        clear hC hrun; have hC := hD; clear hD X4
        obtain ⟨g2, c2, X6, hrun, hD⟩ := cp_app2 hC h e2 n2 hp h8 ⟨z8, 0, none⟩
        refine tr_make lb_11 (.slice (some ⟨g2, 0, none⟩) F.l0.length c2) X6 (by kernel_rfl) rfl (by first | exact rfl | trivial) (exec_app lb_11 _ _ _ rfl rfl rfl hrun) hD.s ?_; simp only [lb_11, put_eq, List.set_cons_succ, List.set_cons_zero]
        clear hC hrun; have hC := hD; clear hD X5
        exact lm_tail hC hne hw9 hQn _ (by simp only [Slots, Fits, and_self])
    · refine tr_make lb_4 (.slice (some ⟨X1.heap.size, 0, none⟩) 0 0) (X1.alloc (.cells #[] 28)) (by kernel_rfl) rfl (by first | exact rfl | trivial) (by simp [go_sem, mkO, lb_4, hu22]) (hC.s.alloc _) ?_; simp only [lb_4, put_eq, List.set_cons_succ, List.set_cons_zero]
      replace hC := hC.alloc (.cells #[] 28)
      generalize X1.alloc (.cells #[] 28) = X2 at *; generalize X1.heap.size = z4 at *
      refine ⟨?_, ?_⟩
      · obtain ⟨g0, c0, X3, hrun, hD⟩ := cp_app0 hC h e0 hp h8 ⟨z0, 0, none⟩
        refine tr_make lb_3 (.slice (some ⟨g0, 0, none⟩) F.l0.length c0) X3 (by kernel_rfl) rfl (by first | exact rfl | trivial) (exec_app lb_3 _ _ _ rfl rfl rfl hrun) hD.s ?_; simp only [lb_3, put_eq, List.set_cons_succ, List.set_cons_zero]
        clear hC hrun; have hC := hD; clear hD X2
        refine tr_take lb_12t (.pointer (some ⟨b9, 0, none⟩)) (by kernel_rfl) rfl (by first | exact rfl | trivial) (fun wq hq => ?_) (hC.s) ?_; (focus (simp [go_sem, mkO, lb_12t]; done)); simp only [lb_12t, put_eq, List.set_cons_succ, List.set_cons_zero]
        refine ⟨?_, ?_⟩
        · obtain ⟨g1, c1, X4, hrun, hD⟩ := cp_app1 hC h e1 n1 hp h8 ⟨z4, 0, none⟩
          refine tr_make lb_7 (.slice (some ⟨g1, 0, none⟩) F.l0.length c1) X4 (by kernel_rfl) rfl (by first | exact rfl | trivial) (exec_app lb_7 _ _ _ rfl rfl rfl hrun) hD.s ?_; simp only [lb_7, put_eq, List.set_cons_succ, List.set_cons_zero]
          clear hC hrun; have hC := hD; clear hD X3
          refine tr_make lb_8 (.slice (some ⟨X4.heap.size, 0, none⟩) 0 0) (X4.alloc (.cells #[] 28)) (by kernel_rfl) rfl (by first | exact rfl | trivial) (by simp [go_sem, mkO, lb_8, hu22]) (hC.s.alloc _) ?_; simp only [lb_8, put_eq, List.set_cons_succ, List.set_cons_zero]
          replace hC := hC.alloc (.cells #[] 28)
          generalize X4.alloc (.cells #[] 28) = X5 at *; generalize X4.heap.size = z8 at *
          obtain ⟨g2, c2, X6, hrun, hD⟩ := cp_app2 hC h e2 n2 hp h8 ⟨z8, 0, none⟩
          refine tr_make lb_11 (.slice (some ⟨g2, 0, none⟩) F.l0.length c2) X6 (by kernel_rfl) rfl (by first | exact rfl | trivial) (exec_app lb_11 _ _ _ rfl rfl rfl hrun) hD.s ?_; simp only [lb_11, put_eq, List.set_cons_succ, List.set_cons_zero]
          clear hC hrun; have hC := hD; clear hD X5
          exact lm_tail hC hne hw9 hQn _ (by simp only [Slots, Fits, and_self])
        · refine tr_make lb_8 (.slice (some ⟨X3.heap.size, 0, none⟩) 0 0) (X3.alloc (.cells #[] 28)) (by kernel_rfl) rfl (by first | exact rfl | trivial) (by simp [go_sem, mkO, lb_8, hu22]) (hC.s.alloc _) ?_; simp only [lb_8, put_eq, List.set_cons_succ, List.set_cons_zero]
          replace hC := hC.alloc (.cells #[] 28)
          generalize X3.alloc (.cells #[] 28) = X4 at *; generalize X3.heap.size = z8 at *
          obtain ⟨g1, c1, X5, hrun, hD⟩ := cp_app1 hC h e1 n1 hp h8 ⟨z4, 0, none⟩
          refine tr_make lb_7 (.slice (some ⟨g1, 0, none⟩) F.l0.length c1) X5 (by kernel_rfl) rfl (by first | exact rfl | trivial) (exec_app lb_7 _ _ _ rfl rfl rfl hrun) hD.s ?_; simp only [lb_7, put_eq, List.set_cons_succ, List.set_cons_zero]
          clear hC hrun; have hC := hD; clear hD X4
          obtain ⟨g2, c2, X6, hrun, hD⟩ := cp_app2 hC h e2 n2 hp h8 ⟨z8, 0, none⟩
          refine tr_make lb_11 (.slice (some ⟨g2, 0, none⟩) F.l0.length c2) X6 (by kernel_rfl) rfl (by first | exact rfl | trivial) (exec_app lb_11 _ _ _ rfl rfl rfl hrun) hD.s ?_; simp only [lb_11, put_eq, List.set_cons_succ, List.set_cons_zero]
          clear hC hrun; have hC := hD; clear hD X5
          exact lm_tail hC hne hw9 hQn _ (by simp only [Slots, Fits, and_self])
      · refine tr_make lb_8 (.slice (some ⟨X2.heap.size, 0, none⟩) 0 0) (X2.alloc (.cells #[] 28)) (by kernel_rfl) rfl (by first | exact rfl | trivial) (by simp [go_sem, mkO, lb_8, hu22]) (hC.s.alloc _) ?_; simp only [lb_8, put_eq, List.set_cons_succ, List.set_cons_zero]
        replace hC := hC.alloc (.cells #[] 28)
        generalize X2.alloc (.cells #[] 28) = X3 at *; generalize X2.heap.size = z8 at *
        obtain ⟨g0, c0, X4, hrun, hD⟩ := cp_app0 hC h e0 hp h8 ⟨z0, 0, none⟩
        refine tr_make lb_3 (.slice (some ⟨g0, 0, none⟩) F.l0.length c0) X4 (by kernel_rfl) rfl (by first | exact rfl | trivial) (exec_app lb_3 _ _ _ rfl rfl rfl hrun) hD.s ?_; simp only [lb_3, put_eq, List.set_cons_succ, List.set_cons_zero]
        clear hC hrun; have hC := hD; clear hD X3
        refine tr_take lb_12t (.pointer (some ⟨b9, 0, none⟩)) (by kernel_rfl) rfl (by first | exact rfl | trivial) (fun wq hq => ?_) (hC.s) ?_; (focus (simp [go_sem, mkO, lb_12t]; done)); simp only [lb_12t, put_eq, List.set_cons_succ, List.set_cons_zero]
        obtain ⟨g1, c1, X5, hrun, hD⟩ := cp_app1 hC h e1 n1 hp h8 ⟨z4, 0, none⟩
        refine tr_make lb_7 (.slice (some ⟨g1, 0, none⟩) F.l0.length c1) X5 (by kernel_rfl) rfl (by first | exact rfl | trivial) (exec_app lb_7 _ _ _ rfl rfl rfl hrun) hD.s ?_; simp only [lb_7, put_eq, List.set_cons_succ, List.set_cons_zero]
        clear hC hrun; have hC := hD; clear hD X4
        obtain ⟨g2, c2, X6, hrun, hD⟩ := cp_app2 hC h e2 n2 hp h8 ⟨z8, 0, none⟩
        refine tr_make lb_11 (.slice (some ⟨g2, 0, none⟩) F.l0.length c2) X6 (by kernel_rfl) rfl (by first | exact rfl | trivial) (exec_app lb_11 _ _ _ rfl rfl rfl hrun) hD.s ?_; simp only [lb_11, put_eq, List.set_cons_succ, List.set_cons_zero]
        clear hC hrun; have hC := hD; clear hD X5
        exact lm_tail hC hne hw9 hQn _ (by simp only [Slots, Fits, and_self])
    · refine tr_make lb_8 (.slice (some ⟨X1.heap.size, 0, none⟩) 0 0) (X1.alloc (.cells #[] 28)) (by kernel_rfl) rfl (by first | exact rfl | trivial) (by simp [go_sem, mkO, lb_8, hu22]) (hC.s.alloc _) ?_; simp only [lb_8, put_eq, List.set_cons_succ, List.set_cons_zero]
      replace hC := hC.alloc (.cells #[] 28)
      generalize X1.alloc (.cells #[] 28) = X2 at *; generalize X1.heap.size = z8 at *
      refine ⟨?_, ?_⟩
      · obtain ⟨g0, c0, X3, hrun, hD⟩ := cp_app0 hC h e0 hp h8 ⟨z0, 0, none⟩
        refine tr_make lb_3 (.slice (some ⟨g0, 0, none⟩) F.l0.length c0) X3 (by kernel_rfl) rfl (by first | exact rfl | trivial) (exec_app lb_3 _ _ _ rfl rfl rfl hrun) hD.s ?_; simp only [lb_3, put_eq, List.set_cons_succ, List.set_cons_zero]
        clear hC hrun; have hC := hD; clear hD X2
        refine tr_take lb_12t (.pointer (some ⟨b9, 0, none⟩)) (by kernel_rfl) rfl (by first | exact rfl | trivial) (fun wq hq => ?_) (hC.s) ?_; (focus (simp [go_sem, mkO, lb_12t]; done)); simp only [lb_12t, put_eq, List.set_cons_succ, List.set_cons_zero]
        refine tr_make lb_4 (.slice (some ⟨X3.heap.size, 0, none⟩) 0 0) (X3.alloc (.cells #[] 28)) (by kernel_rfl) rfl (by first | exact rfl | trivial) (by simp [go_sem, mkO, lb_4, hu22]) (hC.s.alloc _) ?_; simp only [lb_4, put_eq, List.set_cons_succ, List.set_cons_zero]
        replace hC := hC.alloc (.cells #[] 28)
        generalize X3.alloc (.cells #[] 28) = X4 at *; generalize X3.heap.size = z4 at *
        obtain ⟨g1, c1, X5, hrun, hD⟩ := cp_app1 hC h e1 n1 hp h8 ⟨z4, 0, none⟩
        refine tr_make lb_7 (.slice (some ⟨g1, 0, none⟩) F.l0.length c1) X5 (by kernel_rfl) rfl (by first | exact rfl | trivial) (exec_app lb_7 _ _ _ rfl rfl rfl hrun) hD.s ?_; simp only [lb_7, put_eq, List.set_cons_succ, List.set_cons_zero]
        clear hC hrun; have hC := hD; clear hD X4
        obtain ⟨g2, c2, X6, hrun, hD⟩ := cp_app2 hC h e2 n2 hp h8 ⟨z8, 0, none⟩
        refine tr_make lb_11 (.slice (some ⟨g2, 0, none⟩) F.l0.length c2) X6 (by kernel_rfl) rfl (by first | exact rfl | trivial) (exec_app lb_11 _ _ _ rfl rfl rfl hrun) hD.s ?_; simp only [lb_11, put_eq, List.set_cons_succ, List.set_cons_zero]
        clear hC hrun; have hC := hD; clear hD X5
        exact lm_tail hC hne hw9 hQn _ (by simp only [Slots, Fits, and_self])
      · refine tr_make lb_4 (.slice (some ⟨X2.heap.size, 0, none⟩) 0 0) (X2.alloc (.cells #[] 28)) (by kernel_rfl) rfl (by first | exact rfl | trivial) (by simp [go_sem, mkO, lb_4, hu22]) (hC.s.alloc _) ?_; simp only [lb_4, put_eq, List.set_cons_succ, List.set_cons_zero]
        replace hC := hC.alloc (.cells #[] 28)
        generalize X2.alloc (.cells #[] 28) = X3 at *; generalize X2.heap.size = z4 at *
        obtain ⟨g0, c0, X4, hrun, hD⟩ := cp_app0 hC h e0 hp h8 ⟨z0, 0, none⟩
        refine tr_make lb_3 (.slice (some ⟨g0, 0, none⟩) F.l0.length c0) X4 (by kernel_rfl) rfl (by first | exact rfl | trivial) (exec_app lb_3 _ _ _ rfl rfl rfl hrun) hD.s ?_; simp only [lb_3, put_eq, List.set_cons_succ, List.set_cons_zero]
        clear hC hrun; have hC := hD; clear hD X3
        refine tr_take lb_12t (.pointer (some ⟨b9, 0, none⟩)) (by kernel_rfl) rfl (by first | exact rfl | trivial) (fun wq hq => ?_) (hC.s) ?_; (focus (simp [go_sem, mkO, lb_12t]; done)); simp only [lb_12t, put_eq, List.set_cons_succ, List.set_cons_zero]
        obtain ⟨g1, c1, X5, hrun, hD⟩ := cp_app1 hC h e1 n1 hp h8 ⟨z4, 0, none⟩
        refine tr_make lb_7 (.slice (some ⟨g1, 0, none⟩) F.l0.length c1) X5 (by kernel_rfl) rfl (by first | exact rfl | trivial) (exec_app lb_7 _ _ _ rfl rfl rfl hrun) hD.s ?_; simp only [lb_7, put_eq, List.set_cons_succ, List.set_cons_zero]
        clear hC hrun; have hC := hD; clear hD X4
        obtain ⟨g2, c2, X6, hrun, hD⟩ := cp_app2 hC h e2 n2 hp h8 ⟨z8, 0, none⟩
        refine tr_make lb_11 (.slice (some ⟨g2, 0, none⟩) F.l0.length c2) X6 (by kernel_rfl) rfl (by first | exact rfl | trivial) (exec_app lb_11 _ _ _ rfl rfl rfl hrun) hD.s ?_; simp only [lb_11, put_eq, List.set_cons_succ, List.set_cons_zero]
        clear hC hrun; have hC := hD; clear hD X5
        exact lm_tail hC hne hw9 hQn _ (by simp only [Slots, Fits, and_self])
  · refine tr_make lb_4 (.slice (some ⟨X0.heap.size, 0, none⟩) 0 0) (X0.alloc (.cells #[] 28)) (by kernel_rfl) rfl (by first | exact rfl | trivial) (by simp [go_sem, mkO, lb_4, hu22]) (hC.s.alloc _) ?_; simp only [lb_4, put_eq, List.set_cons_succ, List.set_cons_zero]
    replace hC := hC.alloc (.cells #[] 28)
    generalize X0.alloc (.cells #[] 28) = X1 at *; generalize X0.heap.size = z4 at *
    refine ⟨?_, ?_⟩
    · refine tr_make lb_0 (.slice (some ⟨X1.heap.size, 0, none⟩) 0 0) (X1.alloc (.cells #[] 28)) (by kernel_rfl) rfl (by first | exact rfl | trivial) (by simp [go_sem, mkO, lb_0, hu22]) (hC.s.alloc _) ?_; simp only [lb_0, put_eq, List.set_cons_succ, List.set_cons_zero]
      replace hC := hC.alloc (.cells #[] 28)
      generalize X1.alloc (.cells #[] 28) = X2 at *; generalize X1.heap.size = z0 at *
      refine ⟨?_, ?_⟩
      · obtain ⟨g0, c0, X3, hrun, hD⟩ := cp_app0 hC h e0 hp h8 ⟨z0, 0, none⟩
        refine tr_make lb_3 (.slice (some ⟨g0, 0, none⟩) F.l0.length c0) X3 (by kernel_rfl) rfl (by first | exact rfl | trivial) (exec_app lb_3 _ _ _ rfl rfl rfl hrun) hD.s ?_; simp only [lb_3, put_eq, List.set_cons_succ, List.set_cons_zero]
        clear hC hrun; have hC := hD; clear hD X2
        refine tr_take lb_12t (.pointer (some ⟨b9, 0, none⟩)) (by kernel_rfl) rfl (by first | exact rfl | trivial) (fun wq hq => ?_) (hC.s) ?_; (focus (simp [go_sem, mkO, lb_12t]; done)); simp only [lb_12t, put_eq, List.set_cons_succ, List.set_cons_zero]
        refine ⟨?_, ?_⟩
        · obtain ⟨g1, c1, X4, hrun, hD⟩ := cp_app1 hC h e1 n1 hp h8 ⟨z4, 0, none⟩
          refine tr_make lb_7 (.slice (some ⟨g1, 0, none⟩) F.l0.length c1) X4 (by kernel_rfl) rfl (by first | exact rfl | trivial) (exec_app lb_7 _ _ _ rfl rfl rfl hrun) hD.s ?_; simp only [lb_7, put_eq, List.set_cons_succ, List.set_cons_zero]
          clear hC hrun; have hC := hD; clear hD X3
          refine tr_make lb_8 (.slice (some ⟨X4.heap.size, 0, none⟩) 0 0) (X4.alloc (.cells #[] 28)) (by kernel_rfl) rfl (by first | exact rfl | trivial) (by simp [go_sem, mkO, lb_8, hu22]) (hC.s.alloc _) ?_; simp only [lb_8, put_eq, List.set_cons_succ, List.set_cons_zero]
          replace hC := hC.alloc (.cells #[] 28)
          generalize X4.alloc (.cells #[] 28) = X5 at *; generalize X4.heap.size = z8 at *
          obtain ⟨g2, c2, X6, hrun, hD⟩ := cp_app2 hC h e2 n2 hp h8 ⟨z8, 0, none⟩
          refine tr_make lb_11 (.slice (some ⟨g2, 0, none⟩) F.l0.length c2) X6 (by kernel_rfl) rfl (by first | exact rfl | trivial) (exec_app lb_11 _ _ _ rfl rfl rfl hrun) hD.s ?_; simp only [lb_11, put_eq, List.set_cons_succ, List.set_cons_zero]
          clear hC hrun; have hC := hD; clear hD X5
          exact lm_tail hC hne hw9 hQn _ (by simp only [Slots, Fits, and_self])
        · refine tr_make lb_8 (.slice (some ⟨X3.heap.size, 0, none⟩) 0 0) (X3.alloc (.cells #[] 28)) (by kernel_rfl) rfl (by first | exact rfl | trivial) (by simp [go_sem, mkO, lb_8, hu22]) (hC.s.alloc _) ?_; simp only [lb_8, put_eq, List.set_cons_succ, List.set_cons_zero]
          replace hC := hC.alloc (.cells #[] 28)
          generalize X3.alloc (.cells #[] 28) = X4 at *; generalize X3.heap.size = z8 at *
          obtain ⟨g1, c1, X5, hrun, hD⟩ := cp_app1 hC h e1 n1 hp h8 ⟨z4, 0, none⟩
          refine tr_make lb_7 (.slice (some ⟨g1, 0, none⟩) F.l0.length c1) X5 (by kernel_rfl) rfl (by first | exact rfl | trivial) (exec_app lb_7 _ _ _ rfl rfl rfl hrun) hD.s ?_; simp only [lb_7, put_eq, List.set_cons_succ, List.set_cons_zero]
          clear hC hrun; have hC := hD; clear hD X4
          obtain ⟨g2, c2, X6, hrun, hD⟩ := cp_app2 hC h e2 n2 hp h8 ⟨z8, 0, none⟩
          refine tr_make lb_11 (.slice (some ⟨g2, 0, none⟩) F.l0.length c2) X6 (by kernel_rfl) rfl (by first | exact rfl | trivial) (exec_app lb_11 _ _ _ rfl rfl rfl hrun) hD.s ?_; simp only [lb_11, put_eq, List.set_cons_succ, List.set_cons_zero]
          clear hC hrun; have hC := hD; clear hD X5
          exact lm_tail hC hne hw9 hQn _ (by simp only [Slots, Fits, and_self])
      · refine tr_make lb_8 (.slice (some ⟨X2.heap.size, 0, none⟩) 0 0) (X2.alloc (.cells #[] 28)) (by kernel_rfl) rfl (by first | exact rfl | trivial) (by simp [go_sem, mkO, lb_8, hu22]) (hC.s.alloc _) ?_; simp only [lb_8, put_eq, List.set_cons_succ, List.set_cons_zero]
        replace hC := hC.alloc (.cells #[] 28)
        generalize X2.alloc (.cells #[] 28) = X3 at *; generalize X2.heap.size = z8 at *
        obtain ⟨g0, c0, X4, hrun, hD⟩ := cp_app0 hC h e0 hp h8 ⟨z0, 0, none⟩
        refine tr_make lb_3 (.slice (some ⟨g0, 0, none⟩) F.l0.length c0) X4 (by kernel_rfl) rfl (by first | exact rfl | trivial) (exec_app lb_3 _ _ _ rfl rfl rfl hrun) hD.s ?_; simp only [lb_3, put_eq, List.set_cons_succ, List.set_cons_zero]
        clear hC hrun; have hC := hD; clear hD X3
        refine tr_take lb_12t (.pointer (some ⟨b9, 0, none⟩)) (by kernel_rfl) rfl (by first | exact rfl | trivial) (fun wq hq => ?_) (hC.s) ?_; (focus (simp [go_sem, mkO, lb_12t]; done)); simp only [lb_12t, put_eq, List.set_cons_succ, List.set_cons_zero]
        obtain ⟨g1, c1, X5, hrun, hD⟩ := cp_app1 hC h e1 n1 hp h8 ⟨z4, 0, none⟩
        refine tr_make lb_7 (.slice (some ⟨g1, 0, none⟩) F.l0.length c1) X5 (by kernel_rfl) rfl (by first | exact rfl | trivial) (exec_app lb_7 _ _ _ rfl rfl rfl hrun) hD.s ?_; simp only [lb_7, put_eq, List.set_cons_succ, List.set_cons_zero]
        clear hC hrun; have hC := hD; clear hD X4
        obtain ⟨g2, c2, X6, hrun, hD⟩ := cp_app2 hC h e2 n2 hp h8 ⟨z8, 0, none⟩
        refine tr_make lb_11 (.slice (some ⟨g2, 0, none⟩) F.l0.length c2) X6 (by kernel_rfl) rfl (by first | exact rfl | trivial) (exec_app lb_11 _ _ _ rfl rfl rfl hrun) hD.s ?_; simp only [lb_11, put_eq, List.set_cons_succ, List.set_cons_zero]
        clear hC hrun; have hC := hD; clear hD X5
        exact lm_tail hC hne hw9 hQn _ (by simp only [Slots, Fits, and_self])
    · refine tr_make lb_8 (.slice (some ⟨X1.heap.size, 0, none⟩) 0 0) (X1.alloc (.cells #[] 28)) (by kernel_rfl) rfl (by first | exact rfl | trivial) (by simp [go_sem, mkO, lb_8, hu22]) (hC.s.alloc _) ?_; simp only [lb_8, put_eq, List.set_cons_succ, List.set_cons_zero]
      replace hC := hC.alloc (.cells #[] 28)
      generalize X1.alloc (.cells #[] 28) = X2 at *; generalize X1.heap.size = z8 at *
      refine tr_make lb_0 (.slice (some ⟨X2.heap.size, 0, none⟩) 0 0) (X2.alloc (.cells #[] 28)) (by kernel_rfl) rfl (by first | exact rfl | trivial) (by simp [go_sem, mkO, lb_0, hu22]) (hC.s.alloc _) ?_; simp only [lb_0, put_eq, List.set_cons_succ, List.set_cons_zero]
      replace hC := hC.alloc (.cells #[] 28)
      generalize X2.alloc (.cells #[] 28) = X3 at *; generalize X2.heap.size = z0 at *
      obtain ⟨g0, c0, X4, hrun, hD⟩ := cp_app0 hC h e0 hp h8 ⟨z0, 0, none⟩
      refine tr_make lb_3 (.slice (some ⟨g0, 0, none⟩) F.l0.length c0) X4 (by kernel_rfl) rfl (by first | exact rfl | trivial) (exec_app lb_3 _ _ _ rfl rfl rfl hrun) hD.s ?_; simp only [lb_3, put_eq, List.set_cons_succ, List.set_cons_zero]
      clear hC hrun; have hC := hD; clear hD X3
      refine tr_take lb_12t (.pointer (some ⟨b9, 0, none⟩)) (by kernel_rfl) rfl (by first | exact rfl | trivial) (fun wq hq => ?_) (hC.s) ?_; (focus (simp [go_sem, mkO, lb_12t]; done)); simp only [lb_12t, put_eq, List.set_cons_succ, List.set_cons_zero]
      obtain ⟨g1, c1, X5, hrun, hD⟩ := cp_app1 hC h e1 n1 hp h8 ⟨z4, 0, none⟩
      refine tr_make lb_7 (.slice (some ⟨g1, 0, none⟩) F.l0.length c1) X5 (by kernel_rfl) rfl (by first | exact rfl | trivial) (exec_app lb_7 _ _ _ rfl rfl rfl hrun) hD.s ?_; simp only [lb_7, put_eq, List.set_cons_succ, List.set_cons_zero]
      clear hC hrun; have hC := hD; clear hD X4
      obtain ⟨g2, c2, X6, hrun, hD⟩ := cp_app2 hC h e2 n2 hp h8 ⟨z8, 0, none⟩
      refine tr_make lb_11 (.slice (some ⟨g2, 0, none⟩) F.l0.length c2) X6 (by kernel_rfl) rfl (by first | exact rfl | trivial) (exec_app lb_11 _ _ _ rfl rfl rfl hrun) hD.s ?_; simp only [lb_11, put_eq, List.set_cons_succ, List.set_cons_zero]
      clear hC hrun; have hC := hD; clear hD X5
      exact lm_tail hC hne hw9 hQn _ (by simp only [Slots, Fits, and_self])
  · refine tr_make lb_8 (.slice (some ⟨X0.heap.size, 0, none⟩) 0 0) (X0.alloc (.cells #[] 28)) (by kernel_rfl) rfl (by first | exact rfl | trivial) (by simp [go_sem, mkO, lb_8, hu22]) (hC.s.alloc _) ?_; simp only [lb_8, put_eq, List.set_cons_succ, List.set_cons_zero]
    replace hC := hC.alloc (.cells #[] 28)
    generalize X0.alloc (.cells #[] 28) = X1 at *; generalize X0.heap.size = z8 at *
    refine ⟨?_, ?_⟩
    · refine tr_make lb_0 (.slice (some ⟨X1.heap.size, 0, none⟩) 0 0) (X1.alloc (.cells #[] 28)) (by kernel_rfl) rfl (by first | exact rfl | trivial) (by simp [go_sem, mkO, lb_0, hu22]) (hC.s.alloc _) ?_; simp only [lb_0, put_eq, List.set_cons_succ, List.set_cons_zero]
      replace hC := hC.alloc (.cells #[] 28)
      generalize X1.alloc (.cells #[] 28) = X2 at *; generalize X1.heap.size = z0 at *
      refine ⟨?_, ?_⟩
      · obtain ⟨g0, c0, X3, hrun, hD⟩ := cp_app0 hC h e0 hp h8 ⟨z0, 0, none⟩
        refine tr_make lb_3 (.slice (some ⟨g0, 0, none⟩) F.l0.length c0) X3 (by kernel_rfl) rfl (by first | exact rfl | trivial) (exec_app lb_3 _ _ _ rfl rfl rfl hrun) hD.s ?_; simp only [lb_3, put_eq, List.set_cons_succ, List.set_cons_zero]
        clear hC hrun; have hC := hD; clear hD X2
        refine tr_take lb_12t (.pointer (some ⟨b9, 0, none⟩)) (by kernel_rfl) rfl (by first | exact rfl | trivial) (fun wq hq => ?_) (hC.s) ?_; (focus (simp [go_sem, mkO, lb_12t]; done)); simp only [lb_12t, put_eq, List.set_cons_succ, List.set_cons_zero]
        refine tr_make lb_4 (.slice (some ⟨X3.heap.size, 0, none⟩) 0 0) (X3.alloc (.cells #[] 28)) (by kernel_rfl) rfl (by first | exact rfl | trivial) (by simp [go_sem, mkO, lb_4, hu22]) (hC.s.alloc _) ?_; simp only [lb_4, put_eq, List.set_cons_succ, List.set_cons_zero]
        replace hC := hC.alloc (.cells #[] 28)
        generalize X3.alloc (.cells #[] 28) = X4 at *; generalize X3.heap.size = z4 at *
        obtain ⟨g1, c1, X5, hrun, hD⟩ := cp_app1 hC h e1 n1 hp h8 ⟨z4, 0, none⟩
        refine tr_make lb_7 (.slice (some ⟨g1, 0, none⟩) F.l0.length c1) X5 (by kernel_rfl) rfl (by first | exact rfl | trivial) (exec_app lb_7 _ _ _ rfl rfl rfl hrun) hD.s ?_; simp only [lb_7, put_eq, List.set_cons_succ, List.set_cons_zero]
        clear hC hrun; have hC := hD; clear hD X4
        obtain ⟨g2, c2, X6, hrun, hD⟩ := cp_app2 hC h e2 n2 hp h8 ⟨z8, 0, none⟩
        refine tr_make lb_11 (.slice (some ⟨g2, 0, none⟩) F.l0.length c2) X6 (by kernel_rfl) rfl (by first | exact rfl | trivial) (exec_app lb_11 _ _ _ rfl rfl rfl hrun) hD.s ?_; simp only [lb_11, put_eq, List.set_cons_succ, List.set_cons_zero]
        clear hC hrun; have hC := hD; clear hD X5
        exact lm_tail hC hne hw9 hQn _ (by simp only [Slots, Fits, and_self])
      · refine tr_make lb_4 (.slice (some ⟨X2.heap.size, 0, none⟩) 0 0) (X2.alloc (.cells #[] 28)) (by kernel_rfl) rfl (by first | exact rfl | trivial) (by simp [go_sem, mkO, lb_4, hu22]) (hC.s.alloc _) ?_; simp only [lb_4, put_eq, List.set_cons_succ, List.set_cons_zero]
        replace hC := hC.alloc (.cells #[] 28)
        generalize X2.alloc (.cells #[] 28) = X3 at *; generalize X2.heap.size = z4 at *
        obtain ⟨g0, c0, X4, hrun, hD⟩ := cp_app0 hC h e0 hp h8 ⟨z0, 0, none⟩
        refine tr_make lb_3 (.slice (some ⟨g0, 0, none⟩) F.l0.length c0) X4 (by kernel_rfl) rfl (by first | exact rfl | trivial) (exec_app lb_3 _ _ _ rfl rfl rfl hrun) hD.s ?_; simp only [lb_3, put_eq, List.set_cons_succ, List.set_cons_zero]
        clear hC hrun; have hC := hD; clear hD X3
        refine tr_take lb_12t (.pointer (some ⟨b9, 0, none⟩)) (by kernel_rfl) rfl (by first | exact rfl | trivial) (fun wq hq => ?_) (hC.s) ?_; (focus (simp [go_sem, mkO, lb_12t]; done)); simp only [lb_12t, put_eq, List.set_cons_succ, List.set_cons_zero]
        obtain ⟨g1, c1, X5, hrun, hD⟩ := cp_app1 hC h e1 n1 hp h8 ⟨z4, 0, none⟩
        refine tr_make lb_7 (.slice (some ⟨g1, 0, none⟩) F.l0.length c1) X5 (by kernel_rfl) rfl (by first | exact rfl | trivial) (exec_app lb_7 _ _ _ rfl rfl rfl hrun) hD.s ?_; simp only [lb_7, put_eq, List.set_cons_succ, List.set_cons_zero]
        clear hC hrun; have hC := hD; clear hD X4
        obtain ⟨g2, c2, X6, hrun, hD⟩ := cp_app2 hC h e2 n2 hp h8 ⟨z8, 0, none⟩
        refine tr_make lb_11 (.slice (some ⟨g2, 0, none⟩) F.l0.length c2) X6 (by kernel_rfl) rfl (by first | exact rfl | trivial) (exec_app lb_11 _ _ _ rfl rfl rfl hrun) hD.s ?_; simp only [lb_11, put_eq, List.set_cons_succ, List.set_cons_zero]
        clear hC hrun; have hC := hD; clear hD X5
        exact lm_tail hC hne hw9 hQn _ (by simp only [Slots, Fits, and_self])
    · refine tr_make lb_4 (.slice (some ⟨X1.heap.size, 0, none⟩) 0 0) (X1.alloc (.cells #[] 28)) (by kernel_rfl) rfl (by first | exact rfl | trivial) (by simp [go_sem, mkO, lb_4, hu22]) (hC.s.alloc _) ?_; simp only [lb_4, put_eq, List.set_cons_succ, List.set_cons_zero]
      replace hC := hC.alloc (.cells #[] 28)
      generalize X1.alloc (.cells #[] 28) = X2 at *; generalize X1.heap.size = z4 at *
      refine tr_make lb_0 (.slice (some ⟨X2.heap.size, 0, none⟩) 0 0) (X2.alloc (.cells #[] 28)) (by kernel_rfl) rfl (by first | exact rfl | trivial) (by simp [go_sem, mkO, lb_0, hu22]) (hC.s.alloc _) ?_; simp only [lb_0, put_eq, List.set_cons_succ, List.set_cons_zero]
      replace hC := hC.alloc (.cells #[] 28)
      generalize X2.alloc (.cells #[] 28) = X3 at *; generalize X2.heap.size = z0 at *
      obtain ⟨g0, c0, X4, hrun, hD⟩ := cp_app0 hC h e0 hp h8 ⟨z0, 0, none⟩
      refine tr_make lb_3 (.slice (some ⟨g0, 0, none⟩) F.l0.length c0) X4 (by kernel_rfl) rfl (by first | exact rfl | trivial) (exec_app lb_3 _ _ _ rfl rfl rfl hrun) hD.s ?_; simp only [lb_3, put_eq, List.set_cons_succ, List.set_cons_zero]
      clear hC hrun; have hC := hD; clear hD X3
      refine tr_take lb_12t (.pointer (some ⟨b9, 0, none⟩)) (by kernel_rfl) rfl (by first | exact rfl | trivial) (fun wq hq => ?_) (hC.s) ?_; (focus (simp [go_sem, mkO, lb_12t]; done)); simp only [lb_12t, put_eq, List.set_cons_succ, List.set_cons_zero]
      obtain ⟨g1, c1, X5, hrun, hD⟩ := cp_app1 hC h e1 n1 hp h8 ⟨z4, 0, none⟩
      refine tr_make lb_7 (.slice (some ⟨g1, 0, none⟩) F.l0.length c1) X5 (by kernel_rfl) rfl (by first | exact rfl | trivial) (exec_app lb_7 _ _ _ rfl rfl rfl hrun) hD.s ?_; simp only [lb_7, put_eq, List.set_cons_succ, List.set_cons_zero]
      clear hC hrun; have hC := hD; clear hD X4
      obtain ⟨g2, c2, X6, hrun, hD⟩ := cp_app2 hC h e2 n2 hp h8 ⟨z8, 0, none⟩
      refine tr_make lb_11 (.slice (some ⟨g2, 0, none⟩) F.l0.length c2) X6 (by kernel_rfl) rfl (by first | exact rfl | trivial) (exec_app lb_11 _ _ _ rfl rfl rfl hrun) hD.s ?_; simp only [lb_11, put_eq, List.set_cons_succ, List.set_cons_zero]
      clear hC hrun; have hC := hD; clear hD X5
      exact lm_tail hC hne hw9 hQn _ (by simp only [Slots, Fits, and_self])
end Go.Proofs.Ytafmgmaelnpehaa
end

section
set_option linter.unusedVariables false
set_option linter.unusedSimpArgs false
namespace Go.Proofs.Ytafmgmaelnpehaa
open Go.RowKit Go.TL Go.Shelf Go.Fu
attribute [local go_sem] Oper.semAt_some
open PFurrowAsks Go.Proofs.YtafmgmaelnpehaaW.PrintWords Go.Proofs.YtafmgmaelnpehaaW.PrintMore
attribute [local go_sem] max2_int min2_int max_two min_two
def bitB (bt : Int) (q : Nat) : Bool := bits .and .i64 (bt / 2 ^ q) 1 == 1
theorem set_same {xs : List Value} {j : Nat} {v : Value} (h : xs[j]? = some v) : xs.set j v = xs := by
  apply List.ext_getElem?
  intro i
  rw [List.getElem?_set]
  split
  · rename_i e
    subst e
    split
    · exact h.symm
    · rename_i hl
      rw [List.getElem?_eq_none (by omega)]
  · rfl
theorem flat_lo (l : List (Int × Int)) (k : Nat) (a b x : Int) (hk : k < l.length) (hl : l[k]'hk = (a, b)) : (flat l).set (k * 2) (.int .i64 x) = flat (l.set k (x, b)) := by
  rw [← flat_set l k (x, b) hk]
  have h := (flat_get l k hk).2
  rw [hl] at h
  refine (set_same ?_).symm
  rw [List.getElem?_set_ne (by omega)]
  exact h
theorem flat_hi (l : List (Int × Int)) (k : Nat) (a b x : Int) (hk : k < l.length) (hl : l[k]'hk = (a, b)) : (flat l).set (k * 2 + 1) (.int .i64 x) = flat (l.set k (a, x)) := by
  rw [← flat_set l k (a, x) hk]
  have h := (flat_get l k hk).1
  rw [hl] at h
  congr 1
  exact (set_same h).symm
def rowAt (bt : Int) (L : Nat → List S28) (k i q : Nat) : List S28 := if q < i then narL (bitB bt q) (L q) k else L q
theorem rowAt_len (bt : Int) (L : Nat → List S28) (k i q : Nat) : (rowAt bt L k i q).length = (L q).length := by unfold rowAt; split <;> simp [narL_len]
/-- One span of one row is written. -/
theorem rows_set {W : World} {N n : Nat} {g c : Nat → Nat} {L : Nat → List S28} {bt : Int} {k i : Nat} (h : Rows3 W N n g c (rowAt bt L k i)) (hi : i < 3) (hL : ∀ q, q < 3 → (L q).length = n) (hk : k < n) {p : Addr} {u : Value} (hp : p.block = g i)
    (hs : (W.setCell p u).ownsRow N 28 2 (sl3 g c n i) n (flat ((narL (bitB bt i) (L i) k).map toP))) : Rows3 (W.setCell p u) N n g c (rowAt bt L k (i + 1)) := by
  refine ⟨fun q hq => ?_, h.ne⟩
  by_cases e : q = i
  · subst e
    unfold rowAt
    rw [if_pos (by omega)]
    exact hs
  · have h1 := h.own q hq
    have e2 : rowAt bt L k (i + 1) q = rowAt bt L k i q := by
      unfold rowAt
      by_cases e3 : q < i
      · rw [if_pos e3, if_pos (by omega)]
      · rw [if_neg e3, if_neg (by omega)]
    rw [e2]
    refine own_far h1 fun j hj => ?_
    simp only [sl3, Value.ownBlock, Option.some.injEq] at hj
    have := h.ne q i hq hi e
    omega
structure LpS (F : Fur) (w : World) (nb b9 ga : Nat) (g c : Nat → Nat) (bt : Int) (k i : Nat) (W : World) : Prop where
  s : LmS F w nb W
  b : Box3 W b9 24 (sl3 g c F.l0.length 0) (sl3 g c F.l0.length 1) (sl3 g c F.l0.length 2)
  a : Box3 W ga 22 (sl3 g c F.l0.length 0) (sl3 g c F.l0.length 1) (sl3 g c F.l0.length 2)
  r : Rows3 W (b9 + 1) F.l0.length g c (rowAt bt (fn3 F.l0 F.l1 F.l2) k i)
theorem LpS.set {F : Fur} {w W : World} {nb b9 ga : Nat} {g c : Nat → Nat} {bt : Int} {k i j : Nat} (h : LpS F w nb b9 ga g c bt k i W) (hne : nb < b9) (hw9 : w.heap.size ≤ b9) (hga : ∀ q, q < 3 → g q ≠ ga) (hi : i < 3) (hL : ∀ q, q < 3 → (fn3 F.l0 F.l1 F.l2 q).length = F.l0.length) (hk : k < F.l0.length) {u : Value}
    (hs : (W.setCell ⟨g i, j, none⟩ u).ownsRow (b9 + 1) 28 2 (sl3 g c F.l0.length i) F.l0.length (flat ((narL (bitB bt i) (fn3 F.l0 F.l1 F.l2 i) k).map toP))) : LpS F w nb b9 ga g c bt k (i + 1) (W.setCell ⟨g i, j, none⟩ u) := by
  have hg := (h.r.lt hi).1
  have hga' := hga i hi
  refine ⟨h.s.set (by omega) (by omega) u, (Below.heap_setCell W _ u _ (by show b9 ≠ g i; omega)).trans h.b, (Below.heap_setCell W _ u _ (by show ga ≠ g i; omega)).trans h.a, rows_set h.r hi hL hk rfl hs⟩
theorem LpS.cell {F : Fur} {w W : World} {nb b9 ga : Nat} {g c : Nat → Nat} {bt : Int} {k i : Nat} (h : LpS F w nb b9 ga g c bt k i W) (hi : i < 3) : W.cell? ⟨ga, i, none⟩ = some (.slice (some ⟨g i, 0, none⟩) F.l0.length (c i)) := by
  match i, hi with
  | 0, _ => exact h.a.cell0
  | 1, _ => exact h.a.cell1
  | 2, _ => exact h.a.cell2
def LpI (F : Fur) (w : World) (nb b9 ga : Nat) (g c : Nat → Nat) (most least bt : Int) (k j : Nat) (t : Array Value) (W : World) : Prop :=
  ∃ i : Nat, i ≤ 3 ∧ j = 3 - i ∧ LpS F w nb b9 ga g c bt k i W ∧ Slots [none, some (.int .i64 most), some (.int .i64 least), some (.int .u8 bt), some (.pointer (some ⟨nb, 0, none⟩)), none, none, none, none, some (.pointer (some ⟨b9, 0, none⟩)), some (.int .i64 ((k : Nat) : Int)), none, none, none, none, none, none, none, none, none, none, none, none, none, none, none, none, none, none, none, none, none, none, none, none, none, none, none, none, none, none, none, none, none, none, none, none, none, none, none, none, none, none, none, none, none, none, none, none, none, none, none, none, none, none, none, none, none, none, none, none, none, none, none, none, none, none, none, none, none, none, some (.slice (some ⟨ga, 0, none⟩) 3 3), some (.int .i64 3), some (.int .i64 ((i : Nat) : Int)), none, none, none, none, none, none, none, none, none, none, none, none, none, none, none, none, none, none, none, none, none, none, none, none, none, none, none, none, none, none, none, none, none, none, none, none, none, none, none, none, none, none, none, none, none, none, none, none, none, none, none, none, none, none, none, none, none, none, none, none, none, none, none, none, none, none, none, none, none, none, none, none, none, none, none, none, none, none, none, none, none, none, none, none, none, none, none, none, none, none, none, none, none, none, none, none, none, none, none, none, none, none, none, none, none, none, none, none, none, none, none, none, none, none, none, none, none, none, none, none, none, none, none, none, none, none, none, none, none, none, none, none, none, none, none, none, none, none, none, none, none, none, none, none, none, none, none, none, none, none, none, none, none, none, none, none, none, none, none, none, none, none, none, none, none, none, none, none, none, none, none, none, none, none, none, none, none, none, none, none, none, none, none, none] t
def LpM (F : Fur) (w : World) (nb b9 ga : Nat) (g c : Nat → Nat) (most least bt : Int) (k i : Nat) (t : Array Value) (W : World) : Prop :=
  LpS F w nb b9 ga g c bt k (i + 1) W ∧ Slots [none, some (.int .i64 most), some (.int .i64 least), some (.int .u8 bt), some (.pointer (some ⟨nb, 0, none⟩)), none, none, none, none, some (.pointer (some ⟨b9, 0, none⟩)), some (.int .i64 ((k : Nat) : Int)), none, none, none, none, none, none, none, none, none, none, none, none, none, none, none, none, none, none, none, none, none, none, none, none, none, none, none, none, none, none, none, none, none, none, none, none, none, none, none, none, none, none, none, none, none, none, none, none, none, none, none, none, none, none, none, none, none, none, none, none, none, none, none, none, none, none, none, none, none, none, some (.slice (some ⟨ga, 0, none⟩) 3 3), some (.int .i64 3), some (.int .i64 ((i : Nat) : Int)), none, none, none, none, none, none, none, none, none, none, none, none, none, none, none, none, none, none, none, none, none, none, none, none, none, none, none, none, none, none, none, none, none, none, none, none, none, none, none, none, none, none, none, none, none, none, none, none, none, none, none, none, none, none, none, none, none, none, none, none, none, none, none, none, none, none, none, none, none, none, none, none, none, none, none, none, none, none, none, none, none, none, none, none, none, none, none, none, none, none, none, none, none, none, none, none, none, none, none, none, none, none, none, none, none, none, none, none, none, none, none, none, none, none, none, none, none, none, none, none, none, none, none, none, none, none, none, none, none, none, none, none, none, none, none, none, none, none, none, none, none, none, none, none, none, none, none, none, none, none, none, none, none, none, none, none, none, none, none, none, none, none, none, none, none, none, none, none, none, none, none, none, none, none, none, none, none, none, none, none, none, none, none, none] t
set_option maxRecDepth 100000 in
set_option maxHeartbeats 2000000 in
theorem lp_loop {F : Fur} {w V : World} {nb b9 ga k : Nat} {g c : Nat → Nat} {most least bt : Int} (hv : F.va = true) (hbt : 0 ≤ bt ∧ bt ≤ 255) (hne : nb < b9) (hw9 : w.heap.size ≤ b9) (hga : ∀ q, q < 3 → g q ≠ ga) (hkl : k < F.l0.length) (hS : LpS F w nb b9 ga g c bt k 0 V) (t : Array Value) (hSl : Slots [none, some (.int .i64 most), some (.int .i64 least), some (.int .u8 bt), some (.pointer (some ⟨nb, 0, none⟩)), none, none, none, none, some (.pointer (some ⟨b9, 0, none⟩)), some (.int .i64 ((k : Nat) : Int)), none, none, none, none, none, none, none, none, none, none, none, none, none, none, none, none, none, none, none, none, none, none, none, none, none, none, none, none, none, none, none, none, none, none, none, none, none, none, none, none, none, none, none, none, none, none, none, none, none, none, none, none, none, none, none, none, none, none, none, none, none, none, none, none, none, none, none, none, none, none, some (.slice (some ⟨ga, 0, none⟩) 3 3), some (.int .i64 3), some (.int .i64 0), none, none, none, none, none, none, none, none, none, none, none, none, none, none, none, none, none, none, none, none, none, none, none, none, none, none, none, none, none, none, none, none, none, none, none, none, none, none, none, none, none, none, none, none, none, none, none, none, none, none, none, none, none, none, none, none, none, none, none, none, none, none, none, none, none, none, none, none, none, none, none, none, none, none, none, none, none, none, none, none, none, none, none, none, none, none, none, none, none, none, none, none, none, none, none, none, none, none, none, none, none, none, none, none, none, none, none, none, none, none, none, none, none, none, none, none, none, none, none, none, none, none, none, none, none, none, none, none, none, none, none, none, none, none, none, none, none, none, none, none, none, none, none, none, none, none, none, none, none, none, none, none, none, none, none, none, none, none, none, none, none, none, none, none, none, none, none, none, none, none, none, none, none, none, none, none, none, none, none, none, none, none, none, none] t) :
    Exec Try.prog none (sub (Try.f10.body.getD .skip) [1, 1, 1, 1, 1, 0, 1]) t V (andThen (fun t' W' => LpS F w nb b9 ga g c bt k 3 W' ∧ Slots [none, some (.int .i64 most), some (.int .i64 least), some (.int .u8 bt), some (.pointer (some ⟨nb, 0, none⟩)), none, none, none, none, some (.pointer (some ⟨b9, 0, none⟩)), none, none, none, none, none, none, none, none, none, none, none, none, none, none, none, none, none, none, none, none, none, none, none, none, none, none, none, none, none, none, none, none, none, none, none, none, none, none, none, none, none, none, none, none, none, none, none, none, none, none, none, none, none, none, none, none, none, none, none, none, none, none, none, none, none, none, none, none, none, none, none, none, none, none, none, none, none, none, none, none, none, none, none, none, none, none, none, none, none, none, none, none, none, none, none, none, none, none, none, none, none, none, none, none, none, none, none, none, none, none, none, none, none, none, none, none, none, none, none, none, none, none, none, none, none, none, none, none, none, none, none, none, none, none, none, none, none, none, none, none, none, none, none, none, none, none, none, none, none, none, none, none, none, none, none, none, none, none, none, none, none, none, none, none, none, none, none, none, none, none, none, none, none, none, none, none, none, none, none, none, none, none, none, none, none, none, none, none, none, none, none, none, none, none, none, none, none, none, none, none, none, none, none, none, none, none, none, none, none, none, none, none, none, none, none, none, none, none, none, none, none, none, none, none, none, none, none, none, none, none, none, none, none, none, none, none, none, none, none, none, none, none, none, none, none, none, none, none, none, none, none, none, none, none, none, none, none, none] t') fun _ _ _ => False) := by
  obtain ⟨h8, n1, n2, hok⟩ := valid_lens hv
  have hL : ∀ q, q < 3 → (fn3 F.l0 F.l1 F.l2 q).length = F.l0.length := by
    intro q hq
    match q, hq with
    | 0, _ => rfl
    | 1, _ => exact n1
    | 2, _ => exact n2
  have hbd : ∀ q, q < 3 → -100 ≤ (rd_T28 (fn3 F.l0 F.l1 F.l2 q) k).f0 ∧ (rd_T28 (fn3 F.l0 F.l1 F.l2 q) k).f0 ≤ 100 ∧ -100 ≤ (rd_T28 (fn3 F.l0 F.l1 F.l2 q) k).f1 ∧ (rd_T28 (fn3 F.l0 F.l1 F.l2 q) k).f1 ≤ 100 := by
    have hs := hok k hkl
    unfold stOk at hs
    simp only [Bool.and_eq_true, decide_eq_true_eq] at hs
    intro q hq
    match q, hq with
    | 0, _ => show -100 ≤ (rd_T28 F.l0 k).f0 ∧ (rd_T28 F.l0 k).f0 ≤ 100 ∧ -100 ≤ (rd_T28 F.l0 k).f1 ∧ (rd_T28 F.l0 k).f1 ≤ 100; omega
    | 1, _ => show -100 ≤ (rd_T28 F.l1 k).f0 ∧ (rd_T28 F.l1 k).f0 ≤ 100 ∧ -100 ≤ (rd_T28 F.l1 k).f1 ∧ (rd_T28 F.l1 k).f1 ≤ 100; omega
    | 2, _ => show -100 ≤ (rd_T28 F.l2 k).f0 ∧ (rd_T28 F.l2 k).f0 ≤ 100 ∧ -100 ≤ (rd_T28 F.l2 k).f1 ∧ (rd_T28 F.l2 k).f1 ≤ 100; omega
  clear hok
  refine exec_block ?_
  refine exec_loop (LpI F w nb b9 ga g c most least bt k) 3 ⟨0, by omega, by omega, hS, by simpa using hSl⟩ ?_
  clear hS hSl t
  clear V
  rintro j t W ⟨i, hi, hj, hS, hSl⟩
  obtain ⟨x, hx⟩ := Slots.open_ hSl; simp only [fill, Nat.reduceAdd] at hx; subst hx; clear hSl
  refine exec_seq (exec_region_o fun ds => ?_)
  gi_wp2
  refine eq_mk (Keep.refl _) ?_
  show Exec _ _ _ _ _ _
  refine exec_seq (exec_cond (b := decide (i < 3)) (by first | rfl | (show Value.bool _ = _; congr 1; apply decide_eq_decide.2; omega)) (fun hp => ?_) (fun hp => ?_))
  · have hi3 : i < 3 := of_decide_eq_true hp
    have hiI : (i : Int) < 3 := by omega
    have hkI : (k : Int) < F.l0.length := by omega
    have hk0 : ¬ (k : Int) < 0 := by omega
    have hi0 : ¬ (i : Int) < 0 := by omega
    clear hp
    refine exec_skip ?_
    show Exec _ _ _ _ _ _
    refine exec_cut (LpM F w nb b9 ga g c most least bt k i) ?_ ?_
    · have cA := hS.cell hi3
      have cO := hS.r.own i hi3
      have hrow : rowAt bt (fn3 F.l0 F.l1 F.l2) k i i = fn3 F.l0 F.l1 F.l2 i := by unfold rowAt; rw [if_neg (Nat.lt_irrefl _)]
      rw [hrow] at cO
      have hgi : (⟨g i, 0, none⟩ : Addr).add (k * 2) = ⟨g i, k * 2, none⟩ := by
        unfold Addr.add
        split
        · rename_i h; rw [h]
        · simp
      have hgai : (⟨ga, 0, none⟩ : Addr).add i = ⟨ga, i, none⟩ := by
        unfold Addr.add
        split
        · rename_i h; rw [h]
        · simp
      have hlen := hL i hi3
      have hbi := hbd i hi3
      have hu22 := Try.underlying22
      have hu57 := Try.underlying57
      refine exec_block (exec_seq (exec_region_o fun ds => ?_))
      gi_wp2
      refine eq_mk (Keep.refl _) ?_
      show Exec _ _ _ _ _ _
      refine exec_seq (exec_region_o fun ds => ?_)
      gi_wp2
      refine eq_mk (Keep.refl _) ?_
      show Exec _ _ _ _ _ _
      have e1 : IntKind.i64.wrap bt = bt := IntWalk.i64_in _ (by omega)
      refine exec_seq (exec_region_o fun ds => ?_)
      gi_wp2
      refine eq_mk (Keep.refl _) ?_
      show Exec _ _ _ _ _ _
      have hmin : min i 64 = i := by omega
      refine exec_cond (b := bitB bt i) (by first | rfl | (show Value.bool _ = Value.bool (bits .and .i64 (bt / 2 ^ i) 1 == 1); first | rfl | (rw [hmin]) | (congr 1; rw [Bool.eq_iff_iff]; simp))) (fun hb => ?_) (fun hb => ?_)
      · obtain ⟨lo, hlo⟩ : ∃ x, (rd_T28 (fn3 F.l0 F.l1 F.l2 i) k).f0 = x := ⟨_, rfl⟩
        obtain ⟨hi, hhi⟩ : ∃ x, (rd_T28 (fn3 F.l0 F.l1 F.l2 i) k).f1 = x := ⟨_, rfl⟩
        rw [hlo, hhi] at hbi
        have hkm : k < ((fn3 F.l0 F.l1 F.l2 i).map toP).length := by rw [List.length_map, hlen]; exact hkl
        have hkq : k < (fn3 F.l0 F.l1 F.l2 i).length := by rw [hlen]; exact hkl
        have hget : ((fn3 F.l0 F.l1 F.l2 i).map toP)[k]'hkm = (lo, hi) := by
          rw [List.getElem_map, ← hlo, ← hhi]
          simp [rd_T28, hkq, toP]
        have hc0 : W.cell? ⟨g i, k * 2, none⟩ = some (.int .i64 lo) := by
          rw [World.ownsRow.cellAt cO (k * 2) (by omega), (flat_get _ k hkm).1, hget]
        have hc1 : W.cell? ⟨g i, k * 2 + 1, none⟩ = some (.int .i64 hi) := by
          rw [World.ownsRow.cellAt cO (k * 2 + 1) (by omega), (flat_get _ k hkm).2, hget]
        have cfl : W.drew.frozen? ⟨g i, k * 2, none⟩ = false := World.ownsRow.frozenAt cO (k * 2)
        have cfh : W.drew.frozen? ⟨g i, k * 2 + 1, none⟩ = false := World.ownsRow.frozenAt cO (k * 2 + 1)
        have e3 : IntKind.i64.wrap (lo + 1) = lo + 1 := IntWalk.i64_in _ (by omega)
        have e4 : IntKind.i64.wrap (hi - 2) = hi - 2 := IntWalk.i64_in _ (by omega)
        have mn : (if lo + 1 < hi then lo + 1 else hi) = min hi (lo + 1) := by split <;> omega
        have mx : (if lo < hi - 2 then hi - 2 else lo) = max lo (hi - 2) := by split <;> omega
        clear e1 hmin hgi hgai cA hiI hkI hk0 hi0
        have hend : (W.drew.setCell ⟨g i, k * 2, none⟩ (.int .i64 (min hi (lo + 1)))).ownsRow (b9 + 1) 28 2 (sl3 g c F.l0.length i) F.l0.length (flat ((narL (bitB bt i) (fn3 F.l0 F.l1 F.l2 i) k).map toP)) := by
          have h1 := (World.ownsRow.stored (World.ownsRow.drew cO) (k * 2) (.int .i64 (min hi (lo + 1)))).1
          rw [flat_lo _ k lo hi _ hkm hget] at h1
          rw [show (narL (bitB bt i) (fn3 F.l0 F.l1 F.l2 i) k).map toP = ((fn3 F.l0 F.l1 F.l2 i).map toP).set k (min hi (lo + 1), hi) by rw [hb]; unfold narL narS; rw [if_pos rfl, List.map_set, hlo, hhi]; rfl]
          exact h1
        have hSd : LpS F w nb b9 ga g c bt k i W.drew := ⟨⟨hS.s.1.drew, hS.s.2⟩, hS.b, hS.a, fun i hi => World.ownsRow.drew (hS.r.own i hi), hS.r.ne⟩
        have hfin := hSd.set hne hw9 hga hi3 hL hkl hend
        clear hend cO hget hrow hlen
        refine region_of_tail 11 (by kernel_rfl) (by kernel_rfl) (by kernel_rfl) (fun W' => W' = W.drew) (fun _ _ _ => False) (fun _ _ _ h => h.elim) fun ds => ?_
        have hS' : W.drew = W.drew := rfl
        have cL : ∀ W', W' = W.drew → W'.cell? ⟨g i, k * 2, none⟩ = some (.int .i64 lo) := fun W' h => by rw [h]; exact hc0
        have cH : ∀ W', W' = W.drew → W'.cell? ⟨g i, k * 2 + 1, none⟩ = some (.int .i64 hi) := fun W' h => by rw [h]; exact hc1
        refine held_take 0 (.pointer (some ⟨g i, k * 2, none⟩)) rfl (by kernel_rfl) (by kernel_rfl) (by kernel_rfl) (by intro _ _ _ h; first | exact h | (simpa [behind, Act.put] using h)) rfl (by first | exact hS | assumption) (fun wq hq => ?_) ?_; (focus (first | rfl | (simp [go_sem]; done))); simp only [Act.put, Array.getInternal_eq_getElem, List.getElem_toArray, List.getElem_cons_succ, List.getElem_cons_zero, List.setIfInBounds_toArray, List.set_cons_succ, List.set_cons_zero]
        refine held_take 1 (.pointer (some ⟨g i, k * 2, none⟩)) rfl (by kernel_rfl) (by kernel_rfl) (by kernel_rfl) (by intro _ _ _ h; first | exact h | (simpa [behind, Act.put] using h)) rfl (by first | exact hS | assumption) (fun wq hq => ?_) ?_; (focus (first | rfl | (simp [go_sem]; done))); simp only [Act.put, Array.getInternal_eq_getElem, List.getElem_toArray, List.getElem_cons_succ, List.getElem_cons_zero, List.setIfInBounds_toArray, List.set_cons_succ, List.set_cons_zero]
        refine held_take 2 (.pointer (some ⟨g i, k * 2, none⟩)) rfl (by kernel_rfl) (by kernel_rfl) (by kernel_rfl) (by intro _ _ _ h; first | exact h | (simpa [behind, Act.put] using h)) rfl (by first | exact hS | assumption) (fun wq hq => ?_) ?_; (focus (simp [go_sem]; done)); simp only [Act.put, Array.getInternal_eq_getElem, List.getElem_toArray, List.getElem_cons_succ, List.getElem_cons_zero, List.setIfInBounds_toArray, List.set_cons_succ, List.set_cons_zero]
        refine held_take 3 (.pointer (some ⟨g i, k * 2 + 1, none⟩)) rfl (by kernel_rfl) (by kernel_rfl) (by kernel_rfl) (by intro _ _ _ h; first | exact h | (simpa [behind, Act.put] using h)) rfl (by first | exact hS | assumption) (fun wq hq => ?_) ?_; (focus (simp [go_sem]; done)); simp only [Act.put, Array.getInternal_eq_getElem, List.getElem_toArray, List.getElem_cons_succ, List.getElem_cons_zero, List.setIfInBounds_toArray, List.set_cons_succ, List.set_cons_zero]
        refine held_take 4 (.int .i64 hi) rfl (by kernel_rfl) (by kernel_rfl) (by kernel_rfl) (by intro _ _ _ h; first | exact h | (simpa [behind, Act.put] using h)) rfl (by first | exact hS | assumption) (fun wq hq => ?_) ?_; (focus (simp [go_sem, cH wq hq]; done)); simp only [Act.put, Array.getInternal_eq_getElem, List.getElem_toArray, List.getElem_cons_succ, List.getElem_cons_zero, List.setIfInBounds_toArray, List.set_cons_succ, List.set_cons_zero]
        refine held_take 5 (.pointer (some ⟨g i, k * 2, none⟩)) rfl (by kernel_rfl) (by kernel_rfl) (by kernel_rfl) (by intro _ _ _ h; first | exact h | (simpa [behind, Act.put] using h)) rfl (by first | exact hS | assumption) (fun wq hq => ?_) ?_; (focus (first | rfl | (simp [go_sem]; done))); simp only [Act.put, Array.getInternal_eq_getElem, List.getElem_toArray, List.getElem_cons_succ, List.getElem_cons_zero, List.setIfInBounds_toArray, List.set_cons_succ, List.set_cons_zero]
        refine held_take 6 (.pointer (some ⟨g i, k * 2, none⟩)) rfl (by kernel_rfl) (by kernel_rfl) (by kernel_rfl) (by intro _ _ _ h; first | exact h | (simpa [behind, Act.put] using h)) rfl (by first | exact hS | assumption) (fun wq hq => ?_) ?_; (focus (simp [go_sem]; done)); simp only [Act.put, Array.getInternal_eq_getElem, List.getElem_toArray, List.getElem_cons_succ, List.getElem_cons_zero, List.setIfInBounds_toArray, List.set_cons_succ, List.set_cons_zero]
        refine held_take 7 (.pointer (some ⟨g i, k * 2, none⟩)) rfl (by kernel_rfl) (by kernel_rfl) (by kernel_rfl) (by intro _ _ _ h; first | exact h | (simpa [behind, Act.put] using h)) rfl (by first | exact hS | assumption) (fun wq hq => ?_) ?_; (focus (simp [go_sem]; done)); simp only [Act.put, Array.getInternal_eq_getElem, List.getElem_toArray, List.getElem_cons_succ, List.getElem_cons_zero, List.setIfInBounds_toArray, List.set_cons_succ, List.set_cons_zero]
        refine held_take 8 (.int .i64 lo) rfl (by kernel_rfl) (by kernel_rfl) (by kernel_rfl) (by intro _ _ _ h; first | exact h | (simpa [behind, Act.put] using h)) rfl (by first | exact hS | assumption) (fun wq hq => ?_) ?_; (focus (simp [go_sem, cL wq hq]; done)); simp only [Act.put, Array.getInternal_eq_getElem, List.getElem_toArray, List.getElem_cons_succ, List.getElem_cons_zero, List.setIfInBounds_toArray, List.set_cons_succ, List.set_cons_zero]
        refine held_take 9 (.int .i64 (lo + 1)) rfl (by kernel_rfl) (by kernel_rfl) (by kernel_rfl) (by intro _ _ _ h; first | exact h | (simpa [behind, Act.put] using h)) rfl (by first | exact hS | assumption) (fun wq hq => ?_) ?_; (focus (simp [go_sem, e3]; done)); simp only [Act.put, Array.getInternal_eq_getElem, List.getElem_toArray, List.getElem_cons_succ, List.getElem_cons_zero, List.setIfInBounds_toArray, List.set_cons_succ, List.set_cons_zero]
        refine held_take 10 (.int .i64 (min hi (lo + 1))) rfl (by kernel_rfl) (by kernel_rfl) (by kernel_rfl) (by intro _ _ _ h; first | exact h | (simpa [behind, Act.put] using h)) rfl (by first | exact hS | assumption) (fun wq hq => ?_) ?_; (focus (simp [go_sem, mn]; done)); simp only [Act.put, Array.getInternal_eq_getElem, List.getElem_toArray, List.getElem_cons_succ, List.getElem_cons_zero, List.setIfInBounds_toArray, List.set_cons_succ, List.set_cons_zero]
        refine held_done (by kernel_rfl) ?_
        refine behind_normal 3 (by kernel_rfl) ?_
        have s0 := cL _ rfl
        refine any_val 11 (.pointer (some ⟨g i, k * 2, none⟩)) rfl (by kernel_rfl) rfl (by first | (simp [go_sem]; done) | rfl) ?_; simp only [Act.put, Array.getInternal_eq_getElem, List.getElem_toArray, List.getElem_cons_succ, List.getElem_cons_zero, List.setIfInBounds_toArray, List.set_cons_succ, List.set_cons_zero]
        refine any_val 12 (.pointer (some ⟨g i, k * 2, none⟩)) rfl (by kernel_rfl) rfl (by first | (simp [go_sem]; done) | rfl) ?_; simp only [Act.put, Array.getInternal_eq_getElem, List.getElem_toArray, List.getElem_cons_succ, List.getElem_cons_zero, List.setIfInBounds_toArray, List.set_cons_succ, List.set_cons_zero]
        refine any_skip 13 (W.drew.setCell ⟨g i, k * 2, none⟩ (.int .i64 (min hi (lo + 1)))) rfl (by kernel_rfl) rfl (by simp [go_sem, s0, cfl]) ?_; simp only [Act.put, Array.getInternal_eq_getElem, List.getElem_toArray, List.getElem_cons_succ, List.getElem_cons_zero, List.setIfInBounds_toArray, List.set_cons_succ, List.set_cons_zero]
        refine any_done (by kernel_rfl) ⟨rfl, ((Keep.refl W).drew).setCell _ _, ?_⟩
        refine ⟨hfin, ?_⟩
        simp [Slots, Fits]
      · obtain ⟨lo, hlo⟩ : ∃ x, (rd_T28 (fn3 F.l0 F.l1 F.l2 i) k).f0 = x := ⟨_, rfl⟩
        obtain ⟨hi, hhi⟩ : ∃ x, (rd_T28 (fn3 F.l0 F.l1 F.l2 i) k).f1 = x := ⟨_, rfl⟩
        rw [hlo, hhi] at hbi
        have hkm : k < ((fn3 F.l0 F.l1 F.l2 i).map toP).length := by rw [List.length_map, hlen]; exact hkl
        have hkq : k < (fn3 F.l0 F.l1 F.l2 i).length := by rw [hlen]; exact hkl
        have hget : ((fn3 F.l0 F.l1 F.l2 i).map toP)[k]'hkm = (lo, hi) := by
          rw [List.getElem_map, ← hlo, ← hhi]
          simp [rd_T28, hkq, toP]
        have hc0 : W.cell? ⟨g i, k * 2, none⟩ = some (.int .i64 lo) := by
          rw [World.ownsRow.cellAt cO (k * 2) (by omega), (flat_get _ k hkm).1, hget]
        have hc1 : W.cell? ⟨g i, k * 2 + 1, none⟩ = some (.int .i64 hi) := by
          rw [World.ownsRow.cellAt cO (k * 2 + 1) (by omega), (flat_get _ k hkm).2, hget]
        have cfl : W.drew.frozen? ⟨g i, k * 2, none⟩ = false := World.ownsRow.frozenAt cO (k * 2)
        have cfh : W.drew.frozen? ⟨g i, k * 2 + 1, none⟩ = false := World.ownsRow.frozenAt cO (k * 2 + 1)
        have e3 : IntKind.i64.wrap (lo + 1) = lo + 1 := IntWalk.i64_in _ (by omega)
        have e4 : IntKind.i64.wrap (hi - 2) = hi - 2 := IntWalk.i64_in _ (by omega)
        have mn : (if lo + 1 < hi then lo + 1 else hi) = min hi (lo + 1) := by split <;> omega
        have mx : (if lo < hi - 2 then hi - 2 else lo) = max lo (hi - 2) := by split <;> omega
        clear e1 hmin hgi hgai cA hiI hkI hk0 hi0
        have hend : (W.drew.setCell ⟨g i, k * 2 + 1, none⟩ (.int .i64 (max lo (hi - 2)))).ownsRow (b9 + 1) 28 2 (sl3 g c F.l0.length i) F.l0.length (flat ((narL (bitB bt i) (fn3 F.l0 F.l1 F.l2 i) k).map toP)) := by
          have h1 := (World.ownsRow.stored (World.ownsRow.drew cO) (k * 2 + 1) (.int .i64 (max lo (hi - 2)))).1
          rw [flat_hi _ k lo hi _ hkm hget] at h1
          rw [show (narL (bitB bt i) (fn3 F.l0 F.l1 F.l2 i) k).map toP = ((fn3 F.l0 F.l1 F.l2 i).map toP).set k (lo, max lo (hi - 2)) by rw [hb]; unfold narL narS; rw [if_neg (by simp), List.map_set, hlo, hhi]; rfl]
          exact h1
        have hSd : LpS F w nb b9 ga g c bt k i W.drew := ⟨⟨hS.s.1.drew, hS.s.2⟩, hS.b, hS.a, fun i hi => World.ownsRow.drew (hS.r.own i hi), hS.r.ne⟩
        have hfin := hSd.set hne hw9 hga hi3 hL hkl hend
        clear hend cO hget hrow hlen
        refine region_of_tail 11 (by kernel_rfl) (by kernel_rfl) (by kernel_rfl) (fun W' => W' = W.drew) (fun _ _ _ => False) (fun _ _ _ h => h.elim) fun ds => ?_
        have hS' : W.drew = W.drew := rfl
        have cL : ∀ W', W' = W.drew → W'.cell? ⟨g i, k * 2, none⟩ = some (.int .i64 lo) := fun W' h => by rw [h]; exact hc0
        have cH : ∀ W', W' = W.drew → W'.cell? ⟨g i, k * 2 + 1, none⟩ = some (.int .i64 hi) := fun W' h => by rw [h]; exact hc1
        refine held_take 0 (.pointer (some ⟨g i, k * 2, none⟩)) rfl (by kernel_rfl) (by kernel_rfl) (by kernel_rfl) (by intro _ _ _ h; first | exact h | (simpa [behind, Act.put] using h)) rfl (by first | exact hS | assumption) (fun wq hq => ?_) ?_; (focus (first | rfl | (simp [go_sem]; done))); simp only [Act.put, Array.getInternal_eq_getElem, List.getElem_toArray, List.getElem_cons_succ, List.getElem_cons_zero, List.setIfInBounds_toArray, List.set_cons_succ, List.set_cons_zero]
        refine held_take 1 (.pointer (some ⟨g i, k * 2, none⟩)) rfl (by kernel_rfl) (by kernel_rfl) (by kernel_rfl) (by intro _ _ _ h; first | exact h | (simpa [behind, Act.put] using h)) rfl (by first | exact hS | assumption) (fun wq hq => ?_) ?_; (focus (first | rfl | (simp [go_sem]; done))); simp only [Act.put, Array.getInternal_eq_getElem, List.getElem_toArray, List.getElem_cons_succ, List.getElem_cons_zero, List.setIfInBounds_toArray, List.set_cons_succ, List.set_cons_zero]
        refine held_take 2 (.pointer (some ⟨g i, k * 2, none⟩)) rfl (by kernel_rfl) (by kernel_rfl) (by kernel_rfl) (by intro _ _ _ h; first | exact h | (simpa [behind, Act.put] using h)) rfl (by first | exact hS | assumption) (fun wq hq => ?_) ?_; (focus (simp [go_sem]; done)); simp only [Act.put, Array.getInternal_eq_getElem, List.getElem_toArray, List.getElem_cons_succ, List.getElem_cons_zero, List.setIfInBounds_toArray, List.set_cons_succ, List.set_cons_zero]
        refine held_take 3 (.pointer (some ⟨g i, k * 2, none⟩)) rfl (by kernel_rfl) (by kernel_rfl) (by kernel_rfl) (by intro _ _ _ h; first | exact h | (simpa [behind, Act.put] using h)) rfl (by first | exact hS | assumption) (fun wq hq => ?_) ?_; (focus (simp [go_sem]; done)); simp only [Act.put, Array.getInternal_eq_getElem, List.getElem_toArray, List.getElem_cons_succ, List.getElem_cons_zero, List.setIfInBounds_toArray, List.set_cons_succ, List.set_cons_zero]
        refine held_take 4 (.int .i64 lo) rfl (by kernel_rfl) (by kernel_rfl) (by kernel_rfl) (by intro _ _ _ h; first | exact h | (simpa [behind, Act.put] using h)) rfl (by first | exact hS | assumption) (fun wq hq => ?_) ?_; (focus (simp [go_sem, cL wq hq]; done)); simp only [Act.put, Array.getInternal_eq_getElem, List.getElem_toArray, List.getElem_cons_succ, List.getElem_cons_zero, List.setIfInBounds_toArray, List.set_cons_succ, List.set_cons_zero]
        refine held_take 5 (.pointer (some ⟨g i, k * 2, none⟩)) rfl (by kernel_rfl) (by kernel_rfl) (by kernel_rfl) (by intro _ _ _ h; first | exact h | (simpa [behind, Act.put] using h)) rfl (by first | exact hS | assumption) (fun wq hq => ?_) ?_; (focus (first | rfl | (simp [go_sem]; done))); simp only [Act.put, Array.getInternal_eq_getElem, List.getElem_toArray, List.getElem_cons_succ, List.getElem_cons_zero, List.setIfInBounds_toArray, List.set_cons_succ, List.set_cons_zero]
        refine held_take 6 (.pointer (some ⟨g i, k * 2, none⟩)) rfl (by kernel_rfl) (by kernel_rfl) (by kernel_rfl) (by intro _ _ _ h; first | exact h | (simpa [behind, Act.put] using h)) rfl (by first | exact hS | assumption) (fun wq hq => ?_) ?_; (focus (simp [go_sem]; done)); simp only [Act.put, Array.getInternal_eq_getElem, List.getElem_toArray, List.getElem_cons_succ, List.getElem_cons_zero, List.setIfInBounds_toArray, List.set_cons_succ, List.set_cons_zero]
        refine held_take 7 (.pointer (some ⟨g i, k * 2 + 1, none⟩)) rfl (by kernel_rfl) (by kernel_rfl) (by kernel_rfl) (by intro _ _ _ h; first | exact h | (simpa [behind, Act.put] using h)) rfl (by first | exact hS | assumption) (fun wq hq => ?_) ?_; (focus (simp [go_sem]; done)); simp only [Act.put, Array.getInternal_eq_getElem, List.getElem_toArray, List.getElem_cons_succ, List.getElem_cons_zero, List.setIfInBounds_toArray, List.set_cons_succ, List.set_cons_zero]
        refine held_take 8 (.int .i64 hi) rfl (by kernel_rfl) (by kernel_rfl) (by kernel_rfl) (by intro _ _ _ h; first | exact h | (simpa [behind, Act.put] using h)) rfl (by first | exact hS | assumption) (fun wq hq => ?_) ?_; (focus (simp [go_sem, cH wq hq]; done)); simp only [Act.put, Array.getInternal_eq_getElem, List.getElem_toArray, List.getElem_cons_succ, List.getElem_cons_zero, List.setIfInBounds_toArray, List.set_cons_succ, List.set_cons_zero]
        refine held_take 9 (.int .i64 (hi - 2)) rfl (by kernel_rfl) (by kernel_rfl) (by kernel_rfl) (by intro _ _ _ h; first | exact h | (simpa [behind, Act.put] using h)) rfl (by first | exact hS | assumption) (fun wq hq => ?_) ?_; (focus (simp [go_sem, e4]; done)); simp only [Act.put, Array.getInternal_eq_getElem, List.getElem_toArray, List.getElem_cons_succ, List.getElem_cons_zero, List.setIfInBounds_toArray, List.set_cons_succ, List.set_cons_zero]
        refine held_take 10 (.int .i64 (max lo (hi - 2))) rfl (by kernel_rfl) (by kernel_rfl) (by kernel_rfl) (by intro _ _ _ h; first | exact h | (simpa [behind, Act.put] using h)) rfl (by first | exact hS | assumption) (fun wq hq => ?_) ?_; (focus (simp [go_sem, mx]; done)); simp only [Act.put, Array.getInternal_eq_getElem, List.getElem_toArray, List.getElem_cons_succ, List.getElem_cons_zero, List.setIfInBounds_toArray, List.set_cons_succ, List.set_cons_zero]
        refine held_done (by kernel_rfl) ?_
        refine behind_normal 3 (by kernel_rfl) ?_
        have s0 := cH _ rfl
        refine any_val 11 (.pointer (some ⟨g i, k * 2, none⟩)) rfl (by kernel_rfl) rfl (by first | (simp [go_sem]; done) | rfl) ?_; simp only [Act.put, Array.getInternal_eq_getElem, List.getElem_toArray, List.getElem_cons_succ, List.getElem_cons_zero, List.setIfInBounds_toArray, List.set_cons_succ, List.set_cons_zero]
        refine any_val 12 (.pointer (some ⟨g i, k * 2 + 1, none⟩)) rfl (by kernel_rfl) rfl (by first | (simp [go_sem]; done) | rfl) ?_; simp only [Act.put, Array.getInternal_eq_getElem, List.getElem_toArray, List.getElem_cons_succ, List.getElem_cons_zero, List.setIfInBounds_toArray, List.set_cons_succ, List.set_cons_zero]
        refine any_skip 13 (W.drew.setCell ⟨g i, k * 2 + 1, none⟩ (.int .i64 (max lo (hi - 2)))) rfl (by kernel_rfl) rfl (by simp [go_sem, s0, cfh]) ?_; simp only [Act.put, Array.getInternal_eq_getElem, List.getElem_toArray, List.getElem_cons_succ, List.getElem_cons_zero, List.setIfInBounds_toArray, List.set_cons_succ, List.set_cons_zero]
        refine any_done (by kernel_rfl) ⟨rfl, ((Keep.refl W).drew).setCell _ _, ?_⟩
        refine ⟨hfin, ?_⟩
        simp [Slots, Fits]
    · clear hS
      rintro t' W' ⟨hS, hSl⟩
      clear x
      obtain ⟨x, hx⟩ := Slots.open_ hSl; simp only [fill, Nat.reduceAdd] at hx; subst hx; clear hSl
      have hwr : IntKind.i64.wrap ((i : Int) + 1) = ((i + 1 : Nat) : Int) := by rw [IntWalk.i64_in _ (by omega)]; norm_cast
      refine exec_region_o fun ds => ?_
      gi_wp2
      refine eq_mk (Keep.refl _) ⟨j - 1, by omega, i + 1, by omega, by omega, hS, by simp only [Slots, Fits, and_self]; simp⟩
  · have hi3 : i = 3 := by have := of_decide_eq_false hp; omega
    subst hi3
    refine exec_exit ?_
    show _ ∧ _
    exact ⟨hS, (by simp only [Slots, Fits, and_self])⟩
end Go.Proofs.Ytafmgmaelnpehaa
end

section
set_option linter.unusedVariables false
set_option linter.unusedSimpArgs false
namespace Go.Proofs.Ytafmgmaelnpehaa
open Go.RowKit Go.TL Go.Shelf Go.Fu
attribute [local go_sem] Oper.semAt_some
open PFurrowAsks Go.Proofs.YtafmgmaelnpehaaW.PrintWords
set_option maxRecDepth 100000 in
set_option maxHeartbeats 1000000 in
theorem in_c (a0 a1 b0 b1 : Int) (h0 : b0 ≤ a0) (h1 : a1 ≤ b1) (w : World) : Calls Try.prog 39 #[.agg #[.int .i64 a0, .int .i64 a1], .agg #[.int .i64 b0, .int .i64 b1]] w fun e w' => e = .returned (.bool true) ∧ Below w.heap.size w w' := by
  refine calls_of_exec Try.func39 rfl ?_
  simp only [Try.ntmps39, List.size_toArray, List.length_cons, List.length_nil, Nat.reduceAdd, Nat.reduceSub, Array.replicate_succ, Array.replicate_zero, List.push_toArray, List.append_toArray, List.nil_append, List.cons_append]
  refine exec_seq (exec_region_o fun ds => ?_)
  gi_wp2
  refine eq_mk (((Keep.refl w).alloc _).alloc _) ?_
  show Exec _ _ _ _ _ _
  have q0 := Box2.new w 28 a0 a1
  have ha := (Below.refl w.heap.size w).alloc (Nat.le_refl _) (.cells #[.int .i64 a0, .int .i64 a1] 28)
  have hz : (w.alloc (.cells #[.int .i64 a0, .int .i64 a1] 28)).heap.size = w.heap.size + 1 := by simp
  generalize w.alloc (.cells #[.int .i64 a0, .int .i64 a1] 28) = V at *
  have q1 := Box2.new V 28 b0 b1
  have hb := (Below.refl V.heap.size V).alloc (Nat.le_refl _) (.cells #[.int .i64 b0, .int .i64 b1] 28)
  have hB := ha.trans (hb.mono ha.size)
  replace q0 := box2_below hb q0
  rw [hz] at q1
  generalize V.alloc (.cells #[.int .i64 b0, .int .i64 b1] 28) = X at *
  clear ha hb hz
  clear V
  have d0 := q0.cell0
  have d1 := q0.cell1
  have e0 := q1.cell0
  have e1 := q1.cell1
  refine exec_seq (exec_region_o fun ds => ?_)
  gi_wp2
  refine eq_mk (Keep.refl _) ?_
  show Exec _ _ _ _ _ _
  exact exec_ret ⟨.inr rfl, fun W' hG => ⟨.bool true, by simp [results, Try.f39, go_sem, h0, h1], rfl, hB.trans (hG.below (Nat.le_refl _) hB.size)⟩⟩
set_option maxRecDepth 100000 in
set_option maxHeartbeats 8000000 in
theorem lt_25 {V : World} {a15 a17 a31 a33 wr zr : Nat} {s0 c0 s1 c1 m0 n0 m1 n1 es ew : Int} {l0 u0 l1 u1 p0 q0 p1 q1 : Int} (b15 : Box2 V a15 28 l0 u0) (b17 : Box2 V a17 28 l1 u1) (b31 : Box2 V a31 28 p0 q0) (b33 : Box2 V a33 28 p1 q1) (h0 : l0 ≤ l1) (h1 : u1 ≤ u0) (h2 : p0 ≤ p1) (h3 : q1 ≤ q0)
    (hs : bits .andNot .i64 s0 s1 = 0) (hc : bits .andNot .i64 c1 c0 = 0) (hm : bits .andNot .i64 m0 m1 = 0) (hn : bits .andNot .i64 n1 n0 = 0) (t : Array Value) (hSl : Slots [none, none, none, none, none, none, none, none, none, none, none, none, none, none, some (.func (.func 39) #[] #[]), some (.pointer (some ⟨a15, 0, none⟩)), some (.int .i64 0), some (.pointer (some ⟨a17, 0, none⟩)), some (.int .i64 0), some (.int .i64 s0), some (.int .i64 c0), some (.int .i64 0), some (.int .i64 s1), some (.int .i64 c1), some (.int .i64 0), some (.int .i64 m0), some (.int .i64 n0), some (.int .i64 es), some (.int .i64 m1), some (.int .i64 n1), some (.int .i64 es), some (.pointer (some ⟨a31, 0, none⟩)), some (.int .i64 0), some (.pointer (some ⟨a33, 0, none⟩)), some (.int .i64 0), some (.int .i64 ((wr : Nat) : Int)), some (.int .i64 ew), some (.int .i64 ((zr : Nat) : Int)), some (.int .i64 ew), none, none, none, none, none, none, none, none, none, none, none, none, none, none, none, none, none, none, none, none, none, none, none, none, none, none, none, none, none, none, none, none, none, none, none, none, none, none, none, none, none, none, none, none, none, none, none, none, none, none, none, none, none, none, none, none, none, none, none, none, none, none, none, none, none, none, none, none, none, none, none, none, none, none, none, none, none, none, none, none, none, none, none, none, none, none, none, none, none, none, none, none, none, none, none, none, none, none, none, none, none, none, none, none, none, none, none, none, none, none, none, none, none, none, none, none, none, none, none, none, none, none, none, none, none, none, none, none, none, none, none, none, none, none, none, none, none, none, none, none, none, none, none, none, none, none, none, none, none, none, none, none, none, none, none, none, none, none, none, none, none, none, none, none, none, none, none, none, none, none, none, none, none, none, none, none, none, none, none, none, none, none, none, none, none, none, none, none, none, none, none, none, none, none, none, none, none, none, none, none, none, none, none, none, none, none, none, none, none, none, none, none, none, none, none, none, none, none, none, none, none, none, none, none, none, none, none, none, none] t) :
    Exec Try.prog none (sub (Try.f10.body.getD .skip) [1, 1, 1, 1, 1, 1, 1, 1, 1, 1, 1, 1, 1, 1, 1, 1, 1, 0, 0]) t V (andThen (fun t' W' => Below V.heap.size V W' ∧ Slots [none, none, none, none, none, none, none, none, none, none, none, none, none, none, none, none, none, none, none, none, none, none, none, none, none, none, none, none, none, none, none, none, none, none, none, some (.int .i64 ((wr : Nat) : Int)), none, some (.int .i64 ((zr : Nat) : Int)), none, none, none, none, none, none, none, none, none, none, none, none, none, none, none, none, none, none, none, none, none, none, none, none, none, none, none, none, none, none, none, none, none, none, none, none, none, none, none, none, none, none, none, none, none, none, none, none, none, none, none, none, none, none, none, none, none, none, none, none, none, none, none, none, none, none, none, none, none, none, none, none, none, none, none, none, none, none, none, none, none, none, none, none, none, none, none, none, none, none, none, none, none, none, none, none, none, none, none, none, none, none, none, none, none, none, none, none, none, none, none, none, none, none, none, none, none, none, none, none, none, none, none, none, none, none, none, none, none, none, none, none, none, none, none, none, none, none, none, none, none, none, none, none, none, none, none, none, none, none, none, none, none, none, none, none, none, none, none, none, none, none, none, none, none, none, none, none, none, none, none, none, none, none, none, none, none, none, none, none, none, none, none, none, none, none, none, none, none, none, none, none, none, none, none, none, none, none, none, none, none, none, none, none, none, none, none, none, none, none, none, none, none, some (.bool false), none, none, none, none, none, none, none, none, none, none, none, none, none, none, none, none] t') fun _ _ _ => False) := by
  obtain ⟨x, hx⟩ := Slots.open_ hSl; simp only [fill, Nat.reduceAdd] at hx; subst hx; clear hSl
  have hu28 := Try.underlying28
  have d0 := b15.cell0
  have d1 := b15.cell1
  have e0 := b17.cell0
  have e1 := b17.cell1
  have HI1 := Lib.hid (in_c l1 u1 l0 u0 h0 h1)
  have HI2 := Lib.hid (in_c p1 q1 p0 q0 h2 h3)
  clear h0 h1 h2 h3
  refine exec_region_o fun ds => ?_
  show (Code.region _ _ _).wpIn _ _ _ _ _ _
  gi_wp2_with fail
  refine ⟨trivial, rfl, (callsIn_wide.2 (HI1.out V)).mono ?_⟩
  rintro e X ⟨rfl, hx⟩
  have hK := Keep.of_below hx
  replace b31 := box2_below hx b31
  replace b33 := box2_below hx b33
  have HX := Lib.hid hx
  clear hx d0 d1 e0 e1 b15 b17
  have d0 := b31.cell0
  have d1 := b31.cell1
  have e0 := b33.cell0
  have e1 := b33.cell1
  gi_wp2_with fail
  refine ⟨trivial, rfl, (callsIn_wide.2 (HI2.out X)).mono ?_⟩
  rintro e Y ⟨rfl, hy⟩
  replace hK := hK.trans (Keep.of_below hy)
  have HY := Lib.hid (HX.out.trans (hy.mono HX.out.size))
  clear hy d0 d1 e0 e1 b31 b33
  gi_wp2
  exact eq_mk hK ⟨HY.out, (by simp only [Slots, Fits, and_self])⟩
end Go.Proofs.Ytafmgmaelnpehaa
end

section
set_option linter.unusedVariables false
set_option linter.unusedSimpArgs false
namespace Go.Proofs.Ytafmgmaelnpehaa
open Go.RowKit Go.TL Go.Fu
open PFurrowAsks Go.Proofs.YtafmgmaelnpehaaW.PrintWords
/-- G is F, but for one span of each row, which is narrower. -/
structure Nar (F G : Fur) (b0 b1 b2 : Bool) (k : Nat) : Prop where
  e0 : G.l0 = narL b0 F.l0 k
  e1 : G.l1 = narL b1 F.l1 k
  e2 : G.l2 = narL b2 F.l2 k
section
variable {F G : Fur} {b0 b1 b2 : Bool} {k : Nat}
theorem Nar.va (h : Nar F G b0 b1 b2 k) (hv : F.va = true) : G.va = true := by
  unfold Fur.va
  rw [h.e0, h.e1, h.e2]
  exact nar_valid hv b0 b1 b2 k
theorem narL_get (b : Bool) (l : List S28) (k j : Nat) (hj : j < l.length) (h : (rd_T28 l k).f0 ≤ (rd_T28 l k).f1) (d : S28) : ((l.getD j d).f0 ≤ ((narL b l k).getD j d).f0 ∧ ((narL b l k).getD j d).f1 ≤ (l.getD j d).f1) := by
  have a := narL_rd b l k j hj
  have e1 : rd_T28 l (j : Int) = l.getD j d := by simp [rd_T28, List.getD_eq_getElem?_getD, hj]
  have e2 : rd_T28 (narL b l k) (j : Int) = (narL b l k).getD j d := by simp [rd_T28, List.getD_eq_getElem?_getD, narL_len, hj]
  rw [← e1, ← e2, a]
  split
  · rename_i e
    subst e
    have := nar_in b (rd_T28 l j) h
    omega
  · exact ⟨Int.le_refl _, Int.le_refl _⟩
theorem rd_ok {l0 l1 l2 : List S28} (h : valid l0 l1 l2 = true) (j : Nat) (hj : j < l0.length) : (rd_T28 l0 j).f0 ≤ (rd_T28 l0 j).f1 ∧ (rd_T28 l1 j).f0 ≤ (rd_T28 l1 j).f1 ∧ (rd_T28 l2 j).f0 ≤ (rd_T28 l2 j).f1 := by
  have hs := (valid_lens h).2.2.2 j hj
  unfold stOk at hs
  simp only [Bool.and_eq_true, decide_eq_true_eq] at hs
  omega
theorem Nar.sub (h : Nar F G b0 b1 b2 k) (hv : F.va = true) (hk : k < F.l0.length) : Sub2 F.pl G.pl := by
  refine ⟨by rw [G.pl_len, F.pl_len, h.e0, narL_len], fun i hi => ?_⟩
  rw [F.pl_len] at hi
  have a := narL_get b0 F.l0 k i hi (rd_ok hv k hk).1 z28'
  have e1 : F.pl.getD i (0, 0) = toP (F.l0.getD i z28') := by simp [Fur.pl, List.getD_eq_getElem?_getD, hi]
  have e2 : G.pl.getD i (0, 0) = toP ((narL b0 F.l0 k).getD i z28') := by unfold Fur.pl; rw [h.e0]; simp [List.getD_eq_getElem?_getD, narL_len, hi]
  rw [e1, e2]
  exact a
theorem Nar.worst (h : Nar F G b0 b1 b2 k) (hv : F.va = true) (hk : k < F.l0.length) : bits .andNot .i64 (worstV F.va F.pl).1 (worstV G.va G.pl).1 = 0 ∧ bits .andNot .i64 (worstV G.va G.pl).2.1 (worstV F.va F.pl).2.1 = 0 := by
  have h8 := Fur.le8 hv
  have hs := h.sub hv hk
  have ok := Fur.okS hv
  have ok' := Fur.okS (h.va hv)
  have pl := F.pl_len
  have pl' := hs.len
  unfold worstV
  rw [hv, h.va hv, if_pos rfl, if_pos rfl, pl', pl]
  simp only
  rw [shM_set _ _ (by omega), shM_set _ _ (by omega), shM_set _ _ (by omega), shM_set _ _ (by omega)]
  constructor
  · exact andn_is _ _ (shM_lt (by omega)) (shM_lt (by omega)) fun i _ hi => set_sub (fun j hj hp => sub_S ok ok' hs (by omega) hp) i hi
  · exact andn_is _ _ (shM_lt (by omega)) (shM_lt (by omega)) fun i _ hi => set_sub (fun j hj hp => sub_C ok ok' hs (by omega) hp) i hi
theorem Nar.depth (h : Nar F G b0 b1 b2 k) (hv : F.va = true) (hk : k < F.l0.length) (j : Nat) (hj : j < F.l0.length) : (F.d j).1 ≤ (G.d j).1 ∧ (G.d j).2 ≤ (F.d j).2 := by
  have hl := (valid_lens hv).2.2.1
  have a := narL_get b2 F.l2 k j (by omega) (rd_ok hv k hk).2.2 z28'
  unfold Fur.d
  rw [h.e2]
  exact a
theorem Nar.width (h : Nar F G b0 b1 b2 k) (hv : F.va = true) (hk : k < F.l0.length) (j : Nat) (hj : j < F.l0.length) : (F.wd j).1 ≤ (G.wd j).1 ∧ (G.wd j).2 ≤ (F.wd j).2 := by
  have hl := (valid_lens hv).2.1
  have a := narL_get b1 F.l1 k j (by omega) (rd_ok hv k hk).2.1 z28'
  unfold Fur.wd
  rw [h.e1]
  exact a
theorem Nar.shallow (h : Nar F G b0 b1 b2 k) (hv : F.va = true) (hk : k < F.l0.length) (h7 : F.l0.length ≤ 7) (least : Int) : bits .andNot .i64 (shV F.va least F).1 (shV G.va least G).1 = 0 ∧ bits .andNot .i64 (shV G.va least G).2.1 (shV F.va least F).2.1 = 0 ∧ (shV F.va least F).2.2 = (shV G.va least G).2.2 := by
  have hl := (valid_lens hv).2.2.1
  have hl' : G.l2.length = F.l2.length := by rw [h.e2, narL_len]
  unfold shV
  rw [hv, h.va hv, if_pos rfl, if_pos rfl]
  by_cases hm : 0 ≤ least
  · rw [if_pos hm, if_pos hm, hl', hl]
    simp only
    rw [shM_set _ _ (by omega), shM_set _ _ (by omega), shM_set _ _ (by omega), shM_set _ _ (by omega)]
    refine ⟨?_, ?_, trivial⟩
    · exact andn_is _ _ (shM_lt (by omega)) (shM_lt (by omega)) fun i _ hi => set_sub (fun j hj hp => decide_eq_true (by have a := h.depth hv hk j hj; have b := of_decide_eq_true hp; omega)) i hi
    · exact andn_is _ _ (shM_lt (by omega)) (shM_lt (by omega)) fun i _ hi => set_sub (fun j hj hp => decide_eq_true (by have a := h.depth hv hk j hj; have b := of_decide_eq_true hp; omega)) i hi
  · rw [if_neg hm, if_neg hm]
    exact ⟨rfl, rfl, rfl⟩
theorem sumL_le (y y' : Nat → Int × Int) (n : Nat) (h : ∀ j, j < n → (y j).1 ≤ (y' j).1 ∧ (y' j).2 ≤ (y j).2) : ∀ m, m ≤ n → (sumL (listOf y n) m).1 ≤ (sumL (listOf y' n) m).1 ∧ (sumL (listOf y' n) m).2 ≤ (sumL (listOf y n) m).2
  | 0, _ => by simp [sumL]
  | m + 1, hm => by
    have ih := sumL_le y y' n h m (by omega)
    have a := h m (by omega)
    have g1 : (listOf y n).getD m (0, 0) = y m := by simp [listOf, List.getD_eq_getElem?_getD, show m < n by omega]
    have g2 : (listOf y' n).getD m (0, 0) = y' m := by simp [listOf, List.getD_eq_getElem?_getD, show m < n by omega]
    unfold sumL
    rw [g1, g2]
    simp only
    omega
theorem mul_in {a b a' b' : Int} (h0 : 0 ≤ a) (h1 : 0 ≤ b) (h2 : a ≤ a') (h3 : b ≤ b') : a * b ≤ a' * b' := Int.mul_le_mul h2 h3 h1 (by omega)
theorem fur_pos (hv : F.va = true) (j : Nat) (hj : j < F.l0.length) : 0 ≤ (F.d j).1 ∧ (F.d j).1 ≤ (F.d j).2 ∧ 0 ≤ (F.wd j).1 ∧ (F.wd j).1 ≤ (F.wd j).2 := by
  obtain ⟨_, n1, n2, hs⟩ := valid_lens hv
  have h := hs j hj
  have e1 : rd_T28 F.l1 (j : Int) = F.l1.getD j z28' := by simp [rd_T28, List.getD_eq_getElem?_getD, show j < F.l1.length by omega]
  have e2 : rd_T28 F.l2 (j : Int) = F.l2.getD j z28' := by simp [rd_T28, List.getD_eq_getElem?_getD, show j < F.l2.length by omega]
  rw [e1, e2] at h
  unfold stOk at h
  simp only [Bool.and_eq_true, decide_eq_true_eq] at h
  unfold Fur.d Fur.wd toP
  simp only
  omega
theorem Nar.soil (h : Nar F G b0 b1 b2 k) (hv : F.va = true) (hk : k < F.l0.length) : (soilV F.va F).1.1 ≤ (soilV G.va G).1.1 ∧ (soilV G.va G).1.2 ≤ (soilV F.va F).1.2 ∧ (soilV F.va F).2 = 0 ∧ (soilV G.va G).2 = 0 := by
  have hl := (valid_lens hv).2.2.1
  have hl' : G.l2.length = F.l2.length := by rw [h.e2, narL_len]
  have hlG : G.l0.length = F.l0.length := by rw [h.e0, narL_len]
  unfold soilV
  rw [hv, h.va hv, if_pos rfl, if_pos rfl, hl', hl]
  have a := sumL_le F.soil G.soil F.l0.length (fun j hj => by
    have p := fur_pos hv j hj
    have q := fur_pos (h.va hv) j (by omega)
    have d := h.depth hv hk j hj
    have w := h.width hv hk j hj
    unfold Fur.soil
    exact ⟨mul_in p.1 p.2.2.1 d.1 w.1, mul_in (by omega) (by omega) d.2 w.2⟩) F.l0.length (Nat.le_refl _)
  exact ⟨a.1, a.2, rfl, rfl⟩
theorem Nar.bend (h : Nar F G b0 b1 b2 k) (hv : F.va = true) (hk : k < F.l0.length) : (bendV F.va F.pl).1.1 ≤ (bendV G.va G.pl).1.1 ∧ (bendV G.va G.pl).1.2 ≤ (bendV F.va F.pl).1.2 ∧ (bendV F.va F.pl).2 = 0 ∧ (bendV G.va G.pl).2 = 0 := by
  have hs := h.sub hv hk
  have ok := Fur.okS hv
  have ok' := Fur.okS (h.va hv)
  unfold bendV
  rw [hv, h.va hv, if_pos rfl, if_pos rfl]
  have a := sub_least ok ok' hs
  exact ⟨by show ((leastN F.pl : Nat) : Int) ≤ ((leastN G.pl : Nat) : Int); omega, sub_hi ok ok' hs, rfl, rfl⟩
/-- What is told of the stations that must be wrong. -/
theorem Nar.wrong (h : Nar F G b0 b1 b2 k) (hv : F.va = true) (hk : k < F.l0.length) {most : Int} (hw : 0 ≤ most → IsWrong F.pl most (wrongN F.pl most)) (hw' : 0 ≤ most → IsWrong G.pl most (wrongN G.pl most)) :
    ∃ wr zr : Nat, ∃ ew : Int, (wrongV F.va most F.pl).1 = (wr : Int) ∧ (wrongV F.va most F.pl).2 = ew ∧ (wrongV G.va most G.pl).1 = (zr : Int) ∧ (wrongV G.va most G.pl).2 = ew ∧ wr < 256 ∧ zr < 256 ∧ ones 8 wr ≤ ones 8 zr := by
  have hs := h.sub hv hk
  have h8 := Fur.le8 hv
  unfold wrongV
  rw [hv, h.va hv, if_pos rfl, if_pos rfl]
  by_cases hm : 0 ≤ most
  · rw [if_pos hm, if_pos hm]
    have a := hw hm
    have b := hw' hm
    have hp : 2 ^ F.pl.length ≤ 2 ^ 8 := Nat.pow_le_pow_right (by omega) (by rw [F.pl_len]; exact h8)
    have la := a.lt
    have lb := b.lt
    rw [hs.len] at lb
    exact ⟨_, _, 0, rfl, rfl, rfl, rfl, by omega, by omega, sub_wrong (Fur.okS hv) (Fur.okS (h.va hv)) hs a b⟩
  · rw [if_neg hm, if_neg hm]
    exact ⟨0, 0, 2, rfl, rfl, rfl, rfl, by omega, by omega, Nat.le_refl _⟩
end
theorem heavy_6 {l0 l1 l2 : List S28} (h : heavyB l0 l1 l2 6 6 = false) (hv : valid l0 l1 l2 = true) : l0.length ≤ 6 := by
  obtain ⟨h8, n1, n2, _⟩ := valid_lens hv
  unfold heavyB at h
  rw [if_neg (by unfold max3; simp [hv]; omega)] at h
  simp only [Bool.or_eq_false_iff, decide_eq_false_iff_not] at h
  have := h.2
  unfold max3 at this
  omega
end Go.Proofs.Ytafmgmaelnpehaa
end

section
set_option linter.unusedVariables false
set_option linter.unusedSimpArgs false
namespace Go.Proofs.Ytafmgmaelnpehaa
open Go.RowKit Go.TL Go.Shelf Go.Fu
attribute [local go_sem] Oper.semAt_some
open PFurrowAsks Go.Proofs.YtafmgmaelnpehaaW.PrintWords
theorem flat_twom (l : List S28) (j : Nat) (p : S28) (h : l[j]? = some p) : ((flat (l.map toP)).drop (j * 2)).take 2 = [.int .i64 p.f0, .int .i64 p.f1] := by
  induction l generalizing j with
  | nil => simp at h
  | cons a l ih =>
    cases j with
    | zero =>
      simp only [List.getElem?_cons_zero, Option.some.injEq] at h
      subst h
      rfl
    | succ j =>
      have := ih j (by simpa using h)
      rw [show (j + 1) * 2 = j * 2 + 2 by omega]
      exact this
theorem own_R28m {w : World} {base : Nat} {v : Value} {l : List S28} (h : w.ownsRow base 28 2 v l.length (flat (l.map toP))) : Kd.R k28 28 w base (fun _ => True) v l := by
  refine ⟨fun _ _ => trivial, flat (l.map toP), h, ?_, fun j p hp => ?_⟩
  · show _ = l.length * 2
    rw [flat_len, List.length_map]
  · show k28.M _ _ _ p (((flat (l.map toP)).drop (j * 2)).take 2)
    rw [flat_twom l j p hp]
    exact k28_mkM _ _ _ _
theorem more_fur {F : Fur} {w W : World} {nb b9 ga k : Nat} {g c : Nat → Nat} {bt : Int} (hv : F.va = true) (h : LpS F w nb b9 ga g c bt k 3 W) : ∃ G : Fur, G.At W ∧ Box3 W b9 24 G.s0 G.s1 G.s2 ∧ Nar F G (bitB bt 0) (bitB bt 1) (bitB bt 2) k := by
  obtain ⟨h8, n1, n2, _⟩ := valid_lens hv
  have rr : ∀ (i : Nat) (l : List S28) (b : Bool), i < 3 → fn3 F.l0 F.l1 F.l2 i = l → l.length = F.l0.length → bitB bt i = b → F.l0.length ≤ c i ∧ Row W (some ⟨g i, 0, none⟩) (narL b l k) := by
    intro i l b hi hl hn hb
    have o := h.r.own i hi
    have e : rowAt bt (fn3 F.l0 F.l1 F.l2) k 3 i = narL b l k := by unfold rowAt; rw [if_pos hi, hl, hb]
    rw [e] at o
    have o2 : W.ownsRow (b9 + 1) 28 2 (sl3 g c F.l0.length i) (narL b l k).length (flat ((narL b l k).map toP)) := by rw [narL_len, hn]; exact o
    obtain ⟨A, c', hv', hc, hr⟩ := Kd.R_reads (own_R28m o2)
    simp only [sl3, Value.slice.injEq] at hv'
    obtain ⟨rfl, hh, rfl⟩ := hv'
    exact ⟨by rw [hh]; exact hc, hr⟩
  obtain ⟨a0, r0⟩ := rr 0 F.l0 _ (by omega) rfl rfl rfl
  obtain ⟨a1, r1⟩ := rr 1 F.l1 _ (by omega) rfl n1 rfl
  obtain ⟨a2, r2⟩ := rr 2 F.l2 _ (by omega) rfl n2 rfl
  refine ⟨⟨some ⟨g 0, 0, none⟩, c 0, narL (bitB bt 0) F.l0 k, some ⟨g 1, 0, none⟩, c 1, narL (bitB bt 1) F.l1 k, some ⟨g 2, 0, none⟩, c 2, narL (bitB bt 2) F.l2 k⟩, ⟨r0, by rw [narL_len]; exact a0, r1, by rw [narL_len, n1]; exact a1, r2, by rw [narL_len, n2]; exact a2⟩, ?_, ⟨rfl, rfl, rfl⟩⟩
  have e0 : (Fur.s0 ⟨some ⟨g 0, 0, none⟩, c 0, narL (bitB bt 0) F.l0 k, some ⟨g 1, 0, none⟩, c 1, narL (bitB bt 1) F.l1 k, some ⟨g 2, 0, none⟩, c 2, narL (bitB bt 2) F.l2 k⟩) = sl3 g c F.l0.length 0 := by unfold Fur.s0 sl3; rw [narL_len]
  have e1 : (Fur.s1 ⟨some ⟨g 0, 0, none⟩, c 0, narL (bitB bt 0) F.l0 k, some ⟨g 1, 0, none⟩, c 1, narL (bitB bt 1) F.l1 k, some ⟨g 2, 0, none⟩, c 2, narL (bitB bt 2) F.l2 k⟩) = sl3 g c F.l0.length 1 := by unfold Fur.s1 sl3; rw [narL_len, n1]
  have e2 : (Fur.s2 ⟨some ⟨g 0, 0, none⟩, c 0, narL (bitB bt 0) F.l0 k, some ⟨g 1, 0, none⟩, c 1, narL (bitB bt 1) F.l1 k, some ⟨g 2, 0, none⟩, c 2, narL (bitB bt 2) F.l2 k⟩) = sl3 g c F.l0.length 2 := by unfold Fur.s2 sl3; rw [narL_len, n2]
  rw [e0, e1, e2]
  exact h.b
set_option maxRecDepth 100000 in
set_option maxHeartbeats 2000000 in
theorem more_any (F : Fur) (most least bt : Int) (w : World) (h : F.At w) (hbt : 0 ≤ bt ∧ bt ≤ 255) : Calls Try.prog 10 #[F.val, .int .i64 most, .int .i64 least, .int .u8 bt] w fun e w' => e = .returned (.bool true) ∧ Below w.heap.size w w' := by
  refine calls_of_exec Try.func10 rfl ?_
  simp only [Try.ntmps10, List.size_toArray, List.length_cons, List.length_nil, Nat.reduceAdd, Nat.reduceSub, Array.replicate_succ, Array.replicate_zero, List.push_toArray, List.append_toArray, List.nil_append, List.cons_append]
  simp only [Fur.val]
  refine exec_seq (exec_region_o fun ds => ?_)
  gi_wp2
  refine eq_mk ((Keep.refl w).alloc _) ?_
  show Exec _ _ _ _ _ _
  have b1 := Box3.new w 24 F.s0 F.s1 F.s2
  have hB := (Below.refl w.heap.size w).alloc (Nat.le_refl _) (.cells #[F.s0, F.s1, F.s2] 24)
  generalize w.alloc (.cells #[F.s0, F.s1, F.s2] 24) = W0 at *
  have hF := h.below hB
  have c0 := b1.cell0
  have c1 := b1.cell1
  have c2 := b1.cell2
  simp only [Fur.s0, Fur.s1, Fur.s2] at c0 c1 c2
  obtain ⟨hv, hhv⟩ : ∃ b, heavyB F.l0 F.l1 F.l2 6 6 = b := ⟨_, rfl⟩
  have hvy := heavy_any F 6 6 W0 hF
  rw [hhv] at hvy
  refine exec_seq (exec_seq (exec_region_o fun ds => ?_))
  cases hv with
  | true =>
    gi_wp2_with fail
    refine ⟨trivial, rfl, (callsIn_wide.2 hvy).mono ?_⟩
    rintro e X ⟨rfl, hx⟩
    replace hB := hB.trans (hx.mono hB.size)
    have hK := Keep.of_below hx
    clear hx hvy c0 c1 c2 b1 hF h
    gi_wp2_with fail
    refine ⟨trivial, ?_⟩
    gi_wp2
    refine eq_mk hK ?_
    show Exec _ _ _ _ _ _
    refine exec_cond (b := true) rfl (fun _ => ?_) (fun h => by cases h)
    refine exec_seq (exec_region_o fun ds => ?_)
    gi_wp2_with fail
    refine ⟨trivial, rfl, (callsIn_wide.2 (alive_any _)).mono ?_⟩
    rintro e Q ⟨rfl, hq⟩
    gi_wp2
    refine eq_mk (Keep.of_below hq) ?_
    show Exec _ _ _ _ _ _
    exact exec_ret ⟨.inr rfl, fun W' hG => ⟨.bool true, by simp [results, Try.f10, go_sem], rfl, (hB.trans (hq.mono hB.size)).trans (hG.below (Nat.le_refl _) (hB.trans (hq.mono hB.size)).size)⟩⟩
  | false =>
  have HVY := Lib.hid hhv
  clear hhv
  cases hva : F.va with
  | false =>
    gi_wp2_with fail
    refine ⟨trivial, rfl, (callsIn_wide.2 hvy).mono ?_⟩
    rintro e X ⟨rfl, hx⟩
    replace hF := hF.below hx
    replace hB := hB.trans (hx.mono hB.size)
    replace b1 := box3_below hx b1
    have hK := Keep.of_below hx
    clear hx hvy c0 c1 c2 h
    have c0 := b1.cell0
    have c1 := b1.cell1
    have c2 := b1.cell2
    gi_wp2_with fail
    have hrf := refFurrow_c F X hF
    rw [hva] at hrf
    refine ⟨trivial, rfl, (callsIn_wide.2 hrf).mono ?_⟩
    rintro e Y ⟨rfl, hx⟩
    replace hB := hB.trans (hx.mono hB.size)
    replace hK := hK.trans (Keep.of_below hx)
    clear hx hrf c0 c1 c2 b1 hF
    gi_wp2
    refine eq_mk hK ?_
    show Exec _ _ _ _ _ _
    refine exec_cond (b := true) rfl (fun _ => ?_) (fun h => by cases h)
    refine exec_seq (exec_region_o fun ds => ?_)
    gi_wp2_with fail
    refine ⟨trivial, rfl, (callsIn_wide.2 (alive_any _)).mono ?_⟩
    rintro e Q ⟨rfl, hq⟩
    gi_wp2
    refine eq_mk (Keep.of_below hq) ?_
    show Exec _ _ _ _ _ _
    exact exec_ret ⟨.inr rfl, fun W' hG => ⟨.bool true, by simp [results, Try.f10, go_sem], rfl, (hB.trans (hq.mono hB.size)).trans (hG.below (Nat.le_refl _) (hB.trans (hq.mono hB.size)).size)⟩⟩
  | true =>
  have HV := Lib.hid hva
  clear hva
  gi_wp2_with fail
  refine ⟨trivial, rfl, (callsIn_wide.2 hvy).mono ?_⟩
  rintro e X ⟨rfl, hx⟩
  replace hF := hF.below hx
  replace hB := hB.trans (hx.mono hB.size)
  replace b1 := box3_below hx b1
  have hK := Keep.of_below hx
  clear hx hvy c0 c1 c2
  have c0 := b1.cell0
  have c1 := b1.cell1
  have c2 := b1.cell2
  gi_wp2_with fail
  have hrf := refFurrow_c F X hF
  rw [HV.out] at hrf
  refine ⟨trivial, rfl, (callsIn_wide.2 hrf).mono ?_⟩
  rintro e Y ⟨rfl, hx⟩
  replace hF := hF.below hx
  replace hB := hB.trans (hx.mono hB.size)
  replace b1 := box3_below hx b1
  replace hK := hK.trans (Keep.of_below hx)
  clear hx hrf c0 c1 c2
  have c0 := b1.cell0
  have c1 := b1.cell1
  have c2 := b1.cell2
  simp only [Fur.s0, Fur.s1, Fur.s2] at c0 c1 c2
  gi_wp2
  refine eq_mk hK ?_
  show Exec _ _ _ _ _ _
  clear hK c0 c1 c2
  clear W0 X
  by_cases hp : F.l0.length = 0
  · refine exec_cond (b := true) (by first | rfl | (show Value.bool _ = _; simp; omega) | (show Value.bool _ = _; simp; exact List.length_eq_zero_iff.1 hp)) (fun _ => ?_) (fun h => by cases h)
    refine exec_seq (exec_region_o fun ds => ?_)
    gi_wp2_with fail
    refine ⟨trivial, rfl, (callsIn_wide.2 (alive_any _)).mono ?_⟩
    rintro e Q ⟨rfl, hq⟩
    gi_wp2
    refine eq_mk (Keep.of_below hq) ?_
    show Exec _ _ _ _ _ _
    exact exec_ret ⟨.inr rfl, fun W' hG => ⟨.bool true, by simp [results, Try.f10, go_sem], rfl, (hB.trans (hq.mono hB.size)).trans (hG.below (Nat.le_refl _) (hB.trans (hq.mono hB.size)).size)⟩⟩
  refine exec_cond (b := false) (by first | rfl | (show Value.bool _ = _; simp; omega) | (show Value.bool _ = _; simp; intro c; rw [c] at hp; exact hp rfl)) (fun h => by cases h) (fun _ => exec_skip ?_)
  show Exec _ _ _ _ _ _
  have c0 := b1.cell0
  have c1 := b1.cell1
  have c2 := b1.cell2
  simp only [Fur.s0, Fur.s1, Fur.s2] at c0 c1 c2
  have b7 := Box3.new Y 24 (.slice none 0 0) (.slice none 0 0) (.slice none 0 0)
  have k0 := b7.cell0
  have k1 := b7.cell1
  have k2 := b7.cell2
  have f0 := box3_frozen b7 0
  have f1 := box3_frozen b7 1
  have f2 := box3_frozen b7 2
  refine exec_seq (exec_region_o fun ds => ?_)
  gi_wp2
  refine eq_mk ((Keep.refl _).alloc _) ?_
  show Exec _ _ _ _ _ _
  clear b7 k0 k1 k2 f0 f1 f2 c0 c1 c2
  have hw9 := hB.size
  have hne : w.heap.size ≠ Y.heap.size := fun e => by have := b1.lt; omega
  have hS0 : LmS F w w.heap.size Y := ⟨hB, b1⟩
  have hS := hS0.alloc (.cells #[F.s0, F.s1, F.s2] 24)
  have h9 := Box3.new Y 24 F.s0 F.s1 F.s2
  clear hS0 hB b1 hF
  simp only [Fur.s0, Fur.s1, Fur.s2] at hS h9 ⊢
  generalize Y.alloc (.cells #[.slice F.A0 F.l0.length F.c0, .slice F.A1 F.l1.length F.c1, .slice F.A2 F.l2.length F.c2] 24) = V at *
  generalize Y.heap.size = b9 at *
  clear Y
  refine exec_seq ((lm_copy (most := most) (least := least) (bt := bt) h HV.out (by omega) hS h9 hne hw9 _ (by simp only [Slots, Fits, and_self])).mono ?_)
  intro e t' X hh
  obtain ⟨rfl, hP⟩ := only_normal hh
  clear hh hS h9
  clear V
  obtain ⟨g, c, hS, h9, hR, hSl⟩ := hP
  obtain ⟨x, hx⟩ := Slots.open_ hSl; simp only [fill, Nat.reduceAdd] at hx; subst hx; clear hSl
  show Exec _ _ _ _ _ _
  have h8 := Fur.le8 HV.out
  obtain ⟨k, hk⟩ : ∃ k, bt.toNat % F.l0.length = k := ⟨_, rfl⟩
  have hkl : k < F.l0.length := by rw [← hk]; exact Nat.mod_lt _ (by omega)
  have e1 : IntKind.i64.wrap bt = bt := IntWalk.i64_in _ (by omega)
  have e2 : Int.tmod bt (F.l0.length : Int) = (k : Int) := by rw [Int.tmod_eq_emod_of_nonneg hbt.1, ← hk]; push_cast; rw [Int.toNat_of_nonneg hbt.1]
  have hne0 : F.l0 ≠ [] := fun e => hp (by rw [e]; rfl)
  have c0 := hS.2.cell0
  simp only [Fur.s0] at c0
  refine exec_seq (exec_region_o fun ds => ?_)
  gi_wp2
  refine eq_mk (Keep.refl _) ?_
  show Exec _ _ _ _ _ _
  clear e1 e2 hk c0 hne0
  have d0 := h9.cell0
  have d1 := h9.cell1
  have d2 := h9.cell2
  simp only [sl3] at d0 d1 d2
  refine exec_seq (exec_seq (exec_region_o fun ds => ?_))
  gi_wp2
  refine eq_mk ((Keep.refl _).alloc _) ?_
  show Exec _ _ _ _ _ _
  clear d0 d1 d2
  have hsX := h9.lt
  have hR0 : Rows3 X (b9 + 1) F.l0.length g c (rowAt bt (fn3 F.l0 F.l1 F.l2) k 0) := ⟨fun i hi => by have := hR.own i hi; unfold rowAt; rw [if_neg (Nat.not_lt_zero _)]; exact this, hR.ne⟩
  have hga : ∀ q, q < 3 → g q ≠ X.heap.size := fun q hq => by have := (hR.lt hq).2; omega
  have hA : Below X.heap.size X (X.alloc (.cells #[sl3 g c F.l0.length 0, sl3 g c F.l0.length 1, sl3 g c F.l0.length 2] 22)) := (Below.refl _ X).alloc (Nat.le_refl _) _
  have hL : LpS F w w.heap.size b9 X.heap.size g c bt k 0 (X.alloc (.cells #[sl3 g c F.l0.length 0, sl3 g c F.l0.length 1, sl3 g c F.l0.length 2] 22)) := ⟨hS.alloc _, box3_below hA h9, Box3.new X 22 _ _ _, hR0.below hA⟩
  clear hS h9 hR hR0 hA
  simp only [sl3] at hL
  generalize X.alloc (.cells #[.slice (some ⟨g 0, 0, none⟩) F.l0.length (c 0), .slice (some ⟨g 1, 0, none⟩) F.l0.length (c 1), .slice (some ⟨g 2, 0, none⟩) F.l0.length (c 2)] 22) = V at *
  generalize X.heap.size = ga at *
  clear X
  refine (lp_loop (most := most) (least := least) HV.out hbt (by omega) hw9 hga hkl hL _ (by simp only [Slots, Fits, and_self])).mono ?_
  intro e t' X hh
  obtain ⟨rfl, hL3, hSl⟩ := only_normal hh
  clear hh hL hga hsX x
  clear V
  obtain ⟨x, hx⟩ := Slots.open_ hSl; simp only [fill, Nat.reduceAdd] at hx; subst hx; clear hSl
  obtain ⟨G, hG, b9', hN⟩ := more_fur HV.out hL3
  have hB := hL3.s.1
  have b1 := hL3.s.2
  have hF := h.below hB
  clear hL3 h
  clear hbt hp hne hw9
  show Exec _ _ _ _ _ _
  refine exec_seq (exec_region_o fun ds => ?_)
  gi_wp2
  refine eq_mk (Keep.refl _) ?_
  show Exec _ _ _ _ _ _
  have h7 := heavy_6 HVY.out HV.out
  have HVG := Lib.hid (hN.va HV.out)
  have HN := Lib.hid hN
  have hkl' := Lib.hid hkl
  clear hN hkl HVY h8
  have c0 := b1.cell0
  have c1 := b1.cell1
  have c2 := b1.cell2
  refine exec_seq (exec_region_o fun ds => ?_)
  gi_wp2_with fail
  refine ⟨trivial, rfl, (callsIn_wide.2 (Bend_c F X hF)).mono ?_⟩
  rintro e Y1 ⟨rfl, hy⟩
  replace hF := hF.below hy
  replace hG := hG.below hy
  replace hB := hB.trans (hy.mono hB.size)
  replace b1 := box3_below hy b1
  replace b9' := box3_below hy b9'
  have hK := Keep.of_below hy
  clear hy c0 c1 c2
  obtain ⟨pa, hpa⟩ : ∃ x, (bendV F.va F.pl).1.1 = x := ⟨_, rfl⟩
  rw [hpa]
  have Hpa := Lib.hid hpa
  clear hpa
  obtain ⟨pb, hpb⟩ : ∃ x, (bendV F.va F.pl).1.2 = x := ⟨_, rfl⟩
  rw [hpb]
  have Hpb := Lib.hid hpb
  clear hpb
  obtain ⟨pc, hpc⟩ : ∃ x, (bendV F.va F.pl).2 = x := ⟨_, rfl⟩
  rw [hpc]
  have Hpc := Lib.hid hpc
  clear hpc
  gi_wp2
  refine eq_mk (hK.alloc _) ?_
  show Exec _ _ _ _ _ _
  have ha := (Below.refl Y1.heap.size Y1).alloc (Nat.le_refl _) (.cells #[.int .i64 pa, .int .i64 pb] 28)
  replace hF := hF.below ha
  replace hG := hG.below ha
  replace hB := hB.trans (ha.mono hB.size)
  replace b1 := box3_below ha b1
  replace b9' := box3_below ha b9'
  have q15 := Box2.new Y1 28 pa pb
  generalize Y1.alloc (.cells #[.int .i64 pa, .int .i64 pb] 28) = Z1 at *
  clear ha hK
  generalize Y1.heap.size = a15 at *
  clear Y1 X
  have c0 := b9'.cell0
  have c1 := b9'.cell1
  have c2 := b9'.cell2
  refine exec_seq (exec_region_o fun ds => ?_)
  gi_wp2_with fail
  refine ⟨trivial, rfl, (callsIn_wide.2 (Bend_c G Z1 hG)).mono ?_⟩
  rintro e Y2 ⟨rfl, hy⟩
  replace hF := hF.below hy
  replace hG := hG.below hy
  replace hB := hB.trans (hy.mono hB.size)
  replace b1 := box3_below hy b1
  replace b9' := box3_below hy b9'
  replace q15 := box2_below hy q15
  have hK := Keep.of_below hy
  clear hy c0 c1 c2
  obtain ⟨qa, hqa⟩ : ∃ x, (bendV G.va G.pl).1.1 = x := ⟨_, rfl⟩
  rw [hqa]
  have Hqa := Lib.hid hqa
  clear hqa
  obtain ⟨qb, hqb⟩ : ∃ x, (bendV G.va G.pl).1.2 = x := ⟨_, rfl⟩
  rw [hqb]
  have Hqb := Lib.hid hqb
  clear hqb
  obtain ⟨qc, hqc⟩ : ∃ x, (bendV G.va G.pl).2 = x := ⟨_, rfl⟩
  rw [hqc]
  have Hqc := Lib.hid hqc
  clear hqc
  gi_wp2
  refine eq_mk (hK.alloc _) ?_
  show Exec _ _ _ _ _ _
  have ha := (Below.refl Y2.heap.size Y2).alloc (Nat.le_refl _) (.cells #[.int .i64 qa, .int .i64 qb] 28)
  replace hF := hF.below ha
  replace hG := hG.below ha
  replace hB := hB.trans (ha.mono hB.size)
  replace b1 := box3_below ha b1
  replace b9' := box3_below ha b9'
  replace q15 := box2_below ha q15
  have q17 := Box2.new Y2 28 qa qb
  generalize Y2.alloc (.cells #[.int .i64 qa, .int .i64 qb] 28) = Z2 at *
  clear ha hK
  generalize Y2.heap.size = a17 at *
  clear Y2 Z1
  have c0 := b1.cell0
  have c1 := b1.cell1
  have c2 := b1.cell2
  refine exec_seq (exec_region_o fun ds => ?_)
  gi_wp2_with fail
  refine ⟨trivial, rfl, (callsIn_wide.2 (Worst_c F Z2 hF)).mono ?_⟩
  rintro e Y3 ⟨rfl, hy⟩
  replace hF := hF.below hy
  replace hG := hG.below hy
  replace hB := hB.trans (hy.mono hB.size)
  replace b1 := box3_below hy b1
  replace b9' := box3_below hy b9'
  replace q15 := box2_below hy q15
  replace q17 := box2_below hy q17
  have hK := Keep.of_below hy
  clear hy c0 c1 c2
  obtain ⟨ra, hra⟩ : ∃ x, (worstV F.va F.pl).1 = x := ⟨_, rfl⟩
  rw [hra]
  have Hra := Lib.hid hra
  clear hra
  obtain ⟨rb, hrb⟩ : ∃ x, (worstV F.va F.pl).2.1 = x := ⟨_, rfl⟩
  rw [hrb]
  have Hrb := Lib.hid hrb
  clear hrb
  obtain ⟨rc, hrc⟩ : ∃ x, (worstV F.va F.pl).2.2 = x := ⟨_, rfl⟩
  rw [hrc]
  have Hrc := Lib.hid hrc
  clear hrc
  gi_wp2
  refine eq_mk hK ?_
  show Exec _ _ _ _ _ _
  clear hK
  clear Z2
  have c0 := b9'.cell0
  have c1 := b9'.cell1
  have c2 := b9'.cell2
  refine exec_seq (exec_region_o fun ds => ?_)
  gi_wp2_with fail
  refine ⟨trivial, rfl, (callsIn_wide.2 (Worst_c G Y3 hG)).mono ?_⟩
  rintro e Y4 ⟨rfl, hy⟩
  replace hF := hF.below hy
  replace hG := hG.below hy
  replace hB := hB.trans (hy.mono hB.size)
  replace b1 := box3_below hy b1
  replace b9' := box3_below hy b9'
  replace q15 := box2_below hy q15
  replace q17 := box2_below hy q17
  have hK := Keep.of_below hy
  clear hy c0 c1 c2
  obtain ⟨sa, hsa⟩ : ∃ x, (worstV G.va G.pl).1 = x := ⟨_, rfl⟩
  rw [hsa]
  have Hsa := Lib.hid hsa
  clear hsa
  obtain ⟨sb, hsb⟩ : ∃ x, (worstV G.va G.pl).2.1 = x := ⟨_, rfl⟩
  rw [hsb]
  have Hsb := Lib.hid hsb
  clear hsb
  obtain ⟨sc, hsc⟩ : ∃ x, (worstV G.va G.pl).2.2 = x := ⟨_, rfl⟩
  rw [hsc]
  have Hsc := Lib.hid hsc
  clear hsc
  gi_wp2
  refine eq_mk hK ?_
  show Exec _ _ _ _ _ _
  clear hK
  clear Y3
  have c0 := b1.cell0
  have c1 := b1.cell1
  have c2 := b1.cell2
  refine exec_seq (exec_region_o fun ds => ?_)
  gi_wp2_with fail
  refine ⟨trivial, rfl, (callsIn_wide.2 (Shallow_c F least Y4 hF)).mono ?_⟩
  rintro e Y5 ⟨rfl, hy⟩
  replace hF := hF.below hy
  replace hG := hG.below hy
  replace hB := hB.trans (hy.mono hB.size)
  replace b1 := box3_below hy b1
  replace b9' := box3_below hy b9'
  replace q15 := box2_below hy q15
  replace q17 := box2_below hy q17
  have hK := Keep.of_below hy
  clear hy c0 c1 c2
  obtain ⟨ua, hua⟩ : ∃ x, (shV F.va least F).1 = x := ⟨_, rfl⟩
  rw [hua]
  have Hua := Lib.hid hua
  clear hua
  obtain ⟨ub, hub⟩ : ∃ x, (shV F.va least F).2.1 = x := ⟨_, rfl⟩
  rw [hub]
  have Hub := Lib.hid hub
  clear hub
  obtain ⟨uc, huc⟩ : ∃ x, (shV F.va least F).2.2 = x := ⟨_, rfl⟩
  rw [huc]
  have Huc := Lib.hid huc
  clear huc
  gi_wp2
  refine eq_mk hK ?_
  show Exec _ _ _ _ _ _
  clear hK
  clear Y4
  have c0 := b9'.cell0
  have c1 := b9'.cell1
  have c2 := b9'.cell2
  refine exec_seq (exec_region_o fun ds => ?_)
  gi_wp2_with fail
  refine ⟨trivial, rfl, (callsIn_wide.2 (Shallow_c G least Y5 hG)).mono ?_⟩
  rintro e Y6 ⟨rfl, hy⟩
  replace hF := hF.below hy
  replace hG := hG.below hy
  replace hB := hB.trans (hy.mono hB.size)
  replace b1 := box3_below hy b1
  replace b9' := box3_below hy b9'
  replace q15 := box2_below hy q15
  replace q17 := box2_below hy q17
  have hK := Keep.of_below hy
  clear hy c0 c1 c2
  obtain ⟨va, hva⟩ : ∃ x, (shV G.va least G).1 = x := ⟨_, rfl⟩
  rw [hva]
  have Hva := Lib.hid hva
  clear hva
  obtain ⟨vb, hvb⟩ : ∃ x, (shV G.va least G).2.1 = x := ⟨_, rfl⟩
  rw [hvb]
  have Hvb := Lib.hid hvb
  clear hvb
  obtain ⟨vc, hvc⟩ : ∃ x, (shV G.va least G).2.2 = x := ⟨_, rfl⟩
  rw [hvc]
  have Hvc := Lib.hid hvc
  clear hvc
  gi_wp2
  refine eq_mk hK ?_
  show Exec _ _ _ _ _ _
  clear hK
  clear Y5
  have c0 := b1.cell0
  have c1 := b1.cell1
  have c2 := b1.cell2
  refine exec_seq (exec_region_o fun ds => ?_)
  gi_wp2_with fail
  refine ⟨trivial, rfl, (callsIn_wide.2 (Soil_c F Y6 hF)).mono ?_⟩
  rintro e Y7 ⟨rfl, hy⟩
  replace hF := hF.below hy
  replace hG := hG.below hy
  replace hB := hB.trans (hy.mono hB.size)
  replace b1 := box3_below hy b1
  replace b9' := box3_below hy b9'
  replace q15 := box2_below hy q15
  replace q17 := box2_below hy q17
  have hK := Keep.of_below hy
  clear hy c0 c1 c2
  obtain ⟨ya, hya⟩ : ∃ x, (soilV F.va F).1.1 = x := ⟨_, rfl⟩
  rw [hya]
  have Hya := Lib.hid hya
  clear hya
  obtain ⟨yb, hyb⟩ : ∃ x, (soilV F.va F).1.2 = x := ⟨_, rfl⟩
  rw [hyb]
  have Hyb := Lib.hid hyb
  clear hyb
  obtain ⟨yc, hyc⟩ : ∃ x, (soilV F.va F).2 = x := ⟨_, rfl⟩
  rw [hyc]
  have Hyc := Lib.hid hyc
  clear hyc
  gi_wp2
  refine eq_mk (hK.alloc _) ?_
  show Exec _ _ _ _ _ _
  have ha := (Below.refl Y7.heap.size Y7).alloc (Nat.le_refl _) (.cells #[.int .i64 ya, .int .i64 yb] 28)
  replace hF := hF.below ha
  replace hG := hG.below ha
  replace hB := hB.trans (ha.mono hB.size)
  replace b1 := box3_below ha b1
  replace b9' := box3_below ha b9'
  replace q15 := box2_below ha q15
  replace q17 := box2_below ha q17
  have q31 := Box2.new Y7 28 ya yb
  generalize Y7.alloc (.cells #[.int .i64 ya, .int .i64 yb] 28) = Z7 at *
  clear ha hK
  generalize Y7.heap.size = a31 at *
  clear Y7 Y6
  have c0 := b9'.cell0
  have c1 := b9'.cell1
  have c2 := b9'.cell2
  refine exec_seq (exec_region_o fun ds => ?_)
  gi_wp2_with fail
  refine ⟨trivial, rfl, (callsIn_wide.2 (Soil_c G Z7 hG)).mono ?_⟩
  rintro e Y8 ⟨rfl, hy⟩
  replace hF := hF.below hy
  replace hG := hG.below hy
  replace hB := hB.trans (hy.mono hB.size)
  replace b1 := box3_below hy b1
  replace b9' := box3_below hy b9'
  replace q15 := box2_below hy q15
  replace q17 := box2_below hy q17
  replace q31 := box2_below hy q31
  have hK := Keep.of_below hy
  clear hy c0 c1 c2
  obtain ⟨za, hza⟩ : ∃ x, (soilV G.va G).1.1 = x := ⟨_, rfl⟩
  rw [hza]
  have Hza := Lib.hid hza
  clear hza
  obtain ⟨zb, hzb⟩ : ∃ x, (soilV G.va G).1.2 = x := ⟨_, rfl⟩
  rw [hzb]
  have Hzb := Lib.hid hzb
  clear hzb
  obtain ⟨zc, hzc⟩ : ∃ x, (soilV G.va G).2 = x := ⟨_, rfl⟩
  rw [hzc]
  have Hzc := Lib.hid hzc
  clear hzc
  gi_wp2
  refine eq_mk (hK.alloc _) ?_
  show Exec _ _ _ _ _ _
  have ha := (Below.refl Y8.heap.size Y8).alloc (Nat.le_refl _) (.cells #[.int .i64 za, .int .i64 zb] 28)
  replace hF := hF.below ha
  replace hG := hG.below ha
  replace hB := hB.trans (ha.mono hB.size)
  replace b1 := box3_below ha b1
  replace b9' := box3_below ha b9'
  replace q15 := box2_below ha q15
  replace q17 := box2_below ha q17
  replace q31 := box2_below ha q31
  have q33 := Box2.new Y8 28 za zb
  generalize Y8.alloc (.cells #[.int .i64 za, .int .i64 zb] 28) = Z8 at *
  clear ha hK
  generalize Y8.heap.size = a33 at *
  clear Y8 Z7
  have c0 := b1.cell0
  have c1 := b1.cell1
  have c2 := b1.cell2
  refine exec_seq (exec_region_o fun ds => ?_)
  gi_wp2_with fail
  refine ⟨trivial, rfl, (callsIn_wide.2 (Wrong_c F most Z8 hF)).mono ?_⟩
  rintro e Y9 ⟨⟨rfl, hwm⟩, hy⟩
  replace hF := hF.below hy
  replace hG := hG.below hy
  replace hB := hB.trans (hy.mono hB.size)
  replace b1 := box3_below hy b1
  replace b9' := box3_below hy b9'
  replace q15 := box2_below hy q15
  replace q17 := box2_below hy q17
  replace q31 := box2_below hy q31
  replace q33 := box2_below hy q33
  have hK := Keep.of_below hy
  clear hy c0 c1 c2
  have Hwm := Lib.hid hwm
  clear hwm
  obtain ⟨ma, hma⟩ : ∃ x, (wrongV F.va most F.pl).1 = x := ⟨_, rfl⟩
  rw [hma]
  have Hma := Lib.hid hma
  clear hma
  obtain ⟨mb, hmb⟩ : ∃ x, (wrongV F.va most F.pl).2 = x := ⟨_, rfl⟩
  rw [hmb]
  have Hmb := Lib.hid hmb
  clear hmb
  gi_wp2
  refine eq_mk hK ?_
  show Exec _ _ _ _ _ _
  clear hK
  clear Z8
  have c0 := b9'.cell0
  have c1 := b9'.cell1
  have c2 := b9'.cell2
  refine exec_seq (exec_region_o fun ds => ?_)
  gi_wp2_with fail
  refine ⟨trivial, rfl, (callsIn_wide.2 (Wrong_c G most Y9 hG)).mono ?_⟩
  rintro e Y10 ⟨⟨rfl, hwn⟩, hy⟩
  replace hF := hF.below hy
  replace hG := hG.below hy
  replace hB := hB.trans (hy.mono hB.size)
  replace b1 := box3_below hy b1
  replace b9' := box3_below hy b9'
  replace q15 := box2_below hy q15
  replace q17 := box2_below hy q17
  replace q31 := box2_below hy q31
  replace q33 := box2_below hy q33
  have hK := Keep.of_below hy
  clear hy c0 c1 c2
  have Hwn := Lib.hid hwn
  clear hwn
  obtain ⟨na, hna⟩ : ∃ x, (wrongV G.va most G.pl).1 = x := ⟨_, rfl⟩
  rw [hna]
  have Hna := Lib.hid hna
  clear hna
  obtain ⟨nb, hnb⟩ : ∃ x, (wrongV G.va most G.pl).2 = x := ⟨_, rfl⟩
  rw [hnb]
  have Hnb := Lib.hid hnb
  clear hnb
  gi_wp2
  refine eq_mk hK ?_
  show Exec _ _ _ _ _ _
  clear hK
  clear Y9
  have hbe := HN.out.bend HV.out hkl'.out
  rw [Hpa.out, Hpb.out, Hpc.out, Hqa.out, Hqb.out, Hqc.out] at hbe
  have hwo := HN.out.worst HV.out hkl'.out
  rw [Hra.out, Hrb.out, Hsa.out, Hsb.out] at hwo
  have hwe : rc = 0 ∧ sc = 0 := by rw [← Hrc.out, ← Hsc.out]; unfold worstV; rw [HV.out, HVG.out, if_pos rfl, if_pos rfl]; exact ⟨rfl, rfl⟩
  have hsh := HN.out.shallow HV.out hkl'.out (by omega) least
  rw [Hua.out, Hub.out, Huc.out, Hva.out, Hvb.out, Hvc.out] at hsh
  have hso := HN.out.soil HV.out hkl'.out
  rw [Hya.out, Hyb.out, Hyc.out, Hza.out, Hzb.out, Hzc.out] at hso
  obtain ⟨wr, zr, ew, w1, w2, w3, w4, hwr, hzr, hle⟩ := HN.out.wrong HV.out hkl'.out (Hwm.out HV.out) (Hwn.out HVG.out)
  rw [Hma.out] at w1
  rw [Hmb.out] at w2
  rw [Hna.out] at w3
  rw [Hnb.out] at w4
  obtain ⟨be1, be2, rfl, rfl⟩ := hbe
  obtain ⟨rfl, rfl⟩ := hwe
  obtain ⟨sh1, sh2, rfl⟩ := hsh
  obtain ⟨so1, so2, rfl, rfl⟩ := hso
  subst w1 w2 w3
  have w5 := w4.symm
  subst w5
  refine exec_seq (exec_seq ((lt_25 (wr := wr) (zr := zr) (es := uc) (ew := mb) q15 q17 q31 q33 be1 be2 so1 so2 hwo.1 hwo.2 sh1 sh2 _ (by simp only [Slots, Fits, and_self])).mono ?_))
  intro e t' V hh
  obtain ⟨rfl, hy, hSl⟩ := only_normal hh
  replace hB := hB.trans (hy.mono hB.size)
  clear hh hy x be1 be2 hwo sh1 sh2 so1 so2 q15 q17 q31 q33 b1 b9' hF hG
  obtain ⟨x, hx⟩ := Slots.open_ hSl; simp only [fill, Nat.reduceAdd] at hx; subst hx; clear hSl
  show Exec _ _ _ _ _ _
  refine exec_cond (b := false) rfl (fun h => by cases h) (fun _ => exec_skip ?_)
  show Exec _ _ _ _ _ _
  have hle2 : ((ones 8 wr : Nat) : Int) ≤ ((ones 8 zr : Nat) : Int) := by omega
  have h01 : ¬ (wr : Int) < 0 := by omega
  have h02 : ¬ (zr : Int) < 0 := by omega
  refine exec_seq (exec_region_o fun ds => ?_)
  gi_wp2_with fail
  refine ⟨trivial, rfl, (callsIn_wide.2 (size_c zr hzr V)).mono ?_⟩
  rintro e X1 ⟨rfl, hx⟩
  replace hB := hB.trans (hx.mono hB.size)
  have hK := Keep.of_below hx
  clear hx
  gi_wp2_with fail
  refine ⟨trivial, rfl, (callsIn_wide.2 (size_c wr hwr X1)).mono ?_⟩
  rintro e X2 ⟨rfl, hx⟩
  replace hB := hB.trans (hx.mono hB.size)
  replace hK := hK.trans (Keep.of_below hx)
  clear hx
  gi_wp2_with fail
  refine ⟨trivial, rfl, (callsIn_wide.2 (alive_any _)).mono ?_⟩
  rintro e Q ⟨rfl, hq⟩
  gi_wp2
  refine eq_mk (hK.trans (Keep.of_below hq)) ?_
  show Exec _ _ _ _ _ _
  exact exec_ret ⟨.inr rfl, fun W' hG => ⟨.bool true, by simp [results, Try.f10, go_sem], rfl, (hB.trans (hq.mono hB.size)).trans (hG.below (Nat.le_refl _) (hB.trans (hq.mono hB.size)).size)⟩⟩
end Go.Proofs.Ytafmgmaelnpehaa
end

section
set_option linter.unusedVariables false
namespace Go.Proofs.Ytafmgmaelnpehaa
open Go.ChangeShapes Go.WideShapes Go.RowKit Go.Joins Go.Deep PFurrowAsks Go.Proofs.YtafmgmaelnpehaaW.PrintWords
section
variable {H : Type} {enc : TypeId × Value → H} {w : World}
theorem row_open {n : Nat} {v : Value} {y : DataW H × List MemPlace} (h : DataW.trod enc Try.prog w 0 (fun _ => true) true n 22 [v] = some y) : ∃ A c l, v = .slice A (l : List S28).length c ∧ l.length ≤ c ∧ Row w A l := by
  rcases open_slice_pairs Try.underlying22 Try.underlying28 (by kernel_rfl) rfl rfl (by kernel_rfl) (by kernel_rfl) h with ⟨hcs, _⟩ | ⟨a, len, cap, m, n', V0, V1, D0, D1, P0, P1, hcs, _, hl, hm, hmm, _, hi⟩
  · simp only [List.cons.injEq, and_true] at hcs
    exact ⟨none, 0, [], hcs, Nat.le_refl _, rfl, by simp, fun hp => by simp at hp⟩
  · simp only [List.cons.injEq, and_true] at hcs
    have hlm : len ≤ m := by rw [hmm]; split <;> omega
    have each : ∀ i, i < len → ∃ x : S28, w.cell? (a.add (i * 2)) = some (.int .i64 x.f0) ∧ w.cell? (a.add (i * 2 + 1)) = some (.int .i64 x.f1) := by
      intro i hi'
      obtain ⟨c0, c1, t0, t1⟩ := hi i (by omega)
      obtain ⟨x, e0, _, _⟩ := DataW.trod_int Try.underlying3 t0
      obtain ⟨z, e1, _, _⟩ := DataW.trod_int Try.underlying3 t1
      simp only [List.cons.injEq, and_true] at e0 e1
      exact ⟨⟨x, z⟩, by rw [c0, e0], by rw [c1, e1]⟩
    have hex : ∃ l : List S28, l.length = len ∧ ∀ i p, l[i]? = some p → w.cell? (a.add (i * 2)) = some (.int .i64 p.f0) ∧ w.cell? (a.add (i * 2 + 1)) = some (.int .i64 p.f1) := by
      have go : ∀ k, k ≤ len → ∃ l : List S28, l.length = k ∧ ∀ i p, l[i]? = some p → w.cell? (a.add (i * 2)) = some (.int .i64 p.f0) ∧ w.cell? (a.add (i * 2 + 1)) = some (.int .i64 p.f1) := by
        intro k
        induction k with
        | zero => exact fun _ => ⟨[], rfl, fun i p hp => by simp at hp⟩
        | succ k ih =>
          intro hk
          obtain ⟨l, hl1, hl2⟩ := ih (by omega)
          obtain ⟨x, h1, h2⟩ := each k (by omega)
          refine ⟨l ++ [x], by simp [hl1], fun i p hp => ?_⟩
          rcases Nat.lt_or_ge i l.length with hlt | hge
          · rw [List.getElem?_append_left hlt] at hp
            exact hl2 i p hp
          · rw [List.getElem?_append_right hge] at hp
            have hi0 : i - l.length = 0 := by
              rcases Nat.eq_zero_or_pos (i - l.length) with h0 | h0
              · exact h0
              · obtain ⟨q, hq⟩ : ∃ q, i - l.length = q + 1 := ⟨i - l.length - 1, by omega⟩
                rw [hq] at hp
                simp at hp
            rw [hi0] at hp
            simp only [List.getElem?_cons_zero, Option.some.injEq] at hp
            subst hp
            obtain rfl : i = k := by omega
            exact ⟨h1, h2⟩
      exact go len (Nat.le_refl _)
    obtain ⟨l, hl1, hl2⟩ := hex
    refine ⟨some a, cap, l, by rw [hcs, hl1], by omega, rfl, by unfold maxLen at hm; omega, fun hp => ⟨a, rfl, fun j p hp => ?_⟩⟩
    obtain ⟨h1, h2⟩ := hl2 j p hp
    refine ⟨[.int .i64 p.f0, .int .i64 p.f1], rfl, k28_mk w p, fun i u hu => ?_⟩
    match i, hu with
    | 0, hu => simp at hu; subst hu; exact h1
    | 1, hu => simp at hu; subst hu; exact h2
    | i + 2, hu => simp at hu
set_option maxRecDepth 100000 in
theorem fur_open {r : Reach} {b0 : Nat} {v : Value} {d : DataW H} {p : List MemPlace} (hv : Value.okWide Try.prog w r b0 24 v) (h : DataW.Trod enc Try.prog w 0 (fun _ => true) true 24 v d p) : ∃ F : Fur, v = F.val ∧ F.At w := by
  obtain ⟨v0, v1, v2, y0, y1, y2, n, rfl, _, _, h0, h1, h2⟩ := open_agg3 Try.underlying24 (by kernel_rfl) (by kernel_rfl) hv h
  obtain ⟨A0, c0, l0, rfl, g0, r0⟩ := row_open h0
  obtain ⟨A1, c1, l1, rfl, g1, r1⟩ := row_open h1
  obtain ⟨A2, c2, l2, rfl, g2, r2⟩ := row_open h2
  exact ⟨⟨A0, c0, l0, A1, c1, l1, A2, c2, l2⟩, rfl, ⟨r0, g0, r1, g1, r2, g2⟩⟩
end
end Go.Proofs.Ytafmgmaelnpehaa
end

section
namespace Go.Proofs.Ytafmgmaelnpehaa
open Go.RowKit Go.TL Go.Fu PFurrowAsks Go.Proofs.YtafmgmaelnpehaaW.PrintWords in
theorem more_row (F : Fur) (most least bt : Int) (w : World) (h : F.At w) (hb : (Lit.int .u8 bt).wf = true) :
    Calls Try.prog 10 #[F.val, .int .i64 most, .int .i64 least, .int .u8 bt] w fun e w' => e = .returned (.bool true) ∧ Below w.heap.size w w' := more_any F most least bt w h (bounds_u8 hb)
end Go.Proofs.Ytafmgmaelnpehaa
namespace Go.Proofs.Ytafmgmaelnpehaa.furrowMore
open Go.ChangeShapes Go.WideShapes Go.ChangeAt Go.RowKit
open Go.ChangeMaps (open_string shut_string)
set_option linter.unusedVariables false
theorem own : ownKnob Try.prog.godebug = none := by kernel_rfl
theorem laidOut : laidOutB Try.prog = true := by kernel_rfl
set_option maxRecDepth 100000 in
theorem lifted (os : Os) (started : os.Started) (H : Type) (enc : TypeId × Value → H) :
    ReturnsInHanded {} Try.checked os 10 .any (Rows.furrowMoreSpec.pre6 enc Try.prog Try.f10 Rows.furrowMoreRow.domain false) (Rows.furrowMoreSpec.post enc Try.prog Try.f10 false true false false) := by
  refine returnsInHanded_of_change_sized (C := Try.checked) own started (by kernel_rfl) Try.func10
    (ChangeSpec.witness6 (enc := enc) (C := Try.checked) false ⟨#[], #[.agg #[.slice none 0 0, .slice none 0 0, .slice none 0 0], .int .i64 0, .int .i64 0, .int .u8 0], []⟩ 8 (by kernel_rfl) (by kernel_rfl) (by kernel_rfl) (by kernel_rfl)) ?_
  intro W base args ds gs before hval0 hW hcnd hsz0 _
  have hsz : (DataW.weightsEach Try.prog (Try.f10.params.toList ++ Rows.furrowMoreSpec.plain.varTypes Try.prog) (ds ++ gs)).all (· ≤ reachBytes) = true := hsz0
  have hval : ∀ (j : Nat) t v, Try.f10.params[j]? = some t → args[j]? = some v → Value.okWide Try.prog W .any base t v := hval0
  have hW' := hW
  obtain ⟨p, q, hA0, hV, rfl, hfz, hnd⟩ := hW
  have hA : DataW.TrodAll enc Try.prog W 0 (fun _ => true) true Try.f10.params.toList args.toList ds p := hA0
  rw [Try.params10] at hA hval hsz
  obtain ⟨v0, vs0, d0, ds0, p0, q0, hargs, rfl, rfl, h0, r0⟩ := trodAll_cons hA
  obtain ⟨v1, vs1, d1, ds1, p1, q1, rfl, rfl, rfl, h1, r1⟩ := trodAll_cons r0
  obtain ⟨v2, vs2, d2, ds2, p2, q2, rfl, rfl, rfl, h2, r2⟩ := trodAll_cons r1
  obtain ⟨v3, vs3, d3, ds3, p3, q3, rfl, rfl, rfl, h3, r3⟩ := trodAll_cons r2
  obtain ⟨rfl, rfl, rfl⟩ := trodAll_nil r3
  obtain rfl : args = #[v0, v1, v2, v3] := by cases args; simp_all
  obtain ⟨rfl, rfl⟩ := trodVars_none hV
  have k0 := h0
  have lt0 : ∀ x ∈ p0, x.block < W.heap.size := by obtain ⟨m, hm⟩ := k0; exact DataW.trod_lt m _ _ _ hm
  obtain ⟨F0, rfl, hF0⟩ := fur_open (hval 0 24 v0 rfl rfl) h0
  obtain ⟨a1, rfl, rfl, rfl, w1⟩ := open_int Try.underlying3 (hval 1 3 v1 rfl rfl) h1
  obtain ⟨a2, rfl, rfl, rfl, w2⟩ := open_int Try.underlying3 (hval 2 3 v2 rfl rfl) h2
  obtain ⟨a3, rfl, rfl, rfl, w3⟩ := open_int Try.underlying5 (hval 3 5 v3 rfl rfl) h3
  clear hA0 hval0 hsz0 hsz
  refine (more_row F0 a1 a2 a3 W hF0 w3).mono fun e W' ⟨he, bel⟩ => ?_
  subst he
  exact ⟨_, rfl, _, _, _, [], _, [], hW', trodAll_mk1 (shut_bool Try.underlying4 _), (trodAll_cons_mk (Below.trod laidOut (by kernel_rfl) (of_decide_eq_true (by kernel_rfl)) k0 bel lt0) (trodAll_cons_mk (shut_int Try.underlying3 w1) (trodAll_cons_mk (shut_int Try.underlying3 w2) (trodAll_cons_mk (shut_int Try.underlying5 w3) trodAll_mk0)))), rfl, bel.frame _, fun h => by cases h⟩
theorem over : Rows.furrowMoreRow.holds Try.pinned (OpenSpec.ofChange Rows.furrowMoreSpec) :=
  OpenClaim.holds_of_wide 10 Try.f10 rfl rfl rfl rfl rfl rfl rfl ⟨rfl, rfl, rfl, rfl, rfl⟩ rfl rfl rfl rfl rfl (by kernel_rfl) Try.func10 (by kernel_rfl)
    (of_decide_eq_true (by kernel_rfl)) (by unfold Func.isWrapper; first | (rw [if_pos (by decide +kernel)]; kernel_rfl) | (rw [if_neg (by decide +kernel)]; exact ⟨rfl, rfl⟩))
    (fun os started H enc _ => lifted os started H enc)
theorem proved : Rows.FurrowMoreSaid := over
#print axioms proved
end Go.Proofs.Ytafmgmaelnpehaa.furrowMore
namespace Go.Proofs.Ytafmgmaelnpehaa
/-- The row, under a short name, for the claim. -/
theorem furrowMore_holds : Rows.FurrowMoreSaid := furrowMore.proved
end Go.Proofs.Ytafmgmaelnpehaa
end
