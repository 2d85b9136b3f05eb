/- Proved: FurrowBends returns true for all furrows and stations, in whatever order Go evaluates what it leaves open; no condition. -/
import Derived.Test.YtafmgmaelnpehaaP4
import Derived.Test.YtafmgmaelnpehaaP2
import Derived.Maps.OwnIn
import Derived.Lib.Hide
import Derived.Maps.AppendAt
import Derived.Laws.OwnMore
import Derived.Test.YtafmgmaelnpehaaP3
import Derived.Deep.SlicePairs
import Derived.Lib.SmallJoins
import Derived.Carry
import Derived.ChangeArms
import Derived.ChangeOld
import Derived.WideShapes
import Derived.Test.YtafmgmaelnpehaaRows
import Derived.WalkKit
import Derived.ProofKit
import Derived.OpenShut
import Derived.ShutString
import Derived.Below
import Derived.SizedLaws
section
set_option linter.unusedVariables false
set_option linter.unusedSimpArgs false
namespace Go.Proofs.Ytafmgmaelnpehaa
open Go.RowKit Go.Fu PFurrowAsks Go.Proofs.YtafmgmaelnpehaaW.PrintWords
/-! ### Bits -/
theorem or_all : (List.range 8).all (fun k => (List.range (2 ^ k)).all fun s => bits .or .i64 (s : Int) (wrap64 (2 ^ k)) == ((s + 2 ^ k : Nat) : Int)) = true := by kernel_rfl
theorem or_is (k s : Nat) (hk : k < 8) (hs : s < 2 ^ k) : bits .or .i64 (s : Int) (wrap64 (2 ^ k)) = ((s + 2 ^ k : Nat) : Int) := by
  have h := List.all_eq_true.1 or_all k (List.mem_range.2 hk)
  have h2 := List.all_eq_true.1 h s (List.mem_range.2 hs)
  exact eq_of_beq h2
/-- A set of stations, as a number. -/
def setN (p : Nat → Bool) : Nat → Nat
  | 0 => 0
  | k + 1 => setN p k + if p k then 2 ^ k else 0
theorem setN_lt (p : Nat → Bool) : ∀ k, setN p k < 2 ^ k
  | 0 => by simp [setN]
  | k + 1 => by
    have := setN_lt p k
    unfold setN
    rw [Nat.pow_succ]
    split <;> omega
theorem shM_set (p : Nat → Bool) : ∀ k, k ≤ 8 → shM p k = ((setN p k : Nat) : Int)
  | 0, _ => rfl
  | k + 1, h => by
    unfold shM setN
    rw [shM_set p k (by omega)]
    split
    · rw [or_is k _ (by omega) (setN_lt p k)]
    · simp
theorem setN_bit (p : Nat → Bool) : ∀ (n i : Nat), setN p n / 2 ^ i % 2 = if i < n ∧ p i = true then 1 else 0
  | 0, i => by simp [setN]
  | n + 1, i => by
    have ih := setN_bit p n i
    have hlt := setN_lt p n
    unfold setN
    rcases Nat.lt_trichotomy i n with h | h | h
    · have e : (setN p n + if p n = true then 2 ^ n else 0) / 2 ^ i % 2 = setN p n / 2 ^ i % 2 := by
        split
        · have : 2 ^ n = 2 ^ i * (2 * 2 ^ (n - i - 1)) := by
            rw [← Nat.pow_succ', ← Nat.pow_add]
            congr 1
            omega
          rw [this, Nat.add_mul_div_left _ _ (Nat.two_pow_pos i), Nat.add_mul_mod_self_left]
        · simp
      rw [e, ih]
      congr 1
      apply propext
      constructor
      · rintro ⟨_, h2⟩; exact ⟨by omega, h2⟩
      · rintro ⟨_, h2⟩; exact ⟨h, h2⟩
    · subst h
      split
      · rename_i hp
        rw [Nat.add_div_right _ (Nat.two_pow_pos i), Nat.div_eq_of_lt hlt]
        simp [hp]
      · rename_i hp
        rw [Nat.add_zero, Nat.div_eq_of_lt hlt]
        simp [hp]
    · have : setN p n + (if p n = true then 2 ^ n else 0) < 2 ^ i := by
        have h1 : 2 ^ (n + 1) ≤ 2 ^ i := Nat.pow_le_pow_right (by omega) (by omega)
        rw [Nat.pow_succ] at h1
        split <;> omega
      rw [Nat.div_eq_of_lt this]
      simp
      intro h1
      omega
end Go.Proofs.Ytafmgmaelnpehaa
end

section
set_option linter.unusedVariables false
set_option linter.unusedSimpArgs false
namespace Go.Proofs.Ytafmgmaelnpehaa
open Go.RowKit Go.Fu
theorem bendI_nn (a b c : Int) : 0 ≤ bendI a b c := by unfold bendI; split <;> omega
theorem bnd_nn (x : Nat → Int) (n : Nat) : 0 ≤ bnd x n := bendI_nn _ _ _
def allBends (A B C : List Int) : List Int := A.flatMap fun a => B.flatMap fun b => C.map fun c => bendI a b c
theorem stA_eq (A B C : List Int) (st : Bool × Int × Int) : stA A B C st = (allBends A B C).foldl step1 st := by
  unfold stA allBends stB stC
  rw [List.foldl_flatMap]
  congr 1
  funext s a
  rw [List.foldl_flatMap]
  congr 1
  funext s b
  rw [List.foldl_map]
theorem step_fold : ∀ (L : List Int) (lo hi : Int), lo ≤ hi → ∃ lo' hi', L.foldl step1 (true, lo, hi) = (true, lo', hi') ∧ lo' ≤ lo ∧ hi ≤ hi' ∧ (lo' = lo ∨ lo' ∈ L) ∧ (hi' = hi ∨ hi' ∈ L) ∧ ∀ v ∈ L, lo' ≤ v ∧ v ≤ hi'
  | [], lo, hi, h => ⟨lo, hi, rfl, Int.le_refl _, Int.le_refl _, .inl rfl, .inl rfl, fun v hv => by cases hv⟩
  | v :: L, lo, hi, h => by
    obtain ⟨lo', hi', h1, h2, h3, h4, h5, h6⟩ := step_fold L (if v < lo then v else lo) (if hi < v then v else hi) (by split <;> split <;> omega)
    refine ⟨lo', hi', ?_, ?_, ?_, ?_, ?_, ?_⟩
    · rw [List.foldl_cons]; exact h1
    · split at h2 <;> omega
    · split at h3 <;> omega
    · rcases h4 with h4 | h4
      · split at h4
        · exact .inr (by rw [h4]; exact List.mem_cons_self)
        · exact .inl h4
      · exact .inr (List.mem_cons_of_mem _ h4)
    · rcases h5 with h5 | h5
      · split at h5
        · exact .inr (by rw [h5]; exact List.mem_cons_self)
        · exact .inl h5
      · exact .inr (List.mem_cons_of_mem _ h5)
    · intro u hu
      rcases List.mem_cons.1 hu with rfl | hu
      · constructor
        · split at h2 <;> omega
        · split at h3 <;> omega
      · exact h6 u hu
theorem fold_spec (L : List Int) (hL : L ≠ []) : ((L.foldl step1 (false, 0, 0)).2.1 ∈ L ∧ (L.foldl step1 (false, 0, 0)).2.2 ∈ L) ∧ ∀ v ∈ L, (L.foldl step1 (false, 0, 0)).2.1 ≤ v ∧ v ≤ (L.foldl step1 (false, 0, 0)).2.2 := by
  cases L with
  | nil => exact absurd rfl hL
  | cons v L =>
    have e : (v :: L).foldl step1 (false, 0, 0) = L.foldl step1 (true, v, v) := rfl
    obtain ⟨lo', hi', h1, h2, h3, h4, h5, h6⟩ := step_fold L v v (Int.le_refl _)
    rw [e, h1]
    refine ⟨⟨?_, ?_⟩, fun u hu => ?_⟩
    · rcases h4 with h4 | h4
      · show lo' ∈ _; rw [h4]; exact List.mem_cons_self
      · exact List.mem_cons_of_mem _ h4
    · rcases h5 with h5 | h5
      · show hi' ∈ _; rw [h5]; exact List.mem_cons_self
      · exact List.mem_cons_of_mem _ h5
    · rcases List.mem_cons.1 hu with rfl | hu
      · exact ⟨h2, h3⟩
      · exact h6 u hu
theorem mem_bends (A B C : List Int) (v : Int) : v ∈ allBends A B C ↔ ∃ a ∈ A, ∃ b ∈ B, ∃ c ∈ C, bendI a b c = v := by simp [allBends]
/-- Three offsets beside one another are those of some truth. -/
theorem truth_three {l : List (Int × Int)} (hok : ∀ x ∈ l, okSpan x) {n : Nat} (h1 : 1 ≤ n) (h2 : n + 1 < l.length) {a b c : Int} (ha : InS l (n - 1) a) (hb : InS l n b) (hc : InS l (n + 1) c) : ∃ x, Truth l x ∧ bnd x n = bendI a b c := by
  refine ⟨fun i => if i = n - 1 then a else if i = n then b else if i = n + 1 then c else (l.getD i (0, 0)).1, fun i hi => ?_, ?_⟩
  · simp only
    by_cases e1 : i = n - 1
    · rw [if_pos e1, e1]; exact ha
    · rw [if_neg e1]
      by_cases e2 : i = n
      · rw [if_pos e2, e2]; exact hb
      · rw [if_neg e2]
        by_cases e3 : i = n + 1
        · rw [if_pos e3, e3]; exact hc
        · rw [if_neg e3]; exact lo_in hok i hi
  · unfold bnd
    simp only
    simp only [if_true, show n ≠ n - 1 by omega, show n + 1 ≠ n - 1 by omega, show n + 1 ≠ n by omega, if_false]
structure AtSpec (l : List (Int × Int)) (n : Nat) (s : Int × Int) : Prop where
  all : ∀ x, Truth l x → s.1 ≤ bnd x n ∧ bnd x n ≤ s.2
  lo : ∃ x, Truth l x ∧ bnd x n = s.1
  hi : ∃ x, Truth l x ∧ bnd x n = s.2
theorem at_spec (l : List (Int × Int)) (n : Nat) (h1 : 1 ≤ n) (h2 : n + 1 < l.length) (hok : ∀ x ∈ l, okSpan x) : AtSpec l n (atF l n) := by
  have hm : ∀ v, v ∈ allBends (spanL (l.getD (n - 1) (0, 0))) (spanL (l.getD n (0, 0))) (spanL (l.getD (n + 1) (0, 0))) ↔ ∃ a, InS l (n - 1) a ∧ ∃ b, InS l n b ∧ ∃ c, InS l (n + 1) c ∧ bendI a b c = v := by
    intro v
    rw [mem_bends]
    simp only [mem_in]
  have he : atF l n = ((allBends (spanL (l.getD (n - 1) (0, 0))) (spanL (l.getD n (0, 0))) (spanL (l.getD (n + 1) (0, 0)))).foldl step1 (false, 0, 0)).2 := by
    unfold atF
    rw [stA_eq]
  have hne : allBends (spanL (l.getD (n - 1) (0, 0))) (spanL (l.getD n (0, 0))) (spanL (l.getD (n + 1) (0, 0))) ≠ [] := by
    intro e
    have := (hm (bendI (l.getD (n - 1) (0, 0)).1 (l.getD n (0, 0)).1 (l.getD (n + 1) (0, 0)).1)).2 ⟨_, lo_in hok _ (by omega), _, lo_in hok _ (by omega), _, lo_in hok _ (by omega), rfl⟩
    rw [e] at this
    cases this
  obtain ⟨⟨s1, s2⟩, s3⟩ := fold_spec _ hne
  rw [← he] at s1 s2 s3
  refine ⟨fun x hx => s3 _ ((hm _).2 ⟨_, hx _ (by omega), _, hx _ (by omega), _, hx _ h2, rfl⟩), ?_, ?_⟩
  · obtain ⟨a, ha, b, hb, c, hc, e⟩ := (hm _).1 s1
    obtain ⟨x, hx, hbx⟩ := truth_three hok h1 h2 ha hb hc
    exact ⟨x, hx, hbx.trans e⟩
  · obtain ⟨a, ha, b, hb, c, hc, e⟩ := (hm _).1 s2
    obtain ⟨x, hx, hbx⟩ := truth_three hok h1 h2 ha hb hc
    exact ⟨x, hx, hbx.trans e⟩
/-- The greatest bend at the stations 1 to k. -/
def mostF (x : Nat → Int) : Nat → Int
  | 0 => 0
  | k + 1 => if mostF x k < bnd x (k + 1) then bnd x (k + 1) else mostF x k
theorem mostF_nn (x : Nat → Int) : ∀ k, 0 ≤ mostF x k
  | 0 => Int.le_refl _
  | k + 1 => by have := mostF_nn x k; have := bnd_nn x (k + 1); unfold mostF; split <;> omega
theorem mostF_le (x : Nat → Int) (m : Int) (hm : 0 ≤ m) : ∀ k, mostF x k ≤ m ↔ ∀ n, 1 ≤ n → n ≤ k → bnd x n ≤ m
  | 0 => ⟨fun _ n h1 h2 => by omega, fun _ => hm⟩
  | k + 1 => by
    have ih := mostF_le x m hm k
    unfold mostF
    constructor
    · intro h n h1 h2
      by_cases e : n = k + 1
      · subst e; split at h <;> omega
      · exact ih.1 (by split at h <;> omega) n h1 (by omega)
    · intro h
      have h3 := h (k + 1) (by omega) (Nat.le_refl _)
      have h4 := ih.2 fun n h1 h2 => h n h1 (by omega)
      split <;> omega
theorem mostF_at (x : Nat → Int) : ∀ k, mostF x k = 0 ∨ ∃ n, 1 ≤ n ∧ n ≤ k ∧ bnd x n = mostF x k
  | 0 => .inl rfl
  | k + 1 => by
    unfold mostF
    split
    · exact .inr ⟨k + 1, by omega, Nat.le_refl _, rfl⟩
    · rcases mostF_at x k with h | ⟨n, h1, h2, h3⟩
      · exact .inl h
      · exact .inr ⟨n, h1, by omega, h3⟩
/-- The bend of the furrow that lies so. -/
def mostL (l : List (Int × Int)) (x : Nat → Int) : Int := mostF x (l.length - 2)
theorem mostL_le {l : List (Int × Int)} {x : Nat → Int} {m : Int} (hm : 0 ≤ m) : mostL l x ≤ m ↔ ∀ n, 1 ≤ n → n + 1 < l.length → bnd x n ≤ m := by
  unfold mostL
  rw [mostF_le x m hm]
  exact ⟨fun h n h1 h2 => h n h1 (by omega), fun h n h1 h2 => h n h1 (by omega)⟩
theorem bnd_le_most {l : List (Int × Int)} {x : Nat → Int} {n : Nat} (h1 : 1 ≤ n) (h2 : n + 1 < l.length) : bnd x n ≤ mostL l x := (mostL_le (mostF_nn x _)).1 (Int.le_refl _) n h1 h2
theorem canB_most {l : List (Int × Int)} (hok : ∀ x ∈ l, okSpan x) {m : Int} (hm : 0 ≤ m) : canB l (upP m) = true ↔ ∃ x, Truth l x ∧ mostL l x ≤ m := by
  rw [canB_iff l _ hok]
  constructor
  · rintro ⟨x, hx, h⟩
    exact ⟨x, hx, (mostL_le hm).2 fun n h1 h2 => of_decide_eq_true (h n h1 h2)⟩
  · rintro ⟨x, hx, h⟩
    exact ⟨x, hx, fun n h1 h2 => decide_eq_true ((mostL_le hm).1 h n h1 h2)⟩
theorem least_spec (l : List (Int × Int)) (hok : ∀ x ∈ l, okSpan x) : (∃ x, Truth l x ∧ mostL l x = leastN l) ∧ ∀ x, Truth l x → (leastN l : Int) ≤ mostL l x := by
  have hl := leastN_is l hok
  have hall : ∀ x, Truth l x → (leastN l : Int) ≤ mostL l x := by
    intro x hx
    refine Int.not_lt.1 fun hlt => ?_
    have h0 := mostF_nn x (l.length - 2)
    obtain ⟨k, hk⟩ : ∃ k : Nat, mostL l x = k := ⟨(mostL l x).toNat, by unfold mostL; omega⟩
    have h1 := hl.2 k (by omega)
    have h2 := (canB_most hok (m := (k : Int)) (by omega)).2 ⟨x, hx, by omega⟩
    rw [h1] at h2
    cases h2
  obtain ⟨x, hx, hm⟩ := (canB_most hok (m := ((leastN l : Nat) : Int)) (by omega)).1 hl.1
  exact ⟨⟨x, hx, by have := hall x hx; omega⟩, hall⟩
theorem lo_truth {l : List (Int × Int)} (hok : ∀ x ∈ l, okSpan x) : Truth l fun i => (l.getD i (0, 0)).1 := fun i hi => lo_in hok i hi
theorem hiF_all (l : List (Int × Int)) (hok : ∀ x ∈ l, okSpan x) : ∀ k, k + 2 ≤ l.length ∨ k = 0 → 0 ≤ hiF l k ∧ (∀ n, 1 ≤ n → n ≤ k → (atF l n).2 ≤ hiF l k) ∧ (hiF l k = 0 ∨ ∃ n, 1 ≤ n ∧ n ≤ k ∧ (atF l n).2 = hiF l k)
  | 0, _ => ⟨Int.le_refl _, fun n h1 h2 => by omega, .inl rfl⟩
  | k + 1, h => by
    obtain ⟨i1, i2, i3⟩ := hiF_all l hok k (by omega)
    unfold hiF
    refine ⟨by split <;> omega, fun n h1 h2 => ?_, ?_⟩
    · by_cases e : n = k + 1
      · subst e; split <;> omega
      · have := i2 n h1 (by omega); split <;> omega
    · split
      · exact .inr ⟨k + 1, by omega, Nat.le_refl _, rfl⟩
      · rcases i3 with i3 | ⟨n, h1, h2, h3⟩
        · exact .inl i3
        · exact .inr ⟨n, h1, by omega, h3⟩
theorem hi_spec (l : List (Int × Int)) (hok : ∀ x ∈ l, okSpan x) : (∃ x, Truth l x ∧ mostL l x = hiF l (l.length - 2)) ∧ ∀ x, Truth l x → mostL l x ≤ hiF l (l.length - 2) := by
  obtain ⟨i1, i2, i3⟩ := hiF_all l hok (l.length - 2) (by omega)
  have hall : ∀ x, Truth l x → mostL l x ≤ hiF l (l.length - 2) := fun x hx => (mostL_le i1).2 fun n h1 h2 => Int.le_trans ((at_spec l n h1 h2 hok).all x hx).2 (i2 n h1 (by omega))
  refine ⟨?_, hall⟩
  rcases i3 with i3 | ⟨n, h1, h2, h3⟩
  · refine ⟨_, lo_truth hok, ?_⟩
    have := hall _ (lo_truth hok)
    have := mostF_nn (fun i => (l.getD i (0, 0)).1) (l.length - 2)
    unfold mostL at *
    omega
  · obtain ⟨x, hx, hb⟩ := (at_spec l n h1 (by omega) hok).hi
    refine ⟨x, hx, ?_⟩
    have := hall x hx
    have := bnd_le_most (l := l) (x := x) h1 (by omega)
    omega
/-! ### Where it bends most -/
theorem worstC_iff (l : List (Int × Int)) (n : Nat) (h1 : 1 ≤ n) (h2 : n + 1 < l.length) (hok : ∀ x ∈ l, okSpan x) : worstC l n = true ↔ ∃ x, Truth l x ∧ ∀ i, 1 ≤ i → i + 1 < l.length → bnd x i ≤ bnd x n := by
  have hs := at_spec l n h1 h2 hok
  unfold worstC
  simp only [Bool.and_eq_true, decide_eq_true_eq, List.any_eq_true, h1, true_and]
  constructor
  · rintro ⟨own, ho, hc⟩
    obtain ⟨x, hx, hp⟩ := (canB_iff l _ hok).1 hc
    refine ⟨x, hx, fun i i1 i2 => ?_⟩
    have hn := hp n h1 h2
    have hi := hp i i1 i2
    unfold wp1 at hn hi
    simp only [Bool.or_eq_true, decide_eq_true_eq, Bool.and_eq_true, Bool.not_eq_true', decide_eq_false_iff_not] at hn hi
    rcases hn with hn | hn
    · rcases hi with hi | hi <;> omega
    · exact absurd trivial hn.2
  · rintro ⟨x, hx, hm⟩
    refine ⟨bnd x n, (mem_spanL _ _).2 (hs.all x hx), (canB_iff l _ hok).2 ⟨x, hx, fun i i1 i2 => ?_⟩⟩
    unfold wp1
    simp only [Bool.or_eq_true, decide_eq_true_eq, Bool.and_eq_true, Bool.not_eq_true', decide_eq_false_iff_not]
    have := hm i i1 i2
    by_cases e : bnd x i = bnd x n
    · exact .inl e
    · refine .inr ⟨by omega, fun e2 => e ?_⟩
      have : i = n := by exact_mod_cast e2
      rw [this]
theorem worstS_iff (l : List (Int × Int)) (n : Nat) (h1 : 1 ≤ n) (h2 : n + 1 < l.length) (hok : ∀ x ∈ l, okSpan x) : worstS l n = true ↔ ∀ x, Truth l x → ∀ i, 1 ≤ i → i + 1 < l.length → bnd x i ≤ bnd x n := by
  have hs := at_spec l n h1 h2 hok
  unfold worstS
  simp only [Bool.and_eq_true, decide_eq_true_eq, Bool.not_eq_true', h1, true_and, List.any_eq_false]
  constructor
  · intro h x hx i i1 i2
    refine Int.not_lt.1 fun hlt => ?_
    have hne : i ≠ n := by rintro rfl; omega
    refine h (bnd x n) ((mem_spanL _ _).2 (hs.all x hx)) ?_
    unfold lessO
    rw [List.any_eq_true]
    refine ⟨i, List.mem_range.2 (by omega), ?_⟩
    simp only [Bool.and_eq_true, decide_eq_true_eq, Bool.not_eq_true', decide_eq_false_iff_not]
    refine ⟨⟨i1, hne⟩, (canB_iff l _ hok).2 ⟨x, hx, fun m m1 m2 => ?_⟩⟩
    unfold wp2
    simp only [Bool.or_eq_true, decide_eq_true_eq, Bool.and_eq_true, Bool.not_eq_true', decide_eq_false_iff_not]
    constructor
    · by_cases e : m = n
      · exact .inr (by rw [e])
      · exact .inl (by omega)
    · by_cases e : m = i
      · exact .inr (by rw [e]; exact hlt)
      · exact .inl (by omega)
  · intro h own ho hl
    unfold lessO at hl
    rw [List.any_eq_true] at hl
    obtain ⟨i, hi, hc⟩ := hl
    simp only [Bool.and_eq_true, decide_eq_true_eq, Bool.not_eq_true', decide_eq_false_iff_not] at hc
    have hir := List.mem_range.1 hi
    obtain ⟨x, hx, hp⟩ := (canB_iff l _ hok).1 hc.2
    have a := hp n h1 h2
    have b := hp i hc.1.1 (by omega)
    unfold wp2 at a b
    simp only [Bool.or_eq_true, decide_eq_true_eq, Bool.and_eq_true, Bool.not_eq_true', decide_eq_false_iff_not] at a b
    have := h x hx i hc.1.1 (by omega)
    have ha : bnd x n = own := by rcases a.1 with a | a <;> first | exact a | exact absurd trivial a
    have hb : own < bnd x i := by rcases b.2 with b | b <;> first | exact b | exact absurd trivial b
    omega
end Go.Proofs.Ytafmgmaelnpehaa
end

section
namespace Go.Proofs.Ytafmgmaelnpehaa.PFurrowAsks
open Go.RowKit Go.Proofs.YtafmgmaelnpehaaW.PrintWords Go.Proofs.YtafmgmaelnpehaaW.PrintLast Go.Proofs.YtafmgmaelnpehaaW.PrintMore
attribute [local go_sem] max2_int min2_int max_two min_two max_three min_three max_four min_four   -- for this text's walks alone
set_option linter.unusedVariables false
set_option linter.unusedSimpArgs false

/-! ### furrowworksref04_power: function 63 -/
def furrowworksref04_power.l0 : Nat → Int → Int → Int → Option (Int)
  | 0, _, _, _ => none
  | k + 1, x0, x3, x4 => if x4 < x0 then (furrowworksref04_power.l0 k x0 (wrap64 (2 * x3)) (wrap64 (x4 + 1))) else (some x3)
def furrowworksref04_power.f (k : Nat) (a0 : Int) : Option (Int) := furrowworksref04_power.l0 k a0 1 0
theorem furrowworksref04_power.mono_l : ∀ k, (∀ y0 y1 y2, LeO (furrowworksref04_power.l0 k y0 y1 y2) (furrowworksref04_power.l0 (k + 1) y0 y1 y2))
  | 0 => fun _ _ _ r h => by simp [furrowworksref04_power.l0] at h
  | k + 1 => by
    have ih0 := furrowworksref04_power.mono_l k
    · intro y0 y1 y2
      unfold furrowworksref04_power.l0
      repeat' first
      | (with_reducible exact ih0 _ _ _)
      | (with_reducible exact LeO.refl _)
      | (with_reducible exact LeO.none _)
      | (with_reducible refine LeO.ite ?_ ?_)
      | (with_reducible refine LeO.bind ?_ (fun _ => ?_))
      | exact ih0 _ _ _
      | exact LeO.none _
      | refine LeO.ite ?_ ?_
      | refine LeO.bind ?_ (fun _ => ?_)
theorem furrowworksref04_power.mono : ∀ a0 k, LeO (furrowworksref04_power.f k a0) (furrowworksref04_power.f (k + 1) a0) := by
  intro a0 k
  have ih0 := furrowworksref04_power.mono_l k
  unfold furrowworksref04_power.f
  repeat' first
      | (with_reducible exact ih0 _ _ _)
      | (with_reducible exact LeO.refl _)
      | (with_reducible exact LeO.none _)
      | (with_reducible refine LeO.ite ?_ ?_)
      | (with_reducible refine LeO.bind ?_ (fun _ => ?_))
      | exact ih0 _ _ _
      | exact LeO.none _
      | refine LeO.ite ?_ ?_
      | refine LeO.bind ?_ (fun _ => ?_)
set_option maxHeartbeats 8000000 in
set_option maxRecDepth 100000 in
theorem furrowworksref04_power.calls (k : Nat) (a0 : Int) (r : Int) (w : World) (h : furrowworksref04_power.f k a0 = some r) :
    Calls Try.prog 63 #[.int .i64 a0] w fun e w' => e = .returned (.int .i64 r) ∧ Drawn0 w w' := by
  have H : (furrowworksref04_power.l0 k a0 1 0) = some r := h
  clear h
  have H' := Aside0.mk H
  clear H
  go_enter Try.func63, Try.ntmps63
  go_wp2
  go_loopg [3, 4] k (fun kq v3 v4 w' => ∃ (x3_1 : Int) (x4_1 : Int), v3 = .int .i64 x3_1 ∧ v4 = .int .i64 x4_1 ∧ Aside0 (furrowworksref04_power.l0 kq a0 x3_1 x4_1 = some r) ∧ Aside0 (kq ≤ k) ∧ Drawn0 w w')
  case atStart => exact ⟨(1), (0), (by first | rfl | (simp; done) | (simp [*]; done)), (by first | rfl | (simp; done) | (simp [*]; done)), H', ⟨Nat.le_refl _⟩, by repeat (first | exact Drawn0.refl _ | apply Drawn0.step)⟩
  case round =>
    clear H'
    obtain ⟨x3_1, x4_1, rfl, rfl, HA, HK1, ⟨m1, rfl⟩⟩ := hrel
    cases gk with
    | zero => exact absurd HA.out (by simp [furrowworksref04_power.l0])
    | succ k1 =>
      have H := HA.out
      clear HA
      simp only [furrowworksref04_power.l0] at H
      by_cases c2 : x4_1 < a0
      · rw [if_pos c2] at H
        have c2b0 : decide (x4_1 < a0) = true := decide_eq_true c2
        clear c2
        have H' := Aside0.mk H
        clear H
        go_wp2
        go_roundg k1
        case measure => have := HK1.out; omega
        case rel => exact ⟨(wrap64 (2 * x3_1)), (wrap64 (x4_1 + 1)), (by first | rfl | (simp; done) | (simp [*]; done)), (by first | rfl | (simp; done) | (simp [*]; done)), H', ⟨by have := HK1.out; omega⟩, by repeat (first | exact Drawn0.refl _ | apply Drawn0.step)⟩
      · rw [if_neg c2] at H
        have c2b0 : decide (x4_1 < a0) = false := decide_eq_false c2
        clear c2
        obtain rfl := Option.some.inj H
        go_wp2
        go_ret
        exact ⟨by first | rfl | (simp; done) | (simp [*]; done), by repeat (first | exact Drawn0.refl _ | apply Drawn0.step)⟩

end Go.Proofs.Ytafmgmaelnpehaa.PFurrowAsks
end

section
namespace Go.Proofs.Ytafmgmaelnpehaa.PFurrowAsks
open Go.RowKit Go.Proofs.YtafmgmaelnpehaaW.PrintWords Go.Proofs.YtafmgmaelnpehaaW.PrintLast Go.Proofs.YtafmgmaelnpehaaW.PrintMore
attribute [local go_sem] max2_int min2_int max_two min_two max_three min_three max_four min_four   -- for this text's walks alone
set_option linter.unusedVariables false
set_option linter.unusedSimpArgs false

/-! ### furrowworksref04_Size: function 37 -/
def furrowworksref04_Size.l0 : Nat → Int → Int → Option (Int)
  | 0, _, _ => none
  | k + 1, x0, x3 => if x0 > 0 then (furrowworksref04_Size.l0 k (wrap64 (Int.tdiv x0 2)) (wrap64 (x3 + (Int.tmod x0 2)))) else (some x3)
def furrowworksref04_Size.f (k : Nat) (a0 : Int) : Option (Int) := furrowworksref04_Size.l0 k a0 0
theorem furrowworksref04_Size.mono_l : ∀ k, (∀ y0 y1, LeO (furrowworksref04_Size.l0 k y0 y1) (furrowworksref04_Size.l0 (k + 1) y0 y1))
  | 0 => fun _ _ r h => by simp [furrowworksref04_Size.l0] at h
  | k + 1 => by
    have ih0 := furrowworksref04_Size.mono_l k
    · intro y0 y1
      unfold furrowworksref04_Size.l0
      repeat' first
      | (with_reducible exact ih0 _ _)
      | (with_reducible exact LeO.refl _)
      | (with_reducible exact LeO.none _)
      | (with_reducible refine LeO.ite ?_ ?_)
      | (with_reducible refine LeO.bind ?_ (fun _ => ?_))
      | exact ih0 _ _
      | exact LeO.none _
      | refine LeO.ite ?_ ?_
      | refine LeO.bind ?_ (fun _ => ?_)
theorem furrowworksref04_Size.mono : ∀ a0 k, LeO (furrowworksref04_Size.f k a0) (furrowworksref04_Size.f (k + 1) a0) := by
  intro a0 k
  have ih0 := furrowworksref04_Size.mono_l k
  unfold furrowworksref04_Size.f
  repeat' first
      | (with_reducible exact ih0 _ _)
      | (with_reducible exact LeO.refl _)
      | (with_reducible exact LeO.none _)
      | (with_reducible refine LeO.ite ?_ ?_)
      | (with_reducible refine LeO.bind ?_ (fun _ => ?_))
      | exact ih0 _ _
      | exact LeO.none _
      | refine LeO.ite ?_ ?_
      | refine LeO.bind ?_ (fun _ => ?_)
set_option maxHeartbeats 8000000 in
set_option maxRecDepth 100000 in
theorem furrowworksref04_Size.calls (k : Nat) (a0 : Int) (r : Int) (w : World) (h : furrowworksref04_Size.f k a0 = some r) :
    Calls Try.prog 37 #[.int .i64 a0] w fun e w' => e = .returned (.int .i64 r) ∧ Drawn0 w w' := by
  have H : (furrowworksref04_Size.l0 k a0 0) = some r := h
  clear h
  have H' := Aside0.mk H
  clear H
  go_enter Try.func37, Try.ntmps37
  go_wp2
  go_loopg [0, 3] k (fun kq v0 v3 w' => ∃ (x0_1 : Int) (x3_1 : Int), v0 = .int .i64 x0_1 ∧ v3 = .int .i64 x3_1 ∧ Aside0 (furrowworksref04_Size.l0 kq x0_1 x3_1 = some r) ∧ Aside0 (kq ≤ k) ∧ Drawn0 w w')
  case atStart => exact ⟨(a0), (0), (by first | rfl | (simp; done) | (simp [*]; done)), (by first | rfl | (simp; done) | (simp [*]; done)), H', ⟨Nat.le_refl _⟩, by repeat (first | exact Drawn0.refl _ | apply Drawn0.step)⟩
  case round =>
    clear H'
    obtain ⟨x0_1, x3_1, rfl, rfl, HA, HK1, ⟨m1, rfl⟩⟩ := hrel
    cases gk with
    | zero => exact absurd HA.out (by simp [furrowworksref04_Size.l0])
    | succ k1 =>
      have H := HA.out
      clear HA
      simp only [furrowworksref04_Size.l0] at H
      by_cases c2 : x0_1 > 0
      · rw [if_pos c2] at H
        have c2b0 : decide (0 < x0_1) = true := decide_eq_true c2
        clear c2
        have H' := Aside0.mk H
        clear H
        go_wp2
        go_roundg k1
        case measure => have := HK1.out; omega
        case rel => exact ⟨(wrap64 (Int.tdiv x0_1 2)), (wrap64 (x3_1 + (Int.tmod x0_1 2))), (by first | rfl | (simp; done) | (simp [*]; done)), (by first | rfl | (simp; done) | (simp [*]; done)), H', ⟨by have := HK1.out; omega⟩, by repeat (first | exact Drawn0.refl _ | apply Drawn0.step)⟩
      · rw [if_neg c2] at H
        have c2b0 : decide (0 < x0_1) = false := decide_eq_false c2
        clear c2
        obtain rfl := Option.some.inj H
        go_wp2
        go_ret
        exact ⟨by first | rfl | (simp; done) | (simp [*]; done), by repeat (first | exact Drawn0.refl _ | apply Drawn0.step)⟩

end Go.Proofs.Ytafmgmaelnpehaa.PFurrowAsks
end

section
namespace Go.Proofs.Ytafmgmaelnpehaa.PFurrowAsks
open Go.RowKit Go.Proofs.YtafmgmaelnpehaaW.PrintWords Go.Proofs.YtafmgmaelnpehaaW.PrintLast Go.Proofs.YtafmgmaelnpehaaW.PrintMore
attribute [local go_sem] max2_int min2_int max_two min_two max_three min_three max_four min_four   -- for this text's walks alone
set_option linter.unusedVariables false
set_option linter.unusedSimpArgs false

/-! ### furrowworksref04_bend: function 55 -/
def furrowworksref04_bend.f (l0 : List Int) (a1 : Int) : Option (Int) := if 0 ≤ a1 then (if a1 < (l0.length : Int) then (if 0 ≤ (wrap64 (a1 - 1)) then (if (wrap64 (a1 - 1)) < (l0.length : Int) then (if 0 ≤ (wrap64 (a1 + 1)) then (if (wrap64 (a1 + 1)) < (l0.length : Int) then (some (mx (wrap64 ((wrap64 ((wrap64 (2 * (rd l0 a1))) - (rd l0 (wrap64 (a1 - 1))))) - (rd l0 (wrap64 (a1 + 1))))) (wrap64 (-(wrap64 ((wrap64 ((wrap64 (2 * (rd l0 a1))) - (rd l0 (wrap64 (a1 - 1))))) - (rd l0 (wrap64 (a1 + 1))))))))) else (none)) else (none)) else (none)) else (none)) else (none)) else (none)
set_option maxHeartbeats 8000000 in
set_option maxRecDepth 100000 in
theorem furrowworksref04_bend.calls (A0 : Option Addr) (c0 : Nat) (l0 : List Int) (a1 : Int) (r : Int) (w : World) (hr0 : Kd.C (Kd.int .i64) w A0 l0.length l0) (hc0 : l0.length ≤ c0) (h : furrowworksref04_bend.f l0 a1 = some r) :
    Calls Try.prog 55 #[.slice A0 l0.length c0, .int .i64 a1] w fun e w' => e = .returned (.int .i64 r) ∧ Below w.heap.size w w' := by
  have HR0 := Aside0.mk hr0
  have HC0 := Aside0.mk hc0
  clear hr0 hc0
  have HB := Aside0.mk (Below.refl w.heap.size w)
  have H : (if 0 ≤ a1 then (if a1 < (l0.length : Int) then (if 0 ≤ (wrap64 (a1 - 1)) then (if (wrap64 (a1 - 1)) < (l0.length : Int) then (if 0 ≤ (wrap64 (a1 + 1)) then (if (wrap64 (a1 + 1)) < (l0.length : Int) then (some (mx (wrap64 ((wrap64 ((wrap64 (2 * (rd l0 a1))) - (rd l0 (wrap64 (a1 - 1))))) - (rd l0 (wrap64 (a1 + 1))))) (wrap64 (-(wrap64 ((wrap64 ((wrap64 (2 * (rd l0 a1))) - (rd l0 (wrap64 (a1 - 1))))) - (rd l0 (wrap64 (a1 + 1))))))))) else (none)) else (none)) else (none)) else (none)) else (none)) else (none)) = some r := h
  clear h
  by_cases c3 : 0 ≤ a1
  · rw [if_pos c3] at H
    have c3b0 : decide (0 ≤ a1) = true := decide_eq_true c3
    clear c3
    by_cases c4 : a1 < (l0.length : Int)
    · rw [if_pos c4] at H
      have c4b0 : decide (a1 < (l0.length : Int)) = true := decide_eq_true c4
      clear c4
      obtain ⟨ji5, hji5⟩ : ∃ j_ : Int, (wrap64 (a1 - 1)) = j_ := ⟨_, rfl⟩
      replace H : (if 0 ≤ (ji5) then (if (ji5) < (l0.length : Int) then (if 0 ≤ (wrap64 (a1 + 1)) then (if (wrap64 (a1 + 1)) < (l0.length : Int) then (some (mx (wrap64 ((wrap64 ((wrap64 (2 * (rd l0 a1))) - (rd l0 (ji5)))) - (rd l0 (wrap64 (a1 + 1))))) (wrap64 (-(wrap64 ((wrap64 ((wrap64 (2 * (rd l0 a1))) - (rd l0 (ji5)))) - (rd l0 (wrap64 (a1 + 1))))))))) else (none)) else (none)) else (none)) else (none)) = some r := by first | (rw [hji5] at H; exact H) | (simp only [hji5] at H ⊢; exact H)
      have hji5w : (IntKind.i64.wrap (a1 - 1)) = ji5 := (i64_w _).trans hji5
      by_cases c6 : 0 ≤ (ji5)
      · rw [if_pos c6] at H
        have c6b0 : decide (0 ≤ (ji5)) = true := decide_eq_true c6
        clear c6
        by_cases c7 : (ji5) < (l0.length : Int)
        · rw [if_pos c7] at H
          have c7b0 : decide ((ji5) < (l0.length : Int)) = true := decide_eq_true c7
          clear c7
          obtain ⟨ji8, hji8⟩ : ∃ j_ : Int, (wrap64 (a1 + 1)) = j_ := ⟨_, rfl⟩
          replace H : (if 0 ≤ (ji8) then (if (ji8) < (l0.length : Int) then (some (mx (wrap64 ((wrap64 ((wrap64 (2 * (rd l0 a1))) - (rd l0 (ji5)))) - (rd l0 (ji8)))) (wrap64 (-(wrap64 ((wrap64 ((wrap64 (2 * (rd l0 a1))) - (rd l0 (ji5)))) - (rd l0 (ji8)))))))) else (none)) else (none)) = some r := by first | (rw [hji8] at H; exact H) | (simp only [hji8] at H ⊢; exact H)
          have hji8w : (IntKind.i64.wrap (a1 + 1)) = ji8 := (i64_w _).trans hji8
          by_cases c9 : 0 ≤ (ji8)
          · rw [if_pos c9] at H
            have c9b0 : decide (0 ≤ (ji8)) = true := decide_eq_true c9
            clear c9
            by_cases c10 : (ji8) < (l0.length : Int)
            · rw [if_pos c10] at H
              have c10b0 : decide ((ji8) < (l0.length : Int)) = true := decide_eq_true c10
              clear c10
              obtain ⟨ji11, hji11⟩ : ∃ j_ : Int, (mx (wrap64 ((wrap64 ((wrap64 (2 * (rd l0 a1))) - (rd l0 (ji5)))) - (rd l0 (ji8)))) (wrap64 (-(wrap64 ((wrap64 ((wrap64 (2 * (rd l0 a1))) - (rd l0 (ji5)))) - (rd l0 (ji8))))))) = j_ := ⟨_, rfl⟩
              replace H : (some ji11) = some r := by first | (rw [hji11] at H; exact H) | (simp only [hji11] at H ⊢; exact H)
              have hji11_ : (if (wrap64 ((wrap64 ((wrap64 (2 * (rd l0 a1))) - (rd l0 (ji5)))) - (rd l0 (ji8)))) < (wrap64 (-(wrap64 ((wrap64 ((wrap64 (2 * (rd l0 a1))) - (rd l0 (ji5)))) - (rd l0 (ji8)))))) then (wrap64 (-(wrap64 ((wrap64 ((wrap64 (2 * (rd l0 a1))) - (rd l0 (ji5)))) - (rd l0 (ji8)))))) else (wrap64 ((wrap64 ((wrap64 (2 * (rd l0 a1))) - (rd l0 (ji5)))) - (rd l0 (ji8))))) = ji11 := hji11
              obtain rfl := Option.some.inj H
              have p164 : 0 ≤ (a1 : Int) := of_decide_eq_true (by first | (with_reducible assumption) | assumption)
              have q164 : a1 < (l0.length : Int) := of_decide_eq_true (by first | (with_reducible assumption) | assumption)
              obtain ⟨ad164, e164, hx164_0⟩ := Kd.at_int HR0.out a1 p164 q164
              cases e164
              replace p164 := eq_true p164
              replace q164 := eq_true q164
              have p165 : 0 ≤ ((ji5) : Int) := of_decide_eq_true (by first | (with_reducible assumption) | assumption)
              have q165 : (ji5) < (l0.length : Int) := of_decide_eq_true (by first | (with_reducible assumption) | assumption)
              obtain ⟨ad165, e165, hx165_0⟩ := Kd.at_int HR0.out (ji5) p165 q165
              obtain rfl : ad164 = ad165 := (by injection e165)
              replace p165 := eq_true p165
              replace q165 := eq_true q165
              have p166 : 0 ≤ ((ji8) : Int) := of_decide_eq_true (by first | (with_reducible assumption) | assumption)
              have q166 : (ji8) < (l0.length : Int) := of_decide_eq_true (by first | (with_reducible assumption) | assumption)
              obtain ⟨ad166, e166, hx166_0⟩ := Kd.at_int HR0.out (ji8) p166 q166
              obtain rfl : ad164 = ad166 := (by injection e166)
              replace p166 := eq_true p166
              replace q166 := eq_true q166
              go_enter Try.func55, Try.ntmps55
              go_wp2
              repeat (go_quiet (fail); try go_wp2)
              go_ret
              exact ⟨by first | rfl | (simp [errW_none, errW_some] <;> rfl) | (simp only [← hji5, ← hji8, ← hji11]; first | rfl | (simp [errW_none, errW_some] <;> rfl)) | (simp [*, errW_none, errW_some] <;> rfl), by repeat (first | (with_reducible first | exact HB.out | apply below_alloc | apply pw_below_drewN | apply below_drew1) | exact HB.out)⟩
            · rw [if_neg c10] at H
              exact absurd H (by simp)
          · rw [if_neg c9] at H
            exact absurd H (by simp)
        · rw [if_neg c7] at H
          exact absurd H (by simp)
      · rw [if_neg c6] at H
        exact absurd H (by simp)
    · rw [if_neg c4] at H
      exact absurd H (by simp)
  · rw [if_neg c3] at H
    exact absurd H (by simp)

end Go.Proofs.Ytafmgmaelnpehaa.PFurrowAsks
end

section
set_option linter.unusedVariables false
set_option linter.unusedSimpArgs false
namespace Go.Proofs.Ytafmgmaelnpehaa
open Go.RowKit Go.Fu PFurrowAsks Go.Proofs.YtafmgmaelnpehaaW.PrintWords
theorem wrap_id {a : Int} (h1 : -1000000000 ≤ a) (h2 : a ≤ 1000000000) : wrap64 a = a := by unfold wrap64; omega
theorem power_l (n : Nat) (hn : n ≤ 20) : ∀ (d i : Nat), i + d = n → Ev (fun k => furrowworksref04_power.l0 k n ((2 : Int) ^ i) i) ((2 : Int) ^ n)
  | 0, i, h => by
    refine ⟨1, fun k hk => ?_⟩
    obtain ⟨k, rfl⟩ : ∃ m, k = m + 1 := ⟨k - 1, by omega⟩
    simp only [furrowworksref04_power.l0]
    rw [if_neg (by omega), show i = n by omega]
  | d + 1, i, h => by
    refine Ev.step (f := fun k => furrowworksref04_power.l0 k n ((2 : Int) ^ (i + 1)) ((i + 1 : Nat) : Int)) (fun k => ?_) (power_l n hn d (i + 1) (by omega))
    have hp : (2 : Int) ^ i ≤ 1048576 := by
      have : (2 : Nat) ^ i ≤ 2 ^ 20 := Nat.pow_le_pow_right (by omega) (by omega)
      have h2 : ((2 ^ i : Nat) : Int) ≤ ((2 ^ 20 : Nat) : Int) := by exact_mod_cast this
      simpa using h2
    have h0 : 0 ≤ (2 : Int) ^ i := Int.pow_nonneg (by omega)
    simp only [furrowworksref04_power.l0]
    rw [if_pos (by omega), wrap_id (a := 2 * 2 ^ i) (by omega) (by omega), wrap_id (a := (i : Int) + 1) (by omega) (by omega), Int.pow_succ, Int.mul_comm]
    norm_cast
theorem power_ev (n : Nat) (hn : n ≤ 20) : Ev (fun k => furrowworksref04_power.f k n) ((2 : Int) ^ n) := power_l n hn n 0 (by omega)
theorem size_l : ∀ (j s c : Nat), s < 2 ^ j → j ≤ 8 → c + j ≤ 100 → Ev (fun k => furrowworksref04_Size.l0 k s c) (((c + ones j s : Nat) : Int))
  | 0, s, c, h, _, _ => by
    obtain rfl : s = 0 := by simpa using h
    refine ⟨1, fun k hk => ?_⟩
    obtain ⟨k, rfl⟩ : ∃ m, k = m + 1 := ⟨k - 1, by omega⟩
    simp only [furrowworksref04_Size.l0]
    rw [if_neg (by omega)]
    simp [ones]
  | j + 1, s, c, h, hj, hc => by
    have hs : s < 256 := Nat.lt_of_lt_of_le h (Nat.pow_le_pow_right (by omega) hj : 2 ^ (j + 1) ≤ 2 ^ 8)
    by_cases h0 : s = 0
    · subst h0
      have : ∀ j, ones j 0 = 0 := fun j => by induction j with
        | zero => rfl
        | succ j ih => simp [ones, ih]
      refine ⟨1, fun k hk => ?_⟩
      obtain ⟨k, rfl⟩ : ∃ m, k = m + 1 := ⟨k - 1, by omega⟩
      simp only [furrowworksref04_Size.l0]
      rw [if_neg (by omega), this]
      rfl
    · have ih := size_l j (s / 2) (c + s % 2) (by rw [Nat.pow_succ] at h; omega) (by omega) (by omega)
      refine Ev.step (f := fun k => furrowworksref04_Size.l0 k ((s / 2 : Nat) : Int) ((c + s % 2 : Nat) : Int)) (fun k => ?_) (by simpa [ones, Nat.add_assoc] using ih)
      simp only [furrowworksref04_Size.l0]
      have e1 : Int.tdiv (s : Int) 2 = ((s / 2 : Nat) : Int) := by rw [Int.tdiv_eq_ediv_of_nonneg (by omega)]; omega
      have e2 : Int.tmod (s : Int) 2 = ((s % 2 : Nat) : Int) := by rw [Int.tmod_eq_emod_of_nonneg (by omega)]; omega
      rw [if_pos (by omega), e1, e2, wrap_id (by omega) (by omega), wrap_id (by omega) (by omega)]
      norm_cast
theorem ones_le8 (j s : Nat) (h : s < 2 ^ j) (hj : j ≤ 8) : ones j s = ones 8 s := by
  have : ∀ (k j s : Nat), s < 2 ^ j → ones (j + k) s = ones j s := by
    intro k j
    induction j with
    | zero =>
      intro s h
      obtain rfl : s = 0 := by simpa using h
      have : ∀ j, ones j 0 = 0 := fun j => by induction j with
        | zero => rfl
        | succ j ih => simp [ones, ih]
      rw [this, this]
    | succ j ih =>
      intro s h
      rw [show j + 1 + k = (j + k) + 1 by omega]
      simp only [ones]
      rw [ih (s / 2) (by rw [Nat.pow_succ] at h; omega)]
  have := this (8 - j) j s h
  rw [show j + (8 - j) = 8 by omega] at this
  exact this.symm
theorem size_ev (s : Nat) (hs : s < 256) : Ev (fun k => furrowworksref04_Size.f k s) ((ones 8 s : Nat) : Int) := by
  have := size_l 8 s 0 hs (by omega) (by omega)
  rw [Nat.zero_add] at this
  exact this
/-- A bend of three offsets. -/
theorem bend_is (l : List Int) (n : Nat) (hl : l.length ≤ 100) (h1 : 1 ≤ n) (h2 : n + 1 < l.length) (hb : ∀ x ∈ l, -1000 ≤ x ∧ x ≤ 1000) : furrowworksref04_bend.f l n = some (bendI (l.getD (n - 1) 0) (l.getD n 0) (l.getD (n + 1) 0)) := by
  have g : ∀ i, i < l.length → -1000 ≤ l.getD i 0 ∧ l.getD i 0 ≤ 1000 := fun i hi => by
    rw [List.getD_eq_getElem?_getD, List.getElem?_eq_getElem hi]
    exact hb _ (List.getElem_mem hi)
  have a1 := g (n - 1) (by omega)
  have a2 := g n (by omega)
  have a3 := g (n + 1) (by omega)
  have n1 : wrap64 ((n : Int) - 1) = ((n - 1 : Nat) : Int) := by unfold wrap64; omega
  have n2 : wrap64 ((n : Int) + 1) = ((n + 1 : Nat) : Int) := by unfold wrap64; omega
  have r : ∀ i : Nat, rd l (i : Int) = l.getD i 0 := fun i => by unfold rd; rw [Int.toNat_natCast]
  unfold furrowworksref04_bend.f
  rw [n1, n2, r, r, r]
  generalize l.getD (n - 1) 0 = a at *
  generalize l.getD n 0 = b at *
  generalize l.getD (n + 1) 0 = c at *
  rw [if_pos (by omega), if_pos (by omega), if_pos (by omega), if_pos (by omega), if_pos (by omega), if_pos (by omega)]
  congr 1
  unfold mx bendI wrap64
  split <;> split <;> omega
end Go.Proofs.Ytafmgmaelnpehaa
end

section
namespace Go.Proofs.Ytafmgmaelnpehaa.PFurrowAsks
open Go.RowKit Go.Proofs.YtafmgmaelnpehaaW.PrintWords Go.Proofs.YtafmgmaelnpehaaW.PrintLast Go.Proofs.YtafmgmaelnpehaaW.PrintMore
attribute [local go_sem] max2_int min2_int max_two min_two max_three min_three max_four min_four   -- for this text's walks alone
set_option linter.unusedVariables false
set_option linter.unusedSimpArgs false

/-! ### furrowworksref04_Most: function 33 -/
def furrowworksref04_Most.l0 : Nat → List Int → Int → Int → Option (Int)
  | 0, _, _, _ => none
  | k + 1, x0, x3, x4 => if (wrap64 (x4 + 1)) < (x0.length : Int) then ((furrowworksref04_bend.f x0 x4).bind fun t167 => (furrowworksref04_Most.l0 k x0 (mx x3 t167) (wrap64 (x4 + 1)))) else (some x3)
def furrowworksref04_Most.f (k : Nat) (l0 : List Int) : Option (Int) := furrowworksref04_Most.l0 k l0 0 1
theorem furrowworksref04_Most.mono_l : ∀ k, (∀ y0 y1 y2, LeO (furrowworksref04_Most.l0 k y0 y1 y2) (furrowworksref04_Most.l0 (k + 1) y0 y1 y2))
  | 0 => fun _ _ _ r h => by simp [furrowworksref04_Most.l0] at h
  | k + 1 => by
    have ih0 := furrowworksref04_Most.mono_l k
    · intro y0 y1 y2
      unfold furrowworksref04_Most.l0
      repeat' first
      | (with_reducible exact ih0 _ _ _)
      | (with_reducible exact LeO.refl _)
      | (with_reducible exact LeO.none _)
      | (with_reducible refine LeO.ite ?_ ?_)
      | (with_reducible refine LeO.bind ?_ (fun _ => ?_))
      | exact ih0 _ _ _
      | exact LeO.none _
      | refine LeO.ite ?_ ?_
      | refine LeO.bind ?_ (fun _ => ?_)
theorem furrowworksref04_Most.mono : ∀ a0 k, LeO (furrowworksref04_Most.f k a0) (furrowworksref04_Most.f (k + 1) a0) := by
  intro a0 k
  have ih0 := furrowworksref04_Most.mono_l k
  unfold furrowworksref04_Most.f
  repeat' first
      | (with_reducible exact ih0 _ _ _)
      | (with_reducible exact LeO.refl _)
      | (with_reducible exact LeO.none _)
      | (with_reducible refine LeO.ite ?_ ?_)
      | (with_reducible refine LeO.bind ?_ (fun _ => ?_))
      | exact ih0 _ _ _
      | exact LeO.none _
      | refine LeO.ite ?_ ?_
      | refine LeO.bind ?_ (fun _ => ?_)
set_option maxHeartbeats 8000000 in
set_option maxRecDepth 100000 in
theorem furrowworksref04_Most.calls (k : Nat) (A0 : Option Addr) (c0 : Nat) (l0 : List Int) (r : Int) (w : World) (hr0 : Kd.C (Kd.int .i64) w A0 l0.length l0) (hc0 : l0.length ≤ c0) (h : furrowworksref04_Most.f k l0 = some r) :
    Calls Try.prog 33 #[.slice A0 l0.length c0] w fun e w' => e = .returned (.int .i64 r) ∧ Below w.heap.size w w' := by
  have HR0 := Aside0.mk hr0
  have HC0 := Aside0.mk hc0
  clear hr0 hc0
  have HB := Aside0.mk (Below.refl w.heap.size w)
  have H : (furrowworksref04_Most.l0 k l0 0 1) = some r := h
  clear h
  have H' := Aside0.mk H
  clear H
  go_enter Try.func33, Try.ntmps33
  go_wp2
  go_loopg [3, 4] k (fun kq v3 v4 w' => ∃ (x3_1 : Int) (x4_1 : Int), v3 = .int .i64 x3_1 ∧ v4 = .int .i64 x4_1 ∧ Aside0 (furrowworksref04_Most.l0 kq l0 x3_1 x4_1 = some r) ∧ Aside0 (kq ≤ k) ∧ Aside0 (Below w.heap.size w w'))
  case atStart => exact ⟨(0), (1), (by first | rfl | (simp; done) | (simp [*]; done)), (by first | rfl | (simp; done) | (simp [*]; done)), H', ⟨Nat.le_refl _⟩, ⟨by repeat (first | (with_reducible first | exact HB.out | apply below_alloc | apply pw_below_drewN | apply below_drew1) | exact HB.out)⟩⟩
  case round =>
    clear H'
    obtain ⟨x3_1, x4_1, rfl, rfl, HA, HK1, HB⟩ := hrel
    cases gk with
    | zero => exact absurd HA.out (by simp [furrowworksref04_Most.l0])
    | succ k1 =>
      have H := HA.out
      clear HA
      simp only [furrowworksref04_Most.l0] at H
      by_cases c2 : (wrap64 (x4_1 + 1)) < (l0.length : Int)
      · rw [if_pos c2] at H
        have c2b0 : decide ((wrap64 (x4_1 + 1)) < (l0.length : Int)) = true := decide_eq_true c2
        clear c2
        replace H := Option.bind_eq_some_iff.mp H
        obtain ⟨t167, A30, H⟩ := H
        replace H : (furrowworksref04_Most.l0 k1 l0 (mx x3_1 t167) (wrap64 (x4_1 + 1))) = some r := H
        have A3 := Aside0.mk A30
        clear A30
        obtain ⟨ji4, hji4⟩ : ∃ j_ : Int, (mx x3_1 t167) = j_ := ⟨_, rfl⟩
        replace H : (furrowworksref04_Most.l0 k1 l0 ji4 (wrap64 (x4_1 + 1))) = some r := by first | (rw [hji4] at H; exact H) | (simp only [hji4] at H ⊢; exact H)
        (try rw [hji4] at A3)
        have hji4_ : (if x3_1 < t167 then t167 else x3_1) = ji4 := hji4
        have H' := Aside0.mk H
        clear H
        go_wp2_with (first | ((with_reducible refine gate_callee (f := 55) rfl ?_); refine goesL_ (some 15) rfl rfl Try.func55 (by kernel_rfl) rfl #[.slice A0 l0.length c0, .int .i64 x4_1] rfl (by (try simp only [List.map_toArray, List.map_cons, List.map_nil]); first | done | rfl | (simp only [List.length_drop, List.length_take]; rfl)) ?_; (with_reducible refine (furrowworksref04_bend.calls _ _ l0 x4_1 t167 _ ?side1 ?side2 A3.out).mono ?_); (case side1 => repeat (first | exact (Kd.C_below HR0.out HB.out) | (with_reducible refine Kd.C_alloc ?_ _) | (with_reducible refine Kd.C_drewN ?_ _) | (with_reducible refine Kd.C_drew ?_))); (case side2 => exact HC0.out); rintro e w5 ⟨rfl, hb⟩; refine ⟨_, rfl, ?_⟩; have n0_ := Aside0.mk (below_step (by repeat (first | (with_reducible first | exact HB.out | apply below_alloc | apply pw_below_drewN | apply below_drew1) | exact HB.out)) hb); clear HB; have HB := n0_; clear n0_; (try clear hb); (try clear hb2); (try clear hk); (try clear hi)))
        go_roundg k1
        case measure => have := HK1.out; omega
        case rel => exact ⟨(ji4), (wrap64 (x4_1 + 1)), (by first | rfl | (simp; done) | (simp only [← hji4] <;> (first | rfl | simp)) | (simp [*]; done)), (by first | rfl | (simp; done) | (simp [*]; done)), H', ⟨by have := HK1.out; omega⟩, ⟨by repeat (first | (with_reducible first | exact HB.out | apply below_alloc | apply pw_below_drewN | apply below_drew1) | exact HB.out)⟩⟩
      · rw [if_neg c2] at H
        have c2b0 : decide ((wrap64 (x4_1 + 1)) < (l0.length : Int)) = false := decide_eq_false c2
        clear c2
        obtain rfl := Option.some.inj H
        go_wp2
        go_ret
        exact ⟨by first | rfl | (simp [errW_none, errW_some] <;> rfl) | (simp [*, errW_none, errW_some] <;> rfl), by repeat (first | (with_reducible first | exact HB.out | apply below_alloc | apply pw_below_drewN | apply below_drew1) | exact HB.out)⟩

end Go.Proofs.Ytafmgmaelnpehaa.PFurrowAsks
end

section
namespace Go.Proofs.Ytafmgmaelnpehaa.PFurrowAsks
open Go.RowKit Go.Proofs.YtafmgmaelnpehaaW.PrintWords Go.Proofs.YtafmgmaelnpehaaW.PrintLast Go.Proofs.YtafmgmaelnpehaaW.PrintMore
attribute [local go_sem] max2_int min2_int max_two min_two max_three min_three max_four min_four   -- for this text's walks alone
set_option linter.unusedVariables false
set_option linter.unusedSimpArgs false

/-! ### furrowworkslaw04_inside: function 34 -/
def furrowworkslaw04_inside.f (a0 : Int) (a1_0 : Int) (a1_1 : Int) : Option (Bool) := if a1_0 ≤ a0 then (some (decide (a0 ≤ a1_1))) else (some false)
set_option maxHeartbeats 8000000 in
set_option maxRecDepth 100000 in
theorem furrowworkslaw04_inside.calls (a0 : Int) (a1_0 : Int) (a1_1 : Int) (r : Bool) (w : World) (h : furrowworkslaw04_inside.f a0 a1_0 a1_1 = some r) :
    Calls Try.prog 34 #[.int .i64 a0, .agg #[.int .i64 a1_0, .int .i64 a1_1]] w fun e w' => e = .returned (.bool r) ∧ Below w.heap.size w w' := by
  have hu28 := Try.underlying28
  have HB := Aside0.mk (Below.refl w.heap.size w)
  have H : (if a1_0 ≤ a0 then (some (decide (a0 ≤ a1_1))) else (some false)) = some r := h
  clear h
  by_cases c3 : a1_0 ≤ a0
  · rw [if_pos c3] at H
    have c3b0 : decide (a1_0 ≤ a0) = true := decide_eq_true c3
    clear c3
    obtain rfl := Option.some.inj H
    go_enter Try.func34, Try.ntmps34
    go_wp2_with (first | ((with_reducible refine gate_dst (N := 3) rfl ?_); refine box_event ?hg (N := 3) ?hd (cs := #[.int .i64 a1_0, .int .i64 a1_1]) (t := 28) ?hr ?_; (case hd => rfl); (case hg => rfl); (case hr => first | (go_simp; done) | (go_simp; rfl)); intro gb359 hg w4 hbox hb; have n0_ := Aside0.mk (below_step (by repeat (first | (with_reducible first | exact HB.out | apply below_alloc | apply pw_below_drewN | apply below_drew1) | exact HB.out)) hb); have n1_ := Aside0.mk (hbox); have n2_ := Aside0.mk ((by rw [hg]; exact (below_size (by repeat (first | (with_reducible first | exact HB.out | apply below_alloc | apply pw_below_drewN | apply below_drew1) | exact HB.out))) : w.heap.size ≤ gb359)); have n3_ := Aside0.mk ((by rw [hg]; exact (below_size (by repeat (first | (with_reducible first | exact HB.out | apply below_alloc | apply pw_below_drewN | apply below_drew1) | exact HB.out))) : w.heap.size ≤ gb359)); clear HB; have HB := n0_; have BK359 := n1_; have GW359 := n2_; have GE359 := n3_; clear n0_ n1_ n2_ n3_; clear hb hbox hg; have hcz5_0 : w4.cell? ⟨gb359, 0, none⟩ = some (.int .i64 a1_0) := (blk_cell BK359.out 0).trans rfl; have hcz5_1 : w4.cell? ⟨gb359, 1, none⟩ = some (.int .i64 a1_1) := (blk_cell BK359.out 1).trans rfl; have hfz5_0 := blk_frozen BK359.out 0; have hfz5_1 := blk_frozen BK359.out 1))
    go_ret
    exact ⟨by first | rfl | (simp [errW_none, errW_some] <;> rfl) | (simp [*, errW_none, errW_some] <;> rfl), by repeat (first | (with_reducible first | exact HB.out | apply below_alloc | apply pw_below_drewN | apply below_drew1 | refine below_set ?_ GE359.out) | exact HB.out)⟩
  · rw [if_neg c3] at H
    have c3b0 : decide (a1_0 ≤ a0) = false := decide_eq_false c3
    clear c3
    obtain rfl := Option.some.inj H
    go_enter Try.func34, Try.ntmps34
    go_wp2_with (first | ((with_reducible refine gate_dst (N := 3) rfl ?_); refine box_event ?hg (N := 3) ?hd (cs := #[.int .i64 a1_0, .int .i64 a1_1]) (t := 28) ?hr ?_; (case hd => rfl); (case hg => rfl); (case hr => first | (go_simp; done) | (go_simp; rfl)); intro gb359 hg w6 hbox hb; have n0_ := Aside0.mk (below_step (by repeat (first | (with_reducible first | exact HB.out | apply below_alloc | apply pw_below_drewN | apply below_drew1) | exact HB.out)) hb); have n1_ := Aside0.mk (hbox); have n2_ := Aside0.mk ((by rw [hg]; exact (below_size (by repeat (first | (with_reducible first | exact HB.out | apply below_alloc | apply pw_below_drewN | apply below_drew1) | exact HB.out))) : w.heap.size ≤ gb359)); have n3_ := Aside0.mk ((by rw [hg]; exact (below_size (by repeat (first | (with_reducible first | exact HB.out | apply below_alloc | apply pw_below_drewN | apply below_drew1) | exact HB.out))) : w.heap.size ≤ gb359)); clear HB; have HB := n0_; have BK359 := n1_; have GW359 := n2_; have GE359 := n3_; clear n0_ n1_ n2_ n3_; clear hb hbox hg; have hcz7_0 : w6.cell? ⟨gb359, 0, none⟩ = some (.int .i64 a1_0) := (blk_cell BK359.out 0).trans rfl; have hcz7_1 : w6.cell? ⟨gb359, 1, none⟩ = some (.int .i64 a1_1) := (blk_cell BK359.out 1).trans rfl; have hfz7_0 := blk_frozen BK359.out 0; have hfz7_1 := blk_frozen BK359.out 1))
    go_ret
    exact ⟨by first | rfl | (simp [errW_none, errW_some] <;> rfl) | (simp [*, errW_none, errW_some] <;> rfl), by repeat (first | (with_reducible first | exact HB.out | apply below_alloc | apply pw_below_drewN | apply below_drew1 | refine below_set ?_ GE359.out) | exact HB.out)⟩

end Go.Proofs.Ytafmgmaelnpehaa.PFurrowAsks
end

section
namespace Go.Proofs.Ytafmgmaelnpehaa.PFurrowAsks
open Go.RowKit Go.Proofs.YtafmgmaelnpehaaW.PrintWords Go.Proofs.YtafmgmaelnpehaaW.PrintLast Go.Proofs.YtafmgmaelnpehaaW.PrintMore
attribute [local go_sem] max2_int min2_int max_two min_two max_three min_three max_four min_four   -- for this text's walks alone
set_option linter.unusedVariables false
set_option linter.unusedSimpArgs false

/-! ### furrowworksref04_Bent: function 35 -/
def furrowworksref04_Bent.f (l0 : List Int) (a1 : Int) : Option (Int) := (furrowworksref04_bend.f l0 a1).bind fun t360 => (some t360)
set_option maxHeartbeats 8000000 in
set_option maxRecDepth 100000 in
theorem furrowworksref04_Bent.calls (A0 : Option Addr) (c0 : Nat) (l0 : List Int) (a1 : Int) (r : Int) (w : World) (hr0 : Kd.C (Kd.int .i64) w A0 l0.length l0) (hc0 : l0.length ≤ c0) (h : furrowworksref04_Bent.f l0 a1 = some r) :
    Calls Try.prog 35 #[.slice A0 l0.length c0, .int .i64 a1] w fun e w' => e = .returned (.int .i64 r) ∧ Below w.heap.size w w' := by
  have HR0 := Aside0.mk hr0
  have HC0 := Aside0.mk hc0
  clear hr0 hc0
  have HB := Aside0.mk (Below.refl w.heap.size w)
  have H : ((furrowworksref04_bend.f l0 a1).bind fun t360 => (some t360)) = some r := h
  clear h
  replace H := Option.bind_eq_some_iff.mp H
  obtain ⟨t360, A30, H⟩ := H
  replace H : (some t360) = some r := H
  have A3 := Aside0.mk A30
  clear A30
  obtain rfl := Option.some.inj H
  go_enter Try.func35, Try.ntmps35
  go_wp2_with (first | ((with_reducible refine gate_callee (f := 55) rfl ?_); refine goesL_ (some 7) rfl rfl Try.func55 (by kernel_rfl) rfl #[.slice A0 l0.length c0, .int .i64 a1] rfl (by (try simp only [List.map_toArray, List.map_cons, List.map_nil]); first | done | rfl | (simp only [List.length_drop, List.length_take]; rfl)) ?_; (with_reducible refine (furrowworksref04_bend.calls _ _ l0 a1 t360 _ ?side1 ?side2 A3.out).mono ?_); (case side1 => repeat (first | exact HR0.out | (with_reducible refine Kd.C_alloc ?_ _) | (with_reducible refine Kd.C_drewN ?_ _) | (with_reducible refine Kd.C_drew ?_))); (case side2 => exact HC0.out); rintro e w4 ⟨rfl, hb⟩; refine ⟨_, rfl, ?_⟩; have n0_ := Aside0.mk (below_step (by repeat (first | (with_reducible first | exact HB.out | apply below_alloc | apply pw_below_drewN | apply below_drew1) | exact HB.out)) hb); clear HB; have HB := n0_; clear n0_; (try clear hb); (try clear hb2); (try clear hk); (try clear hi)))
  go_ret
  exact ⟨by first | rfl | (simp [errW_none, errW_some] <;> rfl) | (simp [*, errW_none, errW_some] <;> rfl), by repeat (first | (with_reducible first | exact HB.out | apply below_alloc | apply pw_below_drewN | apply below_drew1) | exact HB.out)⟩

end Go.Proofs.Ytafmgmaelnpehaa.PFurrowAsks
end

section
set_option linter.unusedVariables false
set_option linter.unusedSimpArgs false
namespace Go.Proofs.Ytafmgmaelnpehaa
open Go.RowKit Go.Fu PFurrowAsks Go.Proofs.YtafmgmaelnpehaaW.PrintWords
/-- A list of offsets, as a function of the station. -/
def fnOf (l : List Int) (i : Nat) : Int := l.getD i 0
theorem bend_fn (l : List Int) (n : Nat) (hl : l.length ≤ 100) (h1 : 1 ≤ n) (h2 : n + 1 < l.length) (hb : ∀ x ∈ l, -1000 ≤ x ∧ x ≤ 1000) : furrowworksref04_bend.f l n = some (bnd (fnOf l) n) := bend_is l n hl h1 h2 hb
theorem bent_is (l : List Int) (n : Nat) (hl : l.length ≤ 100) (h1 : 1 ≤ n) (h2 : n + 1 < l.length) (hb : ∀ x ∈ l, -1000 ≤ x ∧ x ≤ 1000) : furrowworksref04_Bent.f l n = some (bnd (fnOf l) n) := by
  unfold furrowworksref04_Bent.f
  rw [bend_fn l n hl h1 h2 hb]
  rfl
theorem most_l (l : List Int) (hl : l.length ≤ 100) (hb : ∀ x ∈ l, -1000 ≤ x ∧ x ≤ 1000) : ∀ (d i : Nat), i + d = l.length - 2 → Ev (fun k => furrowworksref04_Most.l0 k l (mostF (fnOf l) i) ((i + 1 : Nat) : Int)) (mostF (fnOf l) (l.length - 2))
  | 0, i, hd => by
    refine ⟨1, fun k hk => ?_⟩
    obtain ⟨m, rfl⟩ : ∃ m, k = m + 1 := ⟨k - 1, by omega⟩
    simp only [furrowworksref04_Most.l0]
    have hw : wrap64 (((i + 1 : Nat) : Int) + 1) = ((i + 2 : Nat) : Int) := by unfold wrap64; omega
    rw [hw, if_neg (by omega), show i = l.length - 2 by omega]
  | d + 1, i, hd => by
    have ih := most_l l hl hb d (i + 1) (by omega)
    refine Ev.step (fun k => ?_) ih
    simp only [furrowworksref04_Most.l0]
    have hw : wrap64 (((i + 1 : Nat) : Int) + 1) = ((i + 2 : Nat) : Int) := by unfold wrap64; omega
    rw [hw, if_pos (by omega), bend_fn l (i + 1) hl (by omega) (by omega) hb]
    have e : mx (mostF (fnOf l) i) (bnd (fnOf l) (i + 1)) = mostF (fnOf l) (i + 1) := by
      show mx _ _ = (if mostF (fnOf l) i < bnd (fnOf l) (i + 1) then bnd (fnOf l) (i + 1) else mostF (fnOf l) i)
      unfold mx
      split <;> (try split) <;> omega
    rw [Option.bind_some, e]
theorem most_is (l : List Int) (hl : l.length ≤ 100) (hb : ∀ x ∈ l, -1000 ≤ x ∧ x ≤ 1000) : ∃ k, furrowworksref04_Most.f k l = some (mostF (fnOf l) (l.length - 2)) := (most_l l hl hb (l.length - 2) 0 (by omega)).rounds
theorem inside_is (n a b : Int) : furrowworkslaw04_inside.f n a b = some (decide (a ≤ n) && decide (n ≤ b)) := by
  unfold furrowworkslaw04_inside.f
  by_cases h1 : a ≤ n <;> simp [h1]
/-! ### Bits -/
theorem andb_all : (List.range 256).all (fun s => (List.range 8).all fun k => bits .and .i64 ((s : Int) / 2 ^ k) 1 == ((s / 2 ^ k % 2 : Nat) : Int)) = true := by kernel_rfl
theorem andb_is (s k : Nat) (hs : s < 256) (hk : k < 8) : bits .and .i64 ((s : Int) / 2 ^ k) 1 = ((s / 2 ^ k % 2 : Nat) : Int) := by
  have h := List.all_eq_true.1 andb_all s (List.mem_range.2 hs)
  have h2 := List.all_eq_true.1 h k (List.mem_range.2 hk)
  exact eq_of_beq h2
theorem andn_all : (List.range 128).all (fun a => (List.range 128).all fun b => bits .andNot .i64 (a : Int) (b : Int) == 0 || (List.range 7).any fun i => a / 2 ^ i % 2 == 1 && b / 2 ^ i % 2 == 0) = true := by kernel_rfl
theorem andn_is (a b : Nat) (ha : a < 128) (hb : b < 128) (h : ∀ i, i < 7 → a / 2 ^ i % 2 = 1 → b / 2 ^ i % 2 = 1) : bits .andNot .i64 (a : Int) (b : Int) = 0 := by
  have h1 := List.all_eq_true.1 andn_all a (List.mem_range.2 ha)
  have h2 := List.all_eq_true.1 h1 b (List.mem_range.2 hb)
  rcases Bool.or_eq_true_iff.1 h2 with h3 | h3
  · exact eq_of_beq h3
  · obtain ⟨i, hi, h4⟩ := List.any_eq_true.1 h3
    rw [Bool.and_eq_true, beq_iff_eq, beq_iff_eq] at h4
    have := h i (List.mem_range.1 hi) h4.1
    omega
theorem set_sub {p q : Nat → Bool} {n : Nat} (h : ∀ i, i < n → p i = true → q i = true) (i : Nat) (hi : setN p n / 2 ^ i % 2 = 1) : setN q n / 2 ^ i % 2 = 1 := by
  rw [setN_bit] at hi ⊢
  split at hi
  · rename_i hc
    rw [if_pos ⟨hc.1, h i hc.1 hc.2⟩]
  · cases hi
/-! ### Other offsets, by numbers -/
def byAt (bs : List Int) (k : Nat) : Int := if bs.length = 0 then 0 else bs.getD (k % bs.length) 0
def oneX (l : List (Int × Int)) (bs : List Int) (k : Nat) : Int := (l.getD k (0, 0)).1 + (if bs.length = 0 then 0 else bs.getD (k % bs.length) 0 % ((l.getD k (0, 0)).2 - (l.getD k (0, 0)).1 + 1))
def oneL (l : List (Int × Int)) (bs : List Int) (n k : Nat) : List Int := (List.range n).map fun i => if i < k then oneX l bs i else 0
theorem oneL_len (l : List (Int × Int)) (bs : List Int) (n k : Nat) : (oneL l bs n k).length = n := by simp [oneL]
theorem oneL_zero (l : List (Int × Int)) (bs : List Int) (n : Nat) : oneL l bs n 0 = List.replicate n 0 := by
  apply List.ext_getElem
  · simp [oneL]
  · intro i h1 h2; simp [oneL]
theorem oneL_set (l : List (Int × Int)) (bs : List Int) (n k : Nat) (h : k < n) : (oneL l bs n k).set k (oneX l bs k) = oneL l bs n (k + 1) := by
  apply List.ext_getElem
  · simp [oneL]
  · intro i h1 h2
    rw [List.getElem_set]
    simp only [oneL, List.getElem_map, List.getElem_range]
    by_cases e : k = i
    · subst e; simp
    · rw [if_neg e]
      by_cases e2 : i < k
      · rw [if_pos e2, if_pos (by omega)]
      · rw [if_neg e2, if_neg (by omega)]
theorem oneX_in {l : List (Int × Int)} (hok : ∀ x ∈ l, okSpan x) {bs : List Int} (hbs : ∀ b ∈ bs, 0 ≤ b ∧ b ≤ 255) (k : Nat) (hk : k < l.length) : InS l k (oneX l bs k) := by
  obtain ⟨h1, h2, h3⟩ := hok _ (getD_mem l k hk)
  unfold InS oneX
  split
  · omega
  · have := Int.emod_nonneg (bs.getD (k % bs.length) 0) (show (l.getD k (0, 0)).2 - (l.getD k (0, 0)).1 + 1 ≠ 0 by omega)
    have := Int.emod_lt_of_pos (bs.getD (k % bs.length) 0) (show 0 < (l.getD k (0, 0)).2 - (l.getD k (0, 0)).1 + 1 by omega)
    omega
theorem one_truth {l : List (Int × Int)} (hok : ∀ x ∈ l, okSpan x) {bs : List Int} (hbs : ∀ b ∈ bs, 0 ≤ b ∧ b ≤ 255) : Truth l (fnOf (oneL l bs l.length l.length)) := by
  intro i hi
  have : fnOf (oneL l bs l.length l.length) i = oneX l bs i := by simp [fnOf, oneL, List.getD_eq_getElem?_getD, hi]
  rw [this]
  exact oneX_in hok hbs i hi
theorem truth_bd {l : List (Int × Int)} (hok : ∀ x ∈ l, okSpan x) {xs : List Int} (hx : xs.length = l.length) (ht : Truth l (fnOf xs)) : ∀ x ∈ xs, -1000 ≤ x ∧ x ≤ 1000 := by
  intro x hxm
  obtain ⟨i, hi, rfl⟩ := List.getElem_of_mem hxm
  have h1 := ht i (by omega)
  obtain ⟨h2, h3, h4⟩ := hok _ (getD_mem l i (by omega))
  unfold fnOf at h1
  rw [show xs.getD i 0 = xs[i] by simp [List.getD_eq_getElem?_getD, hi]] at h1
  obtain ⟨h5, h6⟩ := h1
  omega
end Go.Proofs.Ytafmgmaelnpehaa
end

section
set_option linter.unusedVariables false
set_option linter.unusedSimpArgs false
namespace Go.Proofs.Ytafmgmaelnpehaa
open Go.RowKit Go.Fu
theorem strF_succ (m : Nat) (l : List (Int × Int)) (k : Nat) : strF m l (k + 1) = strStep m (strF m l k) k := by
  unfold strF
  rw [List.range_succ, List.foldl_append]
  rfl
structure StrInv (l : List (Int × Int)) (m k : Nat) (s : List (Int × Int) × List Int) : Prop where
  a : s.2.length = k
  b : s.1.length = l.length
  c : ∀ i, i < l.length → s.1.getD i (0, 0) = if i < k then (s.2.getD i 0, s.2.getD i 0) else l.getD i (0, 0)
  d : ∀ i, i < k → InS l i (s.2.getD i 0)
  e : canB s.1 (upP m) = true
  f : ∀ x, Truth l x → mostL l x ≤ m → ∀ i, i < k → (∀ j, j < i → x j = s.2.getD j 0) → x i ≠ s.2.getD i 0 → s.2.getD i 0 < x i
theorem find_first (lo hi : Int) (p : Int → Bool) (o : Int) (h : (spanL (lo, hi)).find? p = some o) : p o = true ∧ lo ≤ o ∧ o ≤ hi ∧ ∀ a, lo ≤ a → a < o → p a = false := by
  have h1 := List.find?_some h
  have h2 := (mem_spanL (lo, hi) o).1 (List.mem_of_find?_eq_some h)
  refine ⟨h1, h2.1, h2.2, fun a ha hlt => ?_⟩
  obtain ⟨_, i, hil, he, hall⟩ := List.find?_eq_some_iff_getElem.1 h
  have hg : ∀ j (hj : j < (spanL (lo, hi)).length), (spanL (lo, hi))[j] = lo + j := by
    intro j hj
    unfold spanL at hj ⊢
    exact ints_get _ _ _ _
  rw [hg] at he
  have := hall (a - lo).toNat (by omega)
  rw [hg] at this
  rw [show lo + (((a - lo).toNat : Nat) : Int) = a by omega] at this
  simpa using this
theorem str_step {l : List (Int × Int)} (hok : ∀ x ∈ l, okSpan x) {m k : Nat} (hk : k < l.length) {s : List (Int × Int) × List Int} (h : StrInv l m k s) : StrInv l m (k + 1) (strStep m s k) := by
  have hl : ∀ i, i < l.length → okSpan (l.getD i (0, 0)) := fun i hi => hok _ (getD_mem l i hi)
  have okset : ∀ o, InS l k o → ∀ x ∈ s.1.set k (o, o), okSpan x := by
    intro o ho x hx
    obtain ⟨i, hi, rfl⟩ := List.getElem_of_mem hx
    have hi' : i < l.length := by rw [List.length_set, h.b] at hi; exact hi
    have e : (s.1.set k (o, o))[i]'hi = (s.1.set k (o, o)).getD i (0, 0) := by rw [List.getD_eq_getElem?_getD, List.getElem?_eq_getElem hi]; rfl
    rw [e, getD_set _ _ _ _ _ (by rw [h.b]; exact hk), h.c i hi']
    obtain ⟨a1, a2, a3⟩ := hl i hi'
    by_cases e1 : i = k
    · subst e1
      rw [if_pos rfl]
      obtain ⟨b1, b2⟩ := ho
      exact ⟨by show _ ≤ o; omega, Int.le_refl _, by show o ≤ _; omega⟩
    · rw [if_neg e1]
      by_cases e2 : i < k
      · rw [if_pos e2]
        obtain ⟨b1, b2⟩ := h.d i e2
        exact ⟨by show _ ≤ s.2.getD i 0; omega, Int.le_refl _, by show s.2.getD i 0 ≤ _; omega⟩
      · rw [if_neg e2]; exact hl i hi'
  have oks : ∀ x ∈ s.1, okSpan x := by
    intro x hx
    obtain ⟨i, hi, rfl⟩ := List.getElem_of_mem hx
    have hi' : i < l.length := by rw [h.b] at hi; exact hi
    have e : s.1[i]'hi = s.1.getD i (0, 0) := by rw [List.getD_eq_getElem?_getD, List.getElem?_eq_getElem hi]; rfl
    rw [e, h.c i hi']
    obtain ⟨a1, a2, a3⟩ := hl i hi'
    by_cases e2 : i < k
    · rw [if_pos e2]
      obtain ⟨b1, b2⟩ := h.d i e2
      exact ⟨by show _ ≤ s.2.getD i 0; omega, Int.le_refl _, by show s.2.getD i 0 ≤ _; omega⟩
    · rw [if_neg e2]; exact hl i hi'
  have hset : ∀ o i, i < l.length → (s.1.set k (o, o)).getD i (0, 0) = if i = k then (o, o) else if i < k then (s.2.getD i 0, s.2.getD i 0) else l.getD i (0, 0) := fun o i hi => by
    rw [getD_set _ _ _ _ _ (by rw [h.b]; exact hk), h.c i hi]
  -- a truth that goes so far with it shows that its next offset will do
  have works : ∀ x, Truth l x → mostL l x ≤ m → (∀ j, j < k → x j = s.2.getD j 0) → canB (s.1.set k (x k, x k)) (upP m) = true := by
    intro x hx hm hj
    refine (canB_most (okset (x k) (hx k hk)) (m := (m : Int)) (by omega)).2 ⟨x, fun i hi => ?_, ?_⟩
    · have hi' : i < l.length := by rw [List.length_set, h.b] at hi; exact hi
      unfold InS
      rw [hset _ i hi']
      by_cases e1 : i = k
      · subst e1; rw [if_pos rfl]; exact ⟨Int.le_refl _, Int.le_refl _⟩
      · rw [if_neg e1]
        by_cases e2 : i < k
        · rw [if_pos e2, hj i e2]; exact ⟨Int.le_refl _, Int.le_refl _⟩
        · rw [if_neg e2]; exact hx i hi'
    · unfold mostL at *
      rw [List.length_set, h.b]
      exact hm
  obtain ⟨y, hy, hym⟩ := (canB_most oks (m := (m : Int)) (by omega)).1 h.e
  have hyt : Truth l y := by
    intro i hi
    have h1 := hy i (by rw [h.b]; exact hi)
    unfold InS at h1
    rw [h.c i hi] at h1
    by_cases e2 : i < k
    · rw [if_pos e2] at h1
      rw [show y i = s.2.getD i 0 from Int.le_antisymm h1.2 h1.1]
      exact h.d i e2
    · rw [if_neg e2] at h1; exact h1
  have hyj : ∀ j, j < k → y j = s.2.getD j 0 := by
    intro j hj
    have h1 := hy j (by rw [h.b]; omega)
    unfold InS at h1
    rw [h.c j (by omega), if_pos hj] at h1
    exact Int.le_antisymm h1.2 h1.1
  have hyl : mostL l y ≤ m := by unfold mostL at *; rw [h.b] at hym; exact hym
  have hw := works y hyt hyl hyj
  have hck : s.1.getD k (0, 0) = l.getD k (0, 0) := by rw [h.c k hk, if_neg (Nat.lt_irrefl _)]
  unfold strStep
  rw [hck]
  obtain ⟨lo, hi, hlh⟩ : ∃ lo hi, l.getD k (0, 0) = (lo, hi) := ⟨_, _, rfl⟩
  rw [hlh]
  cases hf : (spanL (lo, hi)).find? (fun o => canB (s.1.set k (o, o)) (upP m)) with
  | none =>
    have := List.find?_eq_none.1 hf (y k) ((mem_spanL (lo, hi) (y k)).2 (by have := hyt k hk; unfold InS at this; rw [hlh] at this; exact this))
    exact absurd hw this
  | some o =>
    obtain ⟨h1, h2, h3, h4⟩ := find_first lo hi _ o hf
    have hoI : InS l k o := by unfold InS; rw [hlh]; exact ⟨h2, h3⟩
    have happ : ∀ i, i < k → (s.2 ++ [o]).getD i 0 = s.2.getD i 0 := fun i hi => by simp [List.getD_eq_getElem?_getD, h.a, hi, List.getElem?_append]
    have happk : (s.2 ++ [o]).getD k 0 = o := by simp [List.getD_eq_getElem?_getD, h.a, List.getElem?_append]
    refine ⟨by simp [h.a], by simp [h.b], fun i hi => ?_, fun i hi => ?_, h1, fun x hx hm i hi hj hne => ?_⟩
    · show (s.1.set k (o, o)).getD i (0, 0) = _
      rw [hset o i hi]
      by_cases e1 : i = k
      · subst e1; rw [if_pos rfl, if_pos (by omega)]; show _ = ((s.2 ++ [o]).getD i 0, (s.2 ++ [o]).getD i 0); rw [happk]
      · rw [if_neg e1]
        by_cases e2 : i < k
        · rw [if_pos e2, if_pos (by omega)]; show _ = ((s.2 ++ [o]).getD i 0, (s.2 ++ [o]).getD i 0); rw [happ i e2]
        · rw [if_neg e2, if_neg (by omega)]
    · show InS l i ((s.2 ++ [o]).getD i 0)
      by_cases e1 : i = k
      · subst e1; rw [happk]; exact hoI
      · rw [happ i (by omega)]; exact h.d i (by omega)
    · have hj' : ∀ j, j < i → x j = (s.2 ++ [o]).getD j 0 := hj
      have hne' : x i ≠ (s.2 ++ [o]).getD i 0 := hne
      show (s.2 ++ [o]).getD i 0 < x i
      by_cases e1 : i = k
      · subst e1
        rw [happk] at hne' ⊢
        refine Int.not_le.1 fun hle => ?_
        have hxl := hx i hk
        unfold InS at hxl
        rw [hlh] at hxl
        have := h4 (x i) hxl.1 (by omega)
        rw [works x hx hm fun j hj2 => by rw [hj' j hj2, happ j hj2]] at this
        cases this
      · rw [happ i (by omega)] at hne' ⊢
        exact h.f x hx hm i (by omega) (fun j hj2 => by rw [hj' j hj2, happ j (by omega)]) hne'
theorem str_inv {l : List (Int × Int)} (hok : ∀ x ∈ l, okSpan x) : ∀ k, k ≤ l.length → StrInv l (leastN l) k (strF (leastN l) l k)
  | 0, _ => ⟨rfl, rfl, fun i hi => by rw [if_neg (by omega)]; rfl, fun i hi => by omega, (leastN_is l hok).1, fun x hx hm i hi => by omega⟩
  | k + 1, hk => by
    rw [strF_succ]
    exact str_step hok (by omega) (str_inv hok k (by omega))
structure StrSpec (l : List (Int × Int)) (o : List Int) : Prop where
  len : o.length = l.length
  tr : Truth l (fnOf o)
  most : mostL l (fnOf o) = leastN l
  first : ∀ x, Truth l x → mostL l x ≤ leastN l → ∀ i, i < l.length → (∀ j, j < i → x j = fnOf o j) → x i ≠ fnOf o i → fnOf o i < x i
theorem str_spec {l : List (Int × Int)} (hok : ∀ x ∈ l, okSpan x) : StrSpec l (strF (leastN l) l l.length).2 := by
  have h := str_inv hok l.length (Nat.le_refl _)
  generalize strF (leastN l) l l.length = s at *
  have ht : Truth l (fnOf s.2) := fun i hi => h.d i hi
  refine ⟨h.a, ht, ?_, fun x hx hm i hi hj hne => h.f x hx hm i hi hj hne⟩
  have oks : ∀ x ∈ s.1, okSpan x := by
    intro x hx
    obtain ⟨i, hi, rfl⟩ := List.getElem_of_mem hx
    have hi' : i < l.length := by rw [h.b] at hi; exact hi
    have e : s.1[i]'hi = s.1.getD i (0, 0) := by rw [List.getD_eq_getElem?_getD, List.getElem?_eq_getElem hi]; rfl
    rw [e, h.c i hi', if_pos hi']
    obtain ⟨a1, a2, a3⟩ := hok _ (getD_mem l i hi')
    obtain ⟨b1, b2⟩ := h.d i hi'
    exact ⟨by show _ ≤ s.2.getD i 0; omega, Int.le_refl _, by show s.2.getD i 0 ≤ _; omega⟩
  obtain ⟨y, hy, hym⟩ := (canB_most oks (m := ((leastN l : Nat) : Int)) (by omega)).1 h.e
  have hyj : ∀ j, j < l.length → y j = fnOf s.2 j := by
    intro j hj
    have h1 := hy j (by rw [h.b]; exact hj)
    unfold InS at h1
    rw [h.c j hj, if_pos hj] at h1
    exact Int.le_antisymm h1.2 h1.1
  have hle : mostL l (fnOf s.2) ≤ leastN l := by
    refine (mostL_le (by omega)).2 fun n h1 h2 => ?_
    rw [bnd_congr (y := y) (hyj _ (by omega)).symm (hyj _ (by omega)).symm (hyj _ (by omega)).symm]
    exact (mostL_le (l := s.1) (by omega)).1 hym n h1 (by rw [h.b]; exact h2)
  have := (least_spec l hok).2 _ ht
  omega
end Go.Proofs.Ytafmgmaelnpehaa
end

section
set_option linter.unusedVariables false
set_option linter.unusedSimpArgs false
namespace Go.Proofs.Ytafmgmaelnpehaa
open Go.RowKit Go.TL Go.Shelf Go.Fu
attribute [local go_sem] Oper.semAt_some
open PFurrowAsks Go.Proofs.YtafmgmaelnpehaaW.PrintWords
abbrev RowB (w : World) (A : Option Addr) (l : List Int) : Prop := ReadsInt w .u8 A l.length l
theorem ints_set (l : List Int) (k : Nat) (v : Int) : (l.map (Value.int .i64)).set k (.int .i64 v) = (l.set k v).map (Value.int .i64) := by rw [List.map_set]
theorem own_book {w : World} {base n : Nat} {e : TypeId} {sz : Nat} {v : Value} {xs : List Value} (h : w.ownsRow base e sz v n xs) : ∀ j o, v.ownBlock = some j → w.heap[j]? = some o → book o = false := by
  intro j o hv ho
  rcases h.2 with ⟨rfl, _⟩ | ⟨g', cap', cur, rfl, _, hg', _⟩
  · simp [Value.ownBlock] at hv
  · simp only [Value.ownBlock, Option.some.injEq] at hv
    subst hv
    rw [hg'] at ho
    cases ho
    rfl
/-- What the loop keeps. -/
structure OneK (F : Fur) (V : World) (nb : Nat) (Ab : Option Addr) (bs : List Int) : Prop where
  at_ : F.At V
  box : Box3 V nb 24 F.s0 F.s1 F.s2
  by_ : RowB V Ab bs
  le : F.l0.length ≤ 8
  ok : ∀ x ∈ F.pl, ok12 x
  bs_ : ∀ b ∈ bs, 0 ≤ b ∧ b ≤ 255
theorem cell_off {X : World} {b g o k : Nat} {u : Value} (h : b ≠ g) : (X.setCell ⟨g, k, none⟩ u).cell? ⟨b, o, none⟩ = X.cell? ⟨b, o, none⟩ := by
  unfold World.cell?
  rw [show (X.setCell ⟨g, k, none⟩ u).heap[b]? = X.heap[b]? from Below.heap_setCell X ⟨g, k, none⟩ u b h]
theorem oneX_is {F : Fur} {bs : List Int} {k : Nat} {x y : Int} (hk : F.pl.getD k (0, 0) = (x, y)) : oneX F.pl bs k = x + (if bs.length = 0 then 0 else bs.getD (k % bs.length) 0 % (y - x + 1)) := by unfold oneX; rw [hk]
end Go.Proofs.Ytafmgmaelnpehaa
end

section
set_option linter.unusedVariables false
set_option linter.unusedSimpArgs false
namespace Go.Proofs.Ytafmgmaelnpehaa
open Go.RowKit Go.TL Go.Shelf Go.Fu
open PFurrowAsks Go.Proofs.YtafmgmaelnpehaaW.PrintWords
theorem refFurrow_c (F : Fur) (w : World) (h : F.At w) : Calls Try.prog 36 #[F.val] w fun e w' => e = .returned (.bool F.va) ∧ Below w.heap.size w w' :=
  furrowworksref04_Furrow.calls 20 F.A0 F.c0 F.l0 F.A1 F.c1 F.l1 F.A2 F.c2 F.l2 _ w h.r0 h.h0 h.r1 h.h1 h.r2 h.h2 (refFurrow_is _ _ _)
theorem most_c {A : Option Addr} {c : Nat} {l : List Int} {w : World} (hr : RowI w A l) (hc : l.length ≤ c) (hl : l.length ≤ 100) (hb : ∀ x ∈ l, -1000 ≤ x ∧ x ≤ 1000) :
    Calls Try.prog 33 #[.slice A l.length c] w fun e w' => e = .returned (.int .i64 (mostF (fnOf l) (l.length - 2))) ∧ Below w.heap.size w w' := by
  obtain ⟨k, hk⟩ := most_is l hl hb
  exact furrowworksref04_Most.calls k A c l _ w hr hc hk
theorem bent_c {A : Option Addr} {c : Nat} {l : List Int} {w : World} (hr : RowI w A l) (hc : l.length ≤ c) (hl : l.length ≤ 100) (hb : ∀ x ∈ l, -1000 ≤ x ∧ x ≤ 1000) {n : Nat} (h1 : 1 ≤ n) (h2 : n + 1 < l.length) :
    Calls Try.prog 35 #[.slice A l.length c, .int .i64 n] w fun e w' => e = .returned (.int .i64 (bnd (fnOf l) n)) ∧ Below w.heap.size w w' :=
  furrowworksref04_Bent.calls A c l n _ w hr hc (bent_is l n hl h1 h2 hb)
theorem inside_c (n a b : Int) (w : World) : Calls Try.prog 34 #[.int .i64 n, .agg #[.int .i64 a, .int .i64 b]] w fun e w' => e = .returned (.bool (decide (a ≤ n) && decide (n ≤ b))) ∧ Below w.heap.size w w' :=
  furrowworkslaw04_inside.calls n a b _ w (inside_is n a b)
theorem size_c (s : Nat) (hs : s < 256) (w : World) : Calls Try.prog 37 #[.int .i64 s] w fun e w' => e = .returned (.int .i64 ((ones 8 s : Nat) : Int)) ∧ Below w.heap.size w w' := by
  obtain ⟨k, hk⟩ := (size_ev s hs).rounds
  exact (furrowworksref04_Size.calls k s _ w hk).mono fun e w' ⟨a, b⟩ => ⟨a, b.below⟩
/-! ### The stations that bend most -/
theorem worstS_pos {l : List (Int × Int)} {n : Nat} (h : worstS l n = true) : 1 ≤ n := by
  unfold worstS at h
  simp only [Bool.and_eq_true, decide_eq_true_eq] at h
  exact h.1
theorem worstC_pos {l : List (Int × Int)} {n : Nat} (h : worstC l n = true) : 1 ≤ n := by
  unfold worstC at h
  simp only [Bool.and_eq_true, decide_eq_true_eq] at h
  exact h.1
theorem worst_sub {l : List (Int × Int)} (hok : ∀ x ∈ l, okSpan x) {i : Nat} (h : worstS l i = true) (h2 : i + 1 < l.length) : worstC l i = true :=
  (worstC_iff l i (worstS_pos h) h2 hok).2 ⟨_, lo_truth hok, (worstS_iff l i (worstS_pos h) h2 hok).1 h _ (lo_truth hok)⟩
def innerB (i : Nat) : Bool := decide (1 ≤ i)
theorem setN_zero {p : Nat → Bool} : ∀ n, (∀ i, i < n → p i = false) → setN p n = 0
  | 0, _ => rfl
  | n + 1, h => by
    have := setN_zero n fun i hi => h i (by omega)
    unfold setN
    rw [h n (by omega), this]
    rfl
theorem setN_nz {p : Nat → Bool} {n i : Nat} (hi : i < n) (h : p i = true) : setN p n ≠ 0 := by
  intro e
  have := setN_bit p n i
  rw [e, if_pos ⟨hi, h⟩] at this
  simp at this
theorem some_most {l : List (Int × Int)} (h3 : 3 ≤ l.length) (x : Nat → Int) : ∃ m, 1 ≤ m ∧ m + 1 < l.length ∧ bnd x m = mostL l x := by
  rcases mostF_at x (l.length - 2) with h | ⟨n, h1, h2, h4⟩
  · refine ⟨1, by omega, by omega, ?_⟩
    have a := bnd_le_most (l := l) (x := x) (n := 1) (by omega) (by omega)
    have b := bnd_nn x 1
    unfold mostL at *
    omega
  · exact ⟨n, h1, by omega, h4⟩
theorem lt128 {p : Nat → Bool} {n : Nat} (h : n ≤ 8) : setN p (n - 1) < 128 := Nat.lt_of_lt_of_le (setN_lt p (n - 1)) (show 2 ^ (n - 1) ≤ 2 ^ 7 from Nat.pow_le_pow_right (by omega) (by omega))
theorem wset1 {l : List (Int × Int)} (hok : ∀ x ∈ l, okSpan x) (h8 : l.length ≤ 8) : bits .andNot .i64 ((setN (worstS l) (l.length - 1) : Nat) : Int) ((setN (worstC l) (l.length - 1) : Nat) : Int) = 0 :=
  andn_is _ _ (lt128 h8) (lt128 h8) fun i _ h => set_sub (fun j hj hp => worst_sub hok hp (by omega)) i h
theorem wset2 {l : List (Int × Int)} (h8 : l.length ≤ 8) : bits .andNot .i64 ((setN (worstC l) (l.length - 1) : Nat) : Int) ((setN innerB (l.length - 1) : Nat) : Int) = 0 :=
  andn_is _ _ (lt128 h8) (lt128 h8) fun i _ h => set_sub (fun j hj hp => decide_eq_true (worstC_pos hp)) i h
theorem inner_zero : ∀ n, n < 3 → setN innerB (n - 1) = 0 := by decide
theorem inner_three : ∀ n, n ≤ 8 → ones 8 (setN innerB (n - 1)) = 1 → n = 3 := by decide +kernel
theorem wset3 {l : List (Int × Int)} (hok : ∀ x ∈ l, okSpan x) (h8 : l.length ≤ 8) : setN (worstC l) (l.length - 1) = 0 ↔ setN innerB (l.length - 1) = 0 := by
  by_cases h3 : 3 ≤ l.length
  · obtain ⟨m, h1, h2, hm⟩ := some_most h3 fun i => (l.getD i (0, 0)).1
    have hw : worstC l m = true := (worstC_iff l m h1 h2 hok).2 ⟨_, lo_truth hok, fun i i1 i2 => by have := bnd_le_most (l := l) (x := fun i => (l.getD i (0, 0)).1) i1 i2; omega⟩
    exact ⟨fun e => absurd e (setN_nz (by omega) hw), fun e => absurd e (setN_nz (i := m) (by omega) (decide_eq_true h1))⟩
  · refine ⟨fun _ => inner_zero _ (by omega), fun _ => setN_zero _ fun i hi => ?_⟩
    cases h : worstC l i with
    | false => rfl
    | true => have := worstC_pos h; omega
theorem wset4 {l : List (Int × Int)} (hok : ∀ x ∈ l, okSpan x) (h8 : l.length ≤ 8) (h : ones 8 (setN innerB (l.length - 1)) = 1) : setN (worstS l) (l.length - 1) = setN innerB (l.length - 1) := by
  have h3 := inner_three _ h8 h
  have h1 : worstS l 1 = true := (worstS_iff l 1 (by omega) (by omega) hok).2 fun x hx i i1 i2 => by rw [show i = 1 by omega]; exact Int.le_refl _
  have h0 : worstS l 0 = false := by
    cases e : worstS l 0 with
    | false => rfl
    | true => have := worstS_pos e; omega
  rw [h3]
  simp [setN, h1, h0, innerB]
theorem hi_le {l : List (Int × Int)} (hok : ∀ x ∈ l, okSpan x) {i : Nat} (h1 : 1 ≤ i) (h2 : i + 1 < l.length) : (atF l i).2 ≤ hiF l (l.length - 2) := (hiF_all l hok (l.length - 2) (by omega)).2.1 i h1 (by omega)
structure Sta (l : List (Int × Int)) (x : Nat → Int) (i : Nat) : Prop where
  a : bnd x i = mostL l x → worstC l i = true
  b : worstS l i = true → bnd x i = mostL l x
  c : worstS l i = true → (atF l i).2 = hiF l (l.length - 2)
  d : (atF l i).2 = hiF l (l.length - 2) → worstC l i = true
  e : bnd x i ≤ mostL l x
  f : (atF l i).1 ≤ bnd x i
  g : bnd x i ≤ (atF l i).2
  h : (atF l i).2 ≤ hiF l (l.length - 2)
theorem sta_is {l : List (Int × Int)} (hok : ∀ x ∈ l, okSpan x) {x : Nat → Int} (hx : Truth l x) {i : Nat} (h1 : 1 ≤ i) (h2 : i + 1 < l.length) : Sta l x i := by
  have hs := at_spec l i h1 h2 hok
  have hC := worstC_iff l i h1 h2 hok
  have hS := worstS_iff l i h1 h2 hok
  refine ⟨fun e => hC.2 ⟨x, hx, fun j j1 j2 => by rw [e]; exact bnd_le_most j1 j2⟩, fun e => ?_, fun e => ?_, fun e => ?_, bnd_le_most h1 h2, (hs.all x hx).1, (hs.all x hx).2, hi_le hok h1 h2⟩
  · have a := bnd_le_most (l := l) (x := x) h1 h2
    have b := (mostL_le (bnd_nn x i)).2 (hS.1 e x hx)
    omega
  · obtain ⟨⟨y, hy, hm⟩, _⟩ := hi_spec l hok
    have b := (mostL_le (bnd_nn y i)).2 (hS.1 e y hy)
    have c := (hs.all y hy).2
    have d := hi_le hok h1 h2
    omega
  · obtain ⟨y, hy, hb⟩ := hs.hi
    refine hC.2 ⟨y, hy, fun j j1 j2 => ?_⟩
    have := (hi_spec l hok).2 y hy
    have := bnd_le_most (l := l) (x := y) j1 j2
    omega
/-- A station below k may bend as much as the furrow. -/
noncomputable def anyH (l : List (Int × Int)) : Nat → Bool
  | 0 => false
  | k + 1 => anyH l k || decide ((atF l (k + 1)).2 = hiF l (l.length - 2))
theorem anyH_of {l : List (Int × Int)} : ∀ k n, 1 ≤ n → n ≤ k → (atF l n).2 = hiF l (l.length - 2) → anyH l k = true
  | 0, n, h1, h2, _ => by omega
  | k + 1, n, h1, h2, h => by
    unfold anyH
    by_cases e : n = k + 1
    · subst e; rw [h]; simp
    · rw [anyH_of k n h1 (by omega) h]; rfl
theorem anyH_all {l : List (Int × Int)} (hok : ∀ x ∈ l, okSpan x) (h : setN innerB (l.length - 1) ≠ 0) : anyH l (l.length - 2) = true := by
  have h3 : 3 ≤ l.length := by
    refine Nat.not_lt.1 fun hl => h (inner_zero _ hl)
  obtain ⟨i1, i2, i3⟩ := hiF_all l hok (l.length - 2) (by omega)
  rcases i3 with i3 | ⟨n, h1, h2, h4⟩
  · refine anyH_of _ 1 (by omega) (by omega) ?_
    have a := i2 1 (by omega) (by omega)
    have b := (at_spec l 1 (by omega) (by omega) hok).all _ (lo_truth hok)
    have c := bnd_nn (fun i => (l.getD i (0, 0)).1) 1
    omega
  · exact anyH_of _ n h1 h2 h4
theorem bit_of {p : Nat → Bool} {n i : Nat} (h8 : n ≤ 8) (hi : i + 1 < n) : bits .and .i64 (((setN p (n - 1) : Nat) : Int) / 2 ^ i) 1 = if p i then 1 else 0 := by
  rw [andb_is _ _ (Nat.lt_trans (lt128 h8) (by omega)) (by omega), setN_bit]
  by_cases h : p i = true
  · rw [if_pos ⟨by omega, h⟩, if_pos h]; rfl
  · rw [if_neg (fun c => h c.2), if_neg h]; rfl
end Go.Proofs.Ytafmgmaelnpehaa
end

section
set_option linter.unusedVariables false
set_option linter.unusedSimpArgs false
namespace Go.Proofs.Ytafmgmaelnpehaa
open Go.RowKit Go.TL Go.Shelf Go.Fu
open PFurrowAsks Go.Proofs.YtafmgmaelnpehaaW.PrintWords
abbrev o4 (l : List (Option Value)) : List (Option Value) := none :: none :: none :: none :: l
abbrev o16 (l : List (Option Value)) : List (Option Value) := o4 (o4 (o4 (o4 l)))
abbrev o64 (l : List (Option Value)) : List (Option Value) := o16 (o16 (o16 (o16 l)))
theorem only_normal {M : Array Value → World → Prop} {e : Exit} {t : Array Value} {W : World} (h : andThen M (fun _ _ _ => False) e t W) : e = .normal ∧ M t W := by
  cases e <;> first | exact ⟨rfl, h⟩ | exact False.elim h
theorem box3_below {W W' : World} {B : Nat} {t : TypeId} {a b c : Value} (h : Below W.heap.size W W') (hb : Box3 W B t a b c) : Box3 W' B t a b c := (h.block _ hb.lt).trans hb
end Go.Proofs.Ytafmgmaelnpehaa
end

section
set_option linter.unusedVariables false
set_option linter.unusedSimpArgs false
namespace Go.Proofs.Ytafmgmaelnpehaa
open Go.RowKit Go.TL Go.Shelf Go.Fu
attribute [local go_sem] Oper.semAt_some
open PFurrowAsks Go.Proofs.YtafmgmaelnpehaaW.PrintWords
abbrev KI : Kd Int := Kd.int .i64
abbrev KL : Kd (List Int) := Kd.slice 3 KI
/-- A slice of lists, of the call's own. -/
abbrev Own (W : World) (B : Nat) (v : Value) (ll : List (List Int)) : Prop := KL.R 33 W B (fun _ => True) v ll
/-- A list whose block is another one than v's. -/
abbrev Lst (W : World) (B : Nat) (v u : Value) (l : List Int) : Prop := KI.R 3 W B (fun k => True ∧ some k ≠ v.ownBlock) u l
/-- From w on only v's block was written, and v has become v'. -/
structure Onto (w W : World) (v v' : Value) : Prop where
  g : w.grownBy W v.ownBlock
  at_ : v'.ownBlock = v.ownBlock ∨ ∃ b, v'.ownBlock = some b ∧ w.heap.size ≤ b
theorem Onto.below {w W : World} {v : Value} (h : Below w.heap.size w W) : Onto w W v v := ⟨grown_of_below h _, .inl rfl⟩
theorem Onto.trans {w W X : World} {v v' v'' : Value} (h : Onto w W v v') (k : Onto W X v' v'') : Onto w X v v'' := by
  refine ⟨⟨k.g.os.trans h.g.os, k.g.tape.trans h.g.tape, k.g.output.trans h.g.output, Nat.le_trans h.g.size k.g.size, fun j hj hne => ?_⟩, ?_⟩
  · refine (k.g.block j (Nat.lt_of_lt_of_le hj h.g.size) ?_).trans (h.g.block j hj hne)
    rcases h.at_ with e | ⟨b, e, hb⟩
    · rw [e]; exact hne
    · rw [e]; intro c; have := Option.some.inj c; omega
  · rcases k.at_ with e | ⟨b, e, hb⟩
    · rw [e]; exact h.at_
    · exact .inr ⟨b, e, Nat.le_trans h.g.size hb⟩
theorem Onto.keep {w W : World} {B : Nat} {v v' : Value} {ll : List (List Int)} (h : Onto w W v v') (ho : Own w B v ll) : Keep w W :=
  (Keep.refl w).grown h.g fun j o hv hj => by
    obtain ⟨cells, hc⟩ := own_typed (Kd.R_own ho).choose_spec j hv
    rw [hc] at hj
    cases hj
    rfl
theorem Onto.lst {w W : World} {B : Nat} {v v' u : Value} {l : List Int} (h : Onto w W v v') (hl : Lst w B v u l) : Lst W B v' u l := Kd.R_after hl h.g h.at_
theorem Onto.nil {w W : World} {v' : Value} (h : Onto w W (.slice none 0 0) v') : Below w.heap.size w W := ⟨h.g.os, h.g.tape, h.g.output, h.g.size, fun j hj => h.g.block j hj (by simp [Value.ownBlock])⟩
theorem info33 : ∃ i0, Try.prog.info? 33 = some i0 ∧ i0.zero = some (.slice none 0 0) ∧ i0.size = 1 ∧ i0.bytes = 24 := by
  have h : (Try.prog.info? 33).map (fun i => (i.zero, i.size, i.bytes)) = some (some (.slice none 0 0), 1, 24) := by kernel_rfl
  cases e : Try.prog.info? 33 with
  | none => rw [e] at h; cases h
  | some i0 =>
    rw [e] at h
    have := Option.some.inj h
    simp only [Prod.mk.injEq] at this
    exact ⟨i0, rfl, this⟩
theorem info3 : ∃ i0, Try.prog.info? 3 = some i0 ∧ i0.zero = some (.int .i64 0) ∧ i0.size = 1 ∧ i0.bytes = 8 := by
  have h : (Try.prog.info? 3).map (fun i => (i.zero, i.size, i.bytes)) = some (some (.int .i64 0), 1, 8) := by kernel_rfl
  cases e : Try.prog.info? 3 with
  | none => rw [e] at h; cases h
  | some i0 =>
    rw [e] at h
    have := Option.some.inj h
    simp only [Prod.mk.injEq] at this
    exact ⟨i0, rfl, this⟩
/-- A list is appended to a slice of lists. -/
theorem own_app {W : World} {B : Nat} {v u : Value} {ll : List (List Int)} {x : List Int} (h : Own W B v ll) (hB : B ≤ W.heap.size) (a : Addr) (c : Nat) (hx : Lst W B v u x) (hc : W.cell? a = some u) (hu : u.oneCell' = true) (hn : ll.length ≤ 10000000) (ty : TypeId) :
    ∃ v' W', (Builtin.append_ #[83, 83] ty #[v, .slice (some a) 1 c]).run Try.prog W = .ok v' W' ∧ Own W' B v' (ll ++ [x]) ∧ Onto W W' v v' := by
  obtain ⟨i0, hi0, hz, hs, hb⟩ := info33
  obtain ⟨h0, inner, hown, hr⟩ := h
  obtain ⟨v', W', hrun, ho, hg, _, hat⟩ := run_append_own_at (P := Try.prog) (w := W) B 83 ty 33 i0 (.slice none 0 0) 1 24 Try.underlying83 hi0 hz hs hb rfl (by decide) v ll.length inner hown a 1 c [u] rfl (by
    intro j y hj
    match j, hj with
    | 0, hj =>
      cases hj
      have : a.add 0 = a := by unfold Addr.add; split <;> simp_all
      rw [this]; exact hc) (by intro y hy; rw [List.mem_singleton.1 hy]; exact hu) (by unfold maxLen; omega) (by omega) hB
  have hat' : v'.ownBlock = v.ownBlock ∨ ∃ b, v'.ownBlock = some b ∧ W.heap.size ≤ b := hat.imp id fun e => ⟨_, e, Nat.le_refl _⟩
  exact ⟨v', W', hrun, Kd.R_appended (d := KL) h0 hr (p := x) (okp := fun k => True ∧ some k ≠ v.ownBlock) ⟨u, rfl, hx⟩ (fun k hk => hk) (fun _ _ => trivial) ho hg hat', hg, hat'⟩
/-- Numbers are appended to a list. -/
theorem lst_app {W : World} {B : Nat} {v : Value} {l ys : List Int} {A : Option Addr} {c : Nat} (h : W.ownsRow B 3 1 v l.length (l.map (Value.int .i64))) (hB : B ≤ W.heap.size) (hA : RowI W A ys) (h0 : A = none → c = 0) (hn : l.length + ys.length ≤ 1000000) (ty : TypeId) :
    ∃ v' W', (Builtin.append_ #[33, 33] ty #[v, .slice A ys.length c]).run Try.prog W = .ok v' W' ∧ W'.ownsRow B 3 1 v' (l ++ ys).length ((l ++ ys).map (Value.int .i64)) ∧ W.grownBy W' v.ownBlock ∧ (v'.ownBlock = v.ownBlock ∨ v'.ownBlock = some W.heap.size) := by
  cases A with
  | none =>
    have hy : ys = [] := by
      rcases Nat.eq_zero_or_pos ys.length with e | e
      · exact List.length_eq_zero_iff.1 e
      · obtain ⟨ad, hA', _⟩ := Kd.at_int hA 0 (by omega) (by omega)
        cases hA'
    subst hy
    rw [List.append_nil]
    obtain ⟨i0, hi0, hz, hs, hb⟩ := info3
    rw [h0 rfl]
    exact ⟨v, W, run_append_owned_none (P := Try.prog) W B 33 ty 3 i0 1 Try.underlying33 hi0 v l.length _ h, h, ⟨rfl, rfl, rfl, Nat.le_refl _, fun _ _ _ => rfl⟩, .inl rfl⟩
  | some a =>
    obtain ⟨i0, hi0, hz, hs, hb⟩ := info3
    obtain ⟨v', W', hrun, ho, hg, _, hat⟩ := run_append_own_at (P := Try.prog) (w := W) B 33 ty 3 i0 (.int .i64 0) 1 8 Try.underlying33 hi0 hz hs hb rfl (by decide) v l.length (l.map (Value.int .i64)) h a ys.length c (ys.map (Value.int .i64)) (by simp) (by
      intro j y hj
      have hj' : j < ys.length := by
        have := (List.getElem?_eq_some_iff.1 hj).1
        simpa using this
      obtain ⟨ad, hA', hcell⟩ := Kd.at_int hA (j : Int) (by omega) (by omega)
      cases hA'
      rw [Int.toNat_natCast] at hcell
      rw [hcell]
      rw [← hj]
      simp [rd, hj']) (by intro y hy; obtain ⟨z, _, rfl⟩ := List.mem_map.1 hy; rfl) (by unfold maxLen; omega) (by omega) hB
    refine ⟨v', W', hrun, ?_, hg, hat⟩
    rw [List.length_append, List.map_append]
    exact ho
/-- A copy of a list, and a number behind it. -/
theorem lst_two {W : World} {Ab : Option Addr} {cb : Nat} {b : List Int} (hb : RowI W Ab b) (h0 : Ab = none → cb = 0) (o : Int) (hl : b.length ≤ 1000) :
    ∃ v1 X2 A2 c2 X3, (Builtin.append_ #[33, 33] 33 #[.slice (some ⟨W.heap.size, 0, none⟩) 0 0, .slice Ab b.length cb]).run Try.prog (W.alloc (.cells #[] 3)) = .ok v1 X2 ∧
      (Builtin.append_ #[33, 33] 33 #[v1, .slice (some ⟨X2.heap.size, 0, none⟩) 1 1]).run Try.prog (X2.alloc (.cells #[.int .i64 o] 3)) = .ok (.slice A2 (b.length + 1) c2) X3 ∧ X3.ownsRow W.heap.size 3 1 (.slice A2 (b.length + 1) c2) (b ++ [o]).length ((b ++ [o]).map (Value.int .i64)) ∧ b.length + 1 ≤ c2 ∧ RowI X3 A2 (b ++ [o]) ∧ Below W.heap.size W X3 := by
  have ha := (Below.refl W.heap.size W).alloc (Nat.le_refl _) (.cells #[] 3)
  have hown : (W.alloc (.cells #[] 3)).ownsRow W.heap.size 3 1 (.slice (some ⟨W.heap.size, 0, none⟩) 0 0) ([] : List Int).length (([] : List Int).map (Value.int .i64)) := World.ownsRow_made W #[] 0 (Nat.le_refl _) (by unfold maxLen; omega) rfl
  obtain ⟨v1, X2, hr1, ho1, hg1, hat1⟩ := lst_app hown ha.size (RowI.below hb ha) h0 (by simp; omega) 33 (c := cb)
  have hB2 : Below W.heap.size W X2 := ha.grown hg1 ha.size (fun q e => by simp only [Value.ownBlock, Option.some.injEq] at e; omega)
  rw [List.nil_append] at ho1
  have ha2 := (Below.refl X2.heap.size X2).alloc (Nat.le_refl _) (.cells #[.int .i64 o] 3)
  have ho2 := own_move (w1 := X2.alloc (.cells #[.int .i64 o] 3)) ho1 (fun k hk => ha2.block k (own_lt ho1 k hk))
  have hrow := row_new X2 [o] (by simp)
  obtain ⟨v2, X3, hr2, ho3, hg2, _⟩ := lst_app ho2 (Nat.le_trans hB2.size ha2.size) hrow (fun e => by cases e) (by simp; omega) 33 (c := 1)
  obtain ⟨A2, c2, e, hl2, hR⟩ := own_rowI ho3
  subst e
  rw [List.length_append, List.length_singleton] at hl2
  refine ⟨v1, X2, A2, c2, X3, hr1, ?_, ?_, hl2, hR, ?_⟩
  · rw [List.length_append, List.length_singleton] at hr2
    exact hr2
  · rw [List.length_append, List.length_singleton] at ho3 ⊢
    exact ho3
  · exact (hB2.trans (ha2.mono hB2.size)).grown hg2 (Nat.le_trans hB2.size ha2.size) (fun q e => own_base ho1 q e)
theorem wpListIn_app {F : Fence} {nF : Nat} {P : Program} {ops : Array Oper} {rest : List Oper} {o : Oper} {a : Act} {Q : Exit → Act → World → Prop} {w : World} (hgd : o.guard = none) (s y : Operand) (t : TypeId) (ho : o.op = .call { callee := .builtin .append, args := #[s, y], argTypes := #[t, t] }) {v xv v' : Value} {w' : World} (hs : a.eval s = v) (hx : a.eval y = xv)
    (hr : (Builtin.append_ #[t, t] o.type #[v, xv]).run P w = .ok v' w') (h : wpListIn F nF P ops Q rest (a.put o.dst v') w') : wpListIn F nF P ops Q (o :: rest) a w := by
  refine wpListIn_plain hgd fun K hK => ?_
  unfold Oper.wpIn
  refine ⟨by simp [Oper.about, ho, resolve, Target.leads, Sem.run_pure], ?_⟩
  rw [Oper.semAt_plain F _ _ (by rw [ho]; intro c hc'; cases hc')]
  simp [execOp, ho, resolve, invoke, builtin, hs, hx, hr, Result.andThen]
  exact hK _ _ h
end Go.Proofs.Ytafmgmaelnpehaa
end

section
set_option linter.unusedVariables false
set_option linter.unusedSimpArgs false
namespace Go.Proofs.Ytafmgmaelnpehaa
open Go.RowKit Go.TL Go.Shelf Go.Fu
attribute [local go_sem] Oper.semAt_some
open PFurrowAsks Go.Proofs.YtafmgmaelnpehaaW.PrintWords
/-- All lists that go on from some. -/
def waysL : List (Int × Int) → List Int → List (List Int)
  | [], b => [b]
  | s :: r, b => (spanL s).flatMap fun o => waysL r (b ++ [o])
theorem Own.grow {W W' : World} {B n : Nat} {v : Value} {ll : List (List Int)} (h : Own W B v ll) (hG : Grow n W W') : Own W' B v ll :=
  Kd.R_mono (Kd.R_move (Kd.R_bound h) fun k hk => by
    obtain ⟨_, _, _, q, _, cells, hc⟩ := hk
    rw [hc]
    exact hG.same k _ hc (.inr rfl)) fun _ _ => trivial
theorem Onto.grow {w W W' : World} {v v' : Value} (h : Onto w W v v') (hG : Grow w.heap.size W W') : Onto w W' v v' := by
  have hb := hG.below (Nat.le_refl _) h.g.size
  exact ⟨⟨hb.os.trans h.g.os, hb.tape.trans h.g.tape, hb.output.trans h.g.output, Nat.le_trans h.g.size hG.size, fun k hk hne => (hb.block k hk).trans (h.g.block k hk hne)⟩, h.at_⟩
theorem Onto.under {w0 w W : World} {v v' : Value} {ll : List (List Int)} (h : Onto w W v v') (hb : Below w0.heap.size w0 w) (ho : Own w w0.heap.size v ll) : Below w0.heap.size w0 W :=
  hb.grown h.g hb.size (fun q e => Kd.R_base ho q e)
theorem flat_step (lo : Int) (f : Int → List (List Int)) (i : Nat) : (ints lo (i + 1)).flatMap f = (ints lo i).flatMap f ++ f (lo + i) := by
  unfold ints
  rw [List.range_succ, List.map_append, List.flatMap_append]
  simp
theorem len_mono (ll : List (List Int)) (lo : Int) (f : Int → List (List Int)) (i m : Nat) (h : i ≤ m) : (ll ++ (ints lo i).flatMap f).length ≤ (ll ++ (ints lo m).flatMap f).length := by
  induction h with
  | refl => exact Nat.le_refl _
  | step _ ih =>
    refine Nat.le_trans ih ?_
    rw [flat_step]
    simp
def WyI (F : Fur) (w0 w : World) (v u : Value) (n : Nat) (ll : List (List Int)) (b : List Int) (rest : List (Int × Int)) (lo : Int) (m : Nat) (j : Nat) (t : Array Value) (W : World) : Prop :=
  ∃ (i : Nat) (v' : Value), i ≤ m ∧ j = m - i ∧ Own W w0.heap.size v' (ll ++ (ints lo i).flatMap fun o => waysL rest (b ++ [o])) ∧ Lst W w0.heap.size v' u b ∧ Onto w W v v' ∧ Slots (some (F.s0) :: some (.int .i64 1000) :: some (u) :: some (v') :: none :: o4 (some (.int .i64 ((n : Nat) : Int)) :: some (.int .i64 (lo + ((i : Nat) : Int))) :: none :: none :: none :: o4 (o4 (o4 (o16 (o16 [])))))) t
set_option maxRecDepth 100000 in
set_option maxHeartbeats 4000000 in
theorem ways_c {F : Fur} (hva : F.va = true) {w0 : World} (hF : F.At w0) : ∀ (d n : Nat), n + d = F.l0.length → ∀ (w : World) (v u : Value) (ll : List (List Int)) (b : List Int), Below w0.heap.size w0 w → b.length = n → (∀ x ∈ b, -12 ≤ x ∧ x ≤ 12) → Own w w0.heap.size v ll → Lst w w0.heap.size v u b → (ll ++ waysL (F.pl.drop n) b).length ≤ 1000000 →
    Calls Try.prog 92 #[F.s0, .int .i64 1000, u, v] w fun e w' => ∃ v', e = .returned v' ∧ Own w' w0.heap.size v' (ll ++ waysL (F.pl.drop n) b) ∧ Onto w w' v v'
  | 0, n, hnd, w, v, u, ll, b, hB, hbl, hbd, hv, hu, hlen => by
    have h8 := Fur.le8 hva
    obtain ⟨Ab, cb, hue⟩ := Kd.R_slice hu
    refine calls_of_exec Try.func92 rfl ?_
    simp only [Try.ntmps92, List.size_toArray, List.length_cons, List.length_nil, Nat.reduceAdd, Nat.reduceSub, Array.replicate_succ, Array.replicate_zero, List.push_toArray, List.append_toArray, List.nil_append, List.cons_append]
    simp only [Fur.s0, hue, hbl]
    refine exec_seq (exec_region_o fun ds => ?_)
    gi_wp2
    refine eq_mk (Keep.refl _) ?_
    show Exec _ _ _ _ _ _
    refine exec_seq (exec_region_o fun ds => ?_)
    gi_wp2
    refine eq_mk (Keep.refl _) ?_
    show Exec _ _ _ _ _ _
    refine exec_seq (exec_seq (exec_region_o fun ds => ?_))
    gi_wp2
    refine eq_mk (Keep.refl _) ?_
    show Exec _ _ _ _ _ _
    refine exec_cond (b := decide ((n : Int) = F.l0.length)) rfl (fun _ => ?_) (fun h => absurd h (by simp; omega))
    have hd : F.pl.drop n = [] := List.drop_eq_nil_of_le (by rw [Fur.pl_len]; omega)
    rw [hd] at hlen ⊢
    have hk0 := hB.size
    have ha := (Below.refl w.heap.size w).alloc (Nat.le_refl _) (.cells #[.slice Ab n cb] 33)
    rw [← hbl, ← hue] at ha
    obtain ⟨v', W', hr, ho, hon⟩ := own_app (Kd.R_below hv ha) (Nat.le_trans hB.size ha.size) ⟨w.heap.size, 0, none⟩ 1 (Kd.R_below hu ha) (by unfold World.cell?; rw [World.alloc_heap_new]; rfl) (by rw [hue]; rfl) (by simp at hlen; omega) 83
    rw [hue, hbl] at hr
    refine exec_seq (exec_region_o fun ds => ?_)
    gi_wp2_with (gi_at_builtin; go_loud (refine wpListIn_app rfl _ _ 83 rfl rfl rfl hr ?_))
    have hon' := (Onto.below (v := v) ha).trans hon
    refine eq_mk (hon'.keep hv) ?_
    refine exec_ret ⟨.inr rfl, fun W2 hG => ⟨v', by simp [results, Try.f92, go_sem], v', rfl, ho.grow hG, hon'.grow hG⟩⟩
  | d + 1, n, hnd, w, v, u, ll, b, hB, hbl, hbd, hv, hu, hlen => by
    have ih := ways_c hva hF d (n + 1) (by omega)
    have h8 := Fur.le8 hva
    obtain ⟨Ab, cb, hue⟩ := Kd.R_slice hu
    have hnl : n < F.l0.length := by omega
    have hnp : n < F.pl.length := by rw [Fur.pl_len]; exact hnl
    obtain ⟨lo, hi, hs⟩ : ∃ lo hi, F.pl[n]'hnp = (lo, hi) := ⟨_, _, rfl⟩
    have hdr : F.pl.drop n = (lo, hi) :: F.pl.drop (n + 1) := by rw [List.drop_eq_getElem_cons hnp, hs]
    have hok := Fur.ok12 hva _ (List.getElem_mem hnp)
    rw [hs] at hok
    obtain ⟨hk1, hk2, hk3, _⟩ := hok
    simp only at hk1 hk2 hk3
    obtain ⟨rest, hrest⟩ : ∃ r, F.pl.drop (n + 1) = r := ⟨_, rfl⟩
    rw [hrest] at hdr ih
    rw [hdr] at hlen ⊢
    obtain ⟨m, hm⟩ : ∃ m : Nat, (hi + 1 - lo).toNat = m := ⟨_, rfl⟩
    have hw : waysL ((lo, hi) :: rest) b = (ints lo m).flatMap fun o => waysL rest (b ++ [o]) := by
      show (spanL (lo, hi)).flatMap _ = _
      unfold spanL
      rw [hm]
    rw [hw] at hlen ⊢
    have hmono : ∀ i, i < m → (ll ++ ((ints lo i).flatMap fun o => waysL rest (b ++ [o])) ++ waysL rest (b ++ [lo + (i : Int)])).length ≤ 1000000 := by
      intro i hi'
      refine Nat.le_trans (Nat.le_of_eq ?_) (Nat.le_trans (len_mono ll lo (fun o => waysL rest (b ++ [o])) (i + 1) m hi') hlen)
      rw [flat_step, List.append_assoc]
    clear hlen hw hdr
    have hpk : (lo, hi) = ((rd_T28 F.l0 (n : Int)).f0, (rd_T28 F.l0 (n : Int)).f1) := by
      rw [← hs]
      simp [Fur.pl, rd_T28, hnl, toP]
    have e0 : (rd_T28 F.l0 (n : Int)).f0 = lo := (congrArg Prod.fst hpk).symm
    have e1 : (rd_T28 F.l0 (n : Int)).f1 = hi := (congrArg Prod.snd hpk).symm
    clear hpk hs hnp
    obtain ⟨ad, hA, hc0, hc1⟩ := at_T28 hF.r0 (n : Int) (by omega) (by omega)
    rw [e0] at hc0
    rw [e1] at hc1
    rw [Int.toNat_natCast] at hc0 hc1
    clear e0 e1
    refine calls_of_exec Try.func92 rfl ?_
    simp only [Try.ntmps92, List.size_toArray, List.length_cons, List.length_nil, Nat.reduceAdd, Nat.reduceSub, Array.replicate_succ, Array.replicate_zero, List.push_toArray, List.append_toArray, List.nil_append, List.cons_append]
    simp only [Fur.s0, hue, hbl, hA]
    refine exec_seq (exec_region_o fun ds => ?_)
    gi_wp2
    refine eq_mk (Keep.refl _) ?_
    show Exec _ _ _ _ _ _
    refine exec_seq (exec_region_o fun ds => ?_)
    gi_wp2
    refine eq_mk (Keep.refl _) ?_
    show Exec _ _ _ _ _ _
    refine exec_seq (exec_seq (exec_region_o fun ds => ?_))
    gi_wp2
    refine eq_mk (Keep.refl _) ?_
    show Exec _ _ _ _ _ _
    refine exec_cond (b := decide ((n : Int) = F.l0.length)) rfl (fun h => absurd (of_decide_eq_true h) (by omega)) (fun _ => exec_skip ?_)
    show Exec _ _ _ _ _ _
    have hnI : (n : Int) < F.l0.length := by omega
    have d0 := (Grow.of_below (B := 0) hB).cell hc0
    refine exec_cut (fun t' W => ∃ v', Own W w0.heap.size v' (ll ++ (ints lo m).flatMap fun o => waysL rest (b ++ [o])) ∧ Onto w W v v' ∧ Slots (none :: none :: none :: some (v') :: none :: none :: o4 (o16 (o16 (o16 [])))) t') ?_ ?_
    · refine exec_seq (exec_region_o fun ds => ?_)
      gi_wp2
      refine eq_mk (Keep.refl _) ?_
      show Exec _ _ _ _ _ _
      clear d0
      refine exec_block ?_
      refine exec_loop (WyI F w0 w v u n ll b rest lo m) m ⟨0, v, by omega, by omega, by simpa [ints] using hv, hu, Onto.below (Below.refl _ _), ?_⟩ ?_
      · simp only [Fur.s0, hA, hue, hbl]
        simp [Slots, Fits]
      rintro j t W ⟨i, v', hi', hj, ho, hl, hon, hSl⟩
      simp only [Fur.s0, hA, hue, hbl] at hSl
      obtain ⟨x, hx⟩ := Slots.open_ hSl; simp only [fill, Nat.reduceAdd] at hx; subst hx; clear hSl
      have hBW := hon.under hB hv
      have d1 := (Grow.of_below (B := 0) hBW).cell hc1
      refine exec_seq (exec_seq (exec_region_o fun ds => ?_))
      gi_wp2
      refine eq_mk (Keep.refl _) ?_
      show Exec _ _ _ _ _ _
      refine exec_cond (b := decide (lo + (i : Int) ≤ hi)) rfl (fun hp => ?_) (fun hp => ?_)
      · have him : i < m := by have := of_decide_eq_true hp; omega
        refine exec_skip ?_
        show Exec _ _ _ _ _ _
        have hlo : -12 ≤ lo + (i : Int) ∧ lo + (i : Int) ≤ 12 := by have := of_decide_eq_true hp; omega
        have hlist := hmono i him
        have hj1 : j - 1 < j := by omega
        have hj2 : j - 1 = m - (i + 1) := by omega
        have hiI : IntKind.i64.wrap (lo + (i : Int) + 1) = lo + ((i + 1 : Nat) : Int) := by rw [IntWalk.i64_in _ (by omega)]; push_cast; omega
        obtain ⟨o, hoe⟩ : ∃ o, lo + (i : Int) = o := ⟨_, rfl⟩
        rw [hoe] at hlo hlist hiI
        simp only [hoe]
        clear hp d1
        have hbW : RowI W Ab b := by
          have := Kd.R_reads hl
          rw [hue] at this
          obtain ⟨A', c', e, _, hr⟩ := this
          cases e
          exact hr
        have h0c : Ab = none → cb = 0 := by
          intro e
          have := Kd.R_own hl
          obtain ⟨inner, hin⟩ := this
          rw [hue, e] at hin
          rcases hin.2 with ⟨h1, _⟩ | ⟨g, cap, cur, h1, _⟩
          · simp only [Value.slice.injEq] at h1
            exact h1.2.2
          · simp at h1
        obtain ⟨v1, X2, A2, c2, X3, hr1, hr2, ho3, hc2, hR3, hB3⟩ := lst_two hbW h0c o (by omega)
        rw [hbl] at hr1 hr2 ho3 hc2
        refine exec_cut (fun t' W' => ∃ v'', Own W' w0.heap.size v'' (ll ++ ((ints lo i).flatMap fun o => waysL rest (b ++ [o])) ++ waysL rest (b ++ [o])) ∧ Onto W W' v' v'' ∧ Slots (some (.slice (some ad) F.l0.length F.c0) :: some (.int .i64 1000) :: some (.slice Ab n cb) :: some (v'') :: none :: o4 (some (.int .i64 ((n : Nat) : Int)) :: some (.int .i64 o) :: none :: none :: none :: o4 (o4 (o4 (o16 (o16 [])))))) t') ?_ ?_
        · refine exec_block (exec_seq (exec_region_o fun ds => ?_))
          gi_wp2_with (first | (gi_at_builtin; refine wpListIn_app rfl _ _ 33 rfl rfl rfl hr1 ?_) | (gi_at_builtin; refine wpListIn_app rfl _ _ 33 rfl rfl rfl hr2 ?_))
          refine eq_mk (Keep.of_below hB3) ?_
          show Exec _ _ _ _ _ _
          have hlL : (b ++ [o]).length = n + 1 := by simp [hbl]
          have hbd' : ∀ x ∈ b ++ [o], -12 ≤ x ∧ x ≤ 12 := fun x hx => by
            rcases List.mem_append.1 hx with h | h
            · exact hbd x h
            · rw [List.mem_singleton.1 h]; exact hlo
          have hB1 := hBW.trans (hB3.mono hBW.size)
          have ho' := Kd.R_below ho hB3
          have hu2 : Lst X3 w0.heap.size v' (.slice A2 (n + 1) c2) (b ++ [o]) := by
            rw [← hlL] at ho3 ⊢
            refine Kd.R_of_own (own_weaken ho3 hBW.size) fun k hk => ⟨trivial, fun c => ?_⟩
            have h1 := own_base ho3 k hk
            have h2 := Kd.R_lt ho k c.symm
            omega
          have hn3 := Onto.below (v := v') hB3
          clear hr1 hr2 ho3 hB3
          refine exec_cut (fun t' W' => Below X3.heap.size X3 W' ∧ Slots (some (.slice (some ad) F.l0.length F.c0) :: some (.int .i64 1000) :: some (.slice Ab n cb) :: some (v') :: none :: o4 (some (.int .i64 ((n : Nat) : Int)) :: some (.int .i64 o) :: some (.slice A2 (n + 1) c2) :: none :: none :: none :: o4 (o16 (o16 (some (.bool true) :: none :: none :: o4 []))))) t') ?_ ?_
          · by_cases hn2 : n < 2
            · have e : decide ((n : Int) < 2) = true := decide_eq_true (by omega)
              refine exec_region_o fun ds => ?_
              gi_wp2_with fail
              refine ⟨trivial, ?_⟩
              gi_wp2
              refine eq_mk (Keep.refl _) ?_
              exact ⟨Below.refl _ _, (by simp only [Slots, Fits, and_self])⟩
            · have e : decide ((n : Int) < 2) = false := decide_eq_false (by omega)
              have hb := bend_fn (b ++ [o]) (n - 1) (by omega) (by omega) (by omega) (fun x hx => by have := hbd' x hx; exact ⟨by omega, by omega⟩)
              have hz : bnd (fnOf (b ++ [o])) (n - 1) ≤ 1000 := by
                have g : ∀ i, -12 ≤ fnOf (b ++ [o]) i ∧ fnOf (b ++ [o]) i ≤ 12 := fun i => by
                  unfold fnOf
                  by_cases hi : i < (b ++ [o]).length
                  · rw [List.getD_eq_getElem?_getD, List.getElem?_eq_getElem hi]
                    exact hbd' _ (List.getElem_mem hi)
                  · rw [List.getD_eq_getElem?_getD, List.getElem?_eq_none (by omega)]
                    simp
                unfold bnd bendI
                have g1 := g (n - 1 - 1)
                have g2 := g (n - 1)
                have g3 := g (n - 1 + 1)
                split <;> omega
              have ez := decide_eq_true hz
              have hw1 : IntKind.i64.wrap ((n : Int) - 1) = ((n - 1 : Nat) : Int) := by rw [IntWalk.i64_in _ (by omega)]; omega
              have hcall := furrowworksref04_bend.calls A2 c2 (b ++ [o]) ((n - 1 : Nat) : Int) _ X3 hR3 (by omega) hb
              rw [hlL] at hcall
              generalize bnd (fnOf (b ++ [o])) (n - 1) = z at *
              refine exec_region_o fun ds => ?_
              gi_wp2_with fail
              refine ⟨trivial, rfl, (callsIn_wide.2 hcall).mono ?_⟩
              rintro e Y ⟨rfl, hy⟩
              gi_wp2
              exact eq_mk (Keep.of_below hy) ⟨hy, (by simp only [Slots, Fits, and_self])⟩
          rintro t' Y ⟨hy, hSl⟩
          clear x
          obtain ⟨x, hx⟩ := Slots.open_ hSl; simp only [fill, Nat.reduceAdd] at hx; subst hx; clear hSl
          show Exec _ _ _ _ _ _
          have hB2 := hB1.trans (hy.mono hB1.size)
          have ho2 := Kd.R_below ho' hy
          have hl2 := Kd.R_below hu2 hy
          have hn4 := hn3.trans (Onto.below hy)
          have hcall := ih Y v' (.slice A2 (n + 1) c2) (ll ++ (ints lo i).flatMap fun o => waysL rest (b ++ [o])) (b ++ [o]) hB2 (by simp [hbl]) hbd' ho2 hl2 hlist
          simp only [Fur.s0, hA] at hcall
          refine exec_cond (b := true) rfl (fun _ => ?_) (fun h => by cases h)
          refine exec_region_o fun ds => ?_
          gi_wp2_with fail
          refine ⟨trivial, rfl, (callsIn_wide.2 hcall).mono ?_⟩
          rintro e Z ⟨v'', rfl, hoz, hnz⟩
          have hK := hnz.keep ho2
          gi_wp2
          exact eq_mk hK ⟨v'', hoz, hn4.trans hnz, (by simp only [Slots, Fits, and_self])⟩
        · rintro t' Y ⟨v'', hoz, hnz, hSl⟩
          clear x
          obtain ⟨x, hx⟩ := Slots.open_ hSl; simp only [fill, Nat.reduceAdd] at hx; subst hx; clear hSl
          refine exec_region_o fun ds => ?_
          gi_wp2
          refine eq_mk (Keep.refl _) ⟨j - 1, hj1, i + 1, v'', him, hj2, ?_, hnz.lst hl, hon.trans hnz, ?_⟩
          · rw [flat_step, ← List.append_assoc, hoe]
            exact hoz
          · simp only [Fur.s0, hA, hue, hbl]
            simp only [Slots, Fits, and_self]
            trivial
      · have him : i = m := by have := of_decide_eq_false hp; omega
        subst him
        refine exec_exit ?_
        show ∃ _, _
        exact ⟨v', ho, hon, (by simp only [Slots, Fits, and_self])⟩
    rintro t' W ⟨v', ho, hon, hSl⟩
    obtain ⟨x, hx⟩ := Slots.open_ hSl; simp only [fill, Nat.reduceAdd] at hx; subst hx; clear hSl
    refine exec_seq (exec_region_o fun ds => ?_)
    gi_wp2
    refine eq_mk (Keep.refl _) ?_
    exact exec_ret ⟨.inr rfl, fun W2 hG => ⟨v', by simp [results, Try.f92, go_sem], ho.grow hG, hon.grow hG⟩⟩
end Go.Proofs.Ytafmgmaelnpehaa
end

section
set_option linter.unusedVariables false
set_option linter.unusedSimpArgs false
namespace Go.Proofs.Ytafmgmaelnpehaa
open Go.RowKit Go.TL Go.Shelf Go.Fu
open PFurrowAsks Go.Proofs.YtafmgmaelnpehaaW.PrintWords Go.Proofs.YtafmgmaelnpehaaW.PrintMore
theorem getD_cons_succ' (a : Int) (r : List Int) (i : Nat) : (a :: r).getD (i + 1) 0 = r.getD i 0 := by simp [List.getD_eq_getElem?_getD]
theorem mem_ways : ∀ (l : List (Int × Int)) (b x : List Int), x ∈ waysL l b ↔ ∃ y : List Int, x = b ++ y ∧ y.length = l.length ∧ ∀ i, i < l.length → InS l i (y.getD i 0)
  | [], b, x => by
    constructor
    · intro h
      exact ⟨[], by rw [List.append_nil]; exact List.mem_singleton.1 h, rfl, fun i hi => by simp at hi⟩
    · rintro ⟨y, rfl, hy, _⟩
      rw [List.length_eq_zero_iff.1 hy, List.append_nil]
      exact List.mem_singleton.2 rfl
  | s :: r, b, x => by
    show x ∈ (spanL s).flatMap _ ↔ _
    rw [List.mem_flatMap]
    constructor
    · rintro ⟨o, ho, hx⟩
      obtain ⟨y, rfl, hy, hi⟩ := (mem_ways r (b ++ [o]) x).1 hx
      refine ⟨o :: y, by simp, by simp [hy], fun i hi' => ?_⟩
      cases i with
      | zero => exact (mem_spanL s o).1 ho
      | succ i =>
        have := hi i (by simp at hi'; omega)
        unfold InS at this ⊢
        simpa [List.getD_eq_getElem?_getD] using this
    · rintro ⟨y, rfl, hy, hi⟩
      cases y with
      | nil => simp at hy
      | cons o y =>
        refine ⟨o, (mem_spanL s o).2 (hi 0 (by simp)), (mem_ways r (b ++ [o]) _).2 ⟨y, by simp, by simpa using hy, fun i hi' => ?_⟩⟩
        have := hi (i + 1) (by simp; omega)
        unfold InS at this ⊢
        simpa [List.getD_eq_getElem?_getD] using this
/-- All truths of some spans. -/
def allL (l : List (Int × Int)) : List (List Int) := waysL l []
theorem mem_all (l : List (Int × Int)) (x : List Int) : x ∈ allL l ↔ x.length = l.length ∧ Truth l (fnOf x) := by
  unfold allL
  rw [mem_ways]
  constructor
  · rintro ⟨y, e, hy, hi⟩
    rw [List.nil_append] at e
    subst e
    exact ⟨hy, hi⟩
  · rintro ⟨h1, h2⟩
    exact ⟨x, rfl, h1, h2⟩
theorem ways_len : ∀ (l : List (Int × Int)) (b : List Int), (∀ s ∈ l, (s.2 + 1 - s.1).toNat ≤ 4) → (waysL l b).length ≤ 4 ^ l.length
  | [], b, _ => by simp [waysL]
  | s :: r, b, h => by
    show ((spanL s).flatMap _).length ≤ _
    have h4 := h s List.mem_cons_self
    have hl : (spanL s).length ≤ 4 := by unfold spanL; rw [ints_len]; exact h4
    have g : ∀ (os : List Int), (os.flatMap fun o => waysL r (b ++ [o])).length ≤ os.length * 4 ^ r.length := by
      intro os
      induction os with
      | nil => simp
      | cons o os ih =>
        rw [List.flatMap_cons, List.length_append, List.length_cons, Nat.add_mul, Nat.one_mul]
        have := ways_len r (b ++ [o]) (fun s hs => h s (List.mem_cons_of_mem _ hs))
        omega
    refine Nat.le_trans (g _) ?_
    rw [List.length_cons, Nat.pow_succ, Nat.mul_comm]
    exact Nat.mul_le_mul_left _ hl
/-- Earlier by its letters. -/
def LexLt (x y : List Int) : Prop := ∃ i, (∀ j, j < i → x.getD j 0 = y.getD j 0) ∧ x.getD i 0 < y.getD i 0
theorem ways_lex : ∀ (l : List (Int × Int)) (b : List Int), (waysL l b).Pairwise LexLt
  | [], b => by simp [waysL]
  | s :: r, b => by
    show ((spanL s).flatMap _).Pairwise LexLt
    rw [List.pairwise_flatMap]
    refine ⟨fun o _ => ways_lex r (b ++ [o]), ?_⟩
    unfold spanL ints
    rw [List.pairwise_map]
    refine List.pairwise_lt_range.imp fun {p q} hpq x hx y hy => ?_
    obtain ⟨x', rfl, _⟩ := (mem_ways r _ x).1 hx
    obtain ⟨y', rfl, _⟩ := (mem_ways r _ y).1 hy
    refine ⟨b.length, fun j hj => ?_, ?_⟩
    · simp [List.getD_eq_getElem?_getD, List.getElem?_append, hj, Nat.lt_succ_of_lt hj]
    · simp [List.getD_eq_getElem?_getD, List.getElem?_append]
      omega
def toL (n : Nat) (x : Nat → Int) : List Int := (List.range n).map x
theorem toL_fn (n : Nat) (x : Nat → Int) (i : Nat) (h : i < n) : fnOf (toL n x) i = x i := by simp [fnOf, toL, List.getD_eq_getElem?_getD, h]
theorem truth_toL {l : List (Int × Int)} {x : Nat → Int} (h : Truth l x) : toL l.length x ∈ allL l := by
  rw [mem_all]
  refine ⟨by simp [toL], fun i hi => ?_⟩
  rw [toL_fn _ _ _ hi]
  exact h i hi
theorem mostF_congr {x y : Nat → Int} : ∀ k, (∀ i, i ≤ k + 1 → x i = y i) → mostF x k = mostF y k
  | 0, _ => rfl
  | k + 1, h => by
    unfold mostF
    rw [mostF_congr k (fun i hi => h i (by omega)), bnd_congr (n := k + 1) (h _ (by omega)) (h _ (by omega)) (h _ (by omega))]
theorem most_toL (l : List (Int × Int)) (x : Nat → Int) : mostL l (fnOf (toL l.length x)) = mostL l x := by
  unfold mostL
  rcases Nat.lt_or_ge l.length 2 with h | h
  · rw [show l.length - 2 = 0 by omega]
    rfl
  · exact mostF_congr _ fun i hi => toL_fn _ _ _ (by omega)
theorem bnd_toL {l : List (Int × Int)} {n : Nat} (h : n + 1 < l.length) (x : Nat → Int) : bnd (fnOf (toL l.length x)) n = bnd x n :=
  bnd_congr (toL_fn _ _ _ (by omega)) (toL_fn _ _ _ (by omega)) (toL_fn _ _ _ h)
/-- The least span of some numbers of lists, one after the other. -/
def hullV (f : List Int → Int) (ll : List (List Int)) : Nat → Int × Int
  | 0 => (0, 0)
  | i + 1 => if i = 0 then (f (ll.getD i []), f (ll.getD i [])) else (mn (hullV f ll i).1 (f (ll.getD i [])), mx (hullV f ll i).2 (f (ll.getD i [])))
theorem hull_spec (f : List Int → Int) (ll : List (List Int)) : ∀ n, 1 ≤ n → (∀ i, i < n → (hullV f ll n).1 ≤ f (ll.getD i []) ∧ f (ll.getD i []) ≤ (hullV f ll n).2) ∧ (∃ i, i < n ∧ f (ll.getD i []) = (hullV f ll n).1) ∧ ∃ i, i < n ∧ f (ll.getD i []) = (hullV f ll n).2
  | 0, h => by omega
  | 1, _ => ⟨fun i hi => (by
      obtain rfl : i = 0 := by omega
      exact ⟨Int.le_refl _, Int.le_refl _⟩), ⟨0, by omega, rfl⟩, ⟨0, by omega, rfl⟩⟩
  | n + 2, _ => by
    obtain ⟨h1, ⟨a, ha, ea⟩, ⟨b, hb, eb⟩⟩ := hull_spec f ll (n + 1) (by omega)
    have e : hullV f ll (n + 2) = (mn (hullV f ll (n + 1)).1 (f (ll.getD (n + 1) [])), mx (hullV f ll (n + 1)).2 (f (ll.getD (n + 1) []))) := by
      show (if n + 1 = 0 then _ else _) = _
      rw [if_neg (by omega)]
    rw [e]
    generalize hullV f ll (n + 1) = s at *
    obtain ⟨lo, hi⟩ := s
    simp only at h1 ea eb ⊢
    generalize hv : f (ll.getD (n + 1) []) = v at *
    unfold mn mx
    refine ⟨fun i hi => ?_, ?_, ?_⟩
    · by_cases e : i = n + 1
      · subst e
        rw [hv]
        split <;> split <;> omega
      · have := h1 i (by omega)
        split <;> split <;> omega
    · split
      · exact ⟨n + 1, by omega, hv⟩
      · exact ⟨a, by omega, ea⟩
    · split
      · exact ⟨n + 1, by omega, hv⟩
      · exact ⟨b, by omega, eb⟩
theorem hull_eq (f : List Int → Int) (ll : List (List Int)) (lo hi : Int) (h : ∀ x ∈ ll, lo ≤ f x ∧ f x ≤ hi) (h1 : ∃ x ∈ ll, f x = lo) (h2 : ∃ x ∈ ll, f x = hi) : hullV f ll ll.length = (lo, hi) := by
  obtain ⟨x, hx, ex⟩ := h1
  obtain ⟨y, hy, ey⟩ := h2
  have hpos : 1 ≤ ll.length := List.length_pos_of_mem hx
  obtain ⟨g1, ⟨a, ha, ea⟩, ⟨b, hb, eb⟩⟩ := hull_spec f ll ll.length hpos
  have gm : ∀ i, i < ll.length → ll.getD i [] ∈ ll := fun i hi => by
    rw [List.getD_eq_getElem?_getD, List.getElem?_eq_getElem hi]
    exact List.getElem_mem hi
  have gx : ∀ x ∈ ll, ∃ i, i < ll.length ∧ ll.getD i [] = x := fun x hx => by
    obtain ⟨i, hi, rfl⟩ := List.getElem_of_mem hx
    exact ⟨i, hi, by rw [List.getD_eq_getElem?_getD, List.getElem?_eq_getElem hi]; rfl⟩
  obtain ⟨i, hi', rfl⟩ := gx x hx
  obtain ⟨j, hj, rfl⟩ := gx y hy
  have a1 := (g1 i hi').1
  have a2 := (g1 j hj).2
  have a3 := (h _ (gm a ha)).1
  have a4 := (h _ (gm b hb)).2
  generalize hullV f ll ll.length = s at *
  obtain ⟨s1, s2⟩ := s
  simp only at a1 a2 ea eb
  rw [show s1 = lo by omega, show s2 = hi by omega]
def mostX (x : List Int) : Int := mostF (fnOf x) (x.length - 2)
theorem mostX_all {l : List (Int × Int)} {x : List Int} (h : x ∈ allL l) : mostX x = mostL l (fnOf x) := by
  unfold mostX mostL
  rw [((mem_all l x).1 h).1]
theorem bend_law {l : List (Int × Int)} (hok : ∀ x ∈ l, okSpan x) : hullV mostX (allL l) (allL l).length = ((leastN l : Int), hiF l (l.length - 2)) := by
  obtain ⟨⟨x, hx, ex⟩, hl⟩ := least_spec l hok
  obtain ⟨⟨y, hy, ey⟩, hh⟩ := hi_spec l hok
  refine hull_eq _ _ _ _ (fun z hz => ?_) ⟨_, truth_toL hx, ?_⟩ ⟨_, truth_toL hy, ?_⟩
  · rw [mostX_all hz]
    exact ⟨hl _ ((mem_all l z).1 hz).2, hh _ ((mem_all l z).1 hz).2⟩
  · rw [mostX_all (truth_toL hx), most_toL, ex]
  · rw [mostX_all (truth_toL hy), most_toL, ey]
theorem at_law {l : List (Int × Int)} (hok : ∀ x ∈ l, okSpan x) {n : Nat} (h1 : 1 ≤ n) (h2 : n + 1 < l.length) : hullV (fun x => bnd (fnOf x) n) (allL l) (allL l).length = atF l n := by
  obtain ⟨ha, ⟨x, hx, ex⟩, ⟨y, hy, ey⟩⟩ := at_spec l n h1 h2 hok
  generalize atF l n = s at *
  refine hull_eq _ _ _ _ (fun z hz => ha _ ((mem_all l z).1 hz).2) ⟨_, truth_toL hx, ?_⟩ ⟨_, truth_toL hy, ?_⟩
  · show bnd _ n = _
    rw [bnd_toL h2, ex]
  · show bnd _ n = _
    rw [bnd_toL h2, ey]
/-- The first list of those with the least number, as it is looked for. -/
def bestV (f : List Int → Int) (ll : List (List Int)) : Nat → List Int
  | 0 => ll.getD 0 []
  | i + 1 => if f (ll.getD i []) < f (bestV f ll i) then ll.getD i [] else bestV f ll i
theorem best_spec (f : List Int → Int) (ll : List (List Int)) : ∀ n, 1 ≤ n → ∃ i, i < n ∧ bestV f ll n = ll.getD i [] ∧ (∀ j, j < n → f (ll.getD i []) ≤ f (ll.getD j [])) ∧ ∀ j, j < i → f (ll.getD i []) < f (ll.getD j [])
  | 0, h => by omega
  | 1, _ => ⟨0, by omega, by show (if _ then _ else _) = _; split <;> rfl, fun j hj => (by
      obtain rfl : j = 0 := by omega
      exact Int.le_refl _), fun j hj => by omega⟩
  | n + 2, _ => by
    obtain ⟨i, hi, e, h1, h2⟩ := best_spec f ll (n + 1) (by omega)
    show ∃ k, k < n + 2 ∧ (if f (ll.getD (n + 1) []) < f (bestV f ll (n + 1)) then ll.getD (n + 1) [] else bestV f ll (n + 1)) = _ ∧ _
    rw [e]
    split
    · rename_i hlt
      refine ⟨n + 1, by omega, rfl, fun j hj => ?_, fun j hj => ?_⟩
      · by_cases e : j = n + 1
        · subst e; exact Int.le_refl _
        · have := h1 j (by omega); omega
      · have := h1 j hj; omega
    · rename_i hge
      refine ⟨i, by omega, rfl, fun j hj => ?_, h2⟩
      by_cases e : j = n + 1
      · subst e; omega
      · exact h1 j (by omega)
theorem str_law {l : List (Int × Int)} (hok : ∀ x ∈ l, okSpan x) {o : List Int} (ho : StrSpec l o) : bestV mostX (allL l) (allL l).length = o := by
  have hom : o ∈ allL l := (mem_all l o).2 ⟨ho.len, ho.tr⟩
  obtain ⟨q, hq, hqe⟩ := List.getElem_of_mem hom
  have gq : (allL l).getD q [] = o := by rw [List.getD_eq_getElem?_getD, List.getElem?_eq_getElem hq]; exact hqe
  obtain ⟨p, hp, e, h1, h2⟩ := best_spec mostX (allL l) (allL l).length (by omega)
  rw [e]
  have gp : (allL l).getD p [] = (allL l)[p]'hp := by rw [List.getD_eq_getElem?_getD, List.getElem?_eq_getElem hp]; rfl
  have hpm : (allL l).getD p [] ∈ allL l := by rw [gp]; exact List.getElem_mem hp
  obtain ⟨x, hx⟩ : ∃ x, (allL l).getD p [] = x := ⟨_, rfl⟩
  have hle := h1 q hq
  rw [gq] at hle
  rw [hx] at hpm hle h2 gp ⊢
  have mx_ : mostX x = mostL l (fnOf x) := mostX_all hpm
  have mo_ : mostX o = mostL l (fnOf o) := mostX_all hom
  have ht := ((mem_all l x).1 hpm)
  have hmx : mostL l (fnOf x) ≤ leastN l := by rw [← mx_, ← ho.most, ← mo_]; exact hle
  rcases Nat.lt_trichotomy p q with hpq | hpq | hpq
  · exfalso
    obtain ⟨i, hj, hi⟩ := List.pairwise_iff_getElem.1 (ways_lex l []) p q hp hq hpq
    have e1 : (waysL l [])[p]'hp = x := gp.symm
    have e2 : (waysL l [])[q]'hq = o := hqe
    rw [e1, e2] at hj hi
    have hil : i < l.length := by
      rcases Nat.lt_or_ge i l.length with h | h
      · exact h
      · rw [List.getD_eq_getElem?_getD, List.getD_eq_getElem?_getD, List.getElem?_eq_none (by rw [ht.1]; exact h), List.getElem?_eq_none (by rw [ho.len]; exact h)] at hi
        exact absurd hi (by simp)
    have := ho.first (fnOf x) ht.2 hmx i hil (fun j hj' => hj j hj') (by unfold fnOf; omega)
    unfold fnOf at this
    omega
  · subst hpq
    rw [← hx, gq]
  · exfalso
    have := h2 q hpq
    rw [gq, mx_, mo_, ho.most] at this
    have := (least_spec l hok).2 _ ht.2
    omega
/-- Of how many of the first lists something is so. -/
def cntV (p : List Int → Bool) (ll : List (List Int)) : Nat → Nat
  | 0 => 0
  | i + 1 => if p (ll.getD i []) then cntV p ll i + 1 else cntV p ll i
theorem cnt_le (p : List Int → Bool) (ll : List (List Int)) : ∀ n, cntV p ll n ≤ n
  | 0 => Nat.le_refl _
  | n + 1 => by have := cnt_le p ll n; unfold cntV; split <;> omega
theorem cnt_all (p : List Int → Bool) (ll : List (List Int)) : ∀ n, cntV p ll n = n ↔ ∀ i, i < n → p (ll.getD i []) = true
  | 0 => ⟨fun _ i hi => by omega, fun _ => rfl⟩
  | n + 1 => by
    have ih := cnt_all p ll n
    have hl := cnt_le p ll n
    unfold cntV
    constructor
    · intro h i hi
      split at h
      · rename_i hp
        by_cases e : i = n
        · subst e; exact hp
        · exact ih.1 (by omega) i (by omega)
      · omega
    · intro h
      rw [if_pos (h n (by omega)), ih.2 fun i hi => h i (by omega)]
theorem cnt_pos (p : List Int → Bool) (ll : List (List Int)) : ∀ n, 0 < cntV p ll n ↔ ∃ i, i < n ∧ p (ll.getD i []) = true
  | 0 => ⟨fun h => by simp [cntV] at h, fun ⟨i, hi, _⟩ => by omega⟩
  | n + 1 => by
    have ih := cnt_pos p ll n
    unfold cntV
    constructor
    · intro h
      split at h
      · rename_i hp; exact ⟨n, by omega, hp⟩
      · obtain ⟨i, hi, hp⟩ := ih.1 h; exact ⟨i, by omega, hp⟩
    · rintro ⟨i, hi, hp⟩
      split
      · omega
      · rename_i hn
        exact ih.2 ⟨i, by
          by_cases e : i = n
          · subst e; exact absurd hp hn
          · omega, hp⟩
/-- A furrow of these offsets bends most at a station. -/
def wstX (n : Nat) (x : List Int) : Bool := bnd (fnOf x) n == mostX x
theorem wst_iff {l : List (Int × Int)} {n : Nat} (h1 : 1 ≤ n) (h2 : n + 1 < l.length) {x : List Int} (hx : x ∈ allL l) : wstX n x = true ↔ ∀ i, 1 ≤ i → i + 1 < l.length → bnd (fnOf x) i ≤ bnd (fnOf x) n := by
  unfold wstX
  rw [beq_iff_eq, mostX_all hx]
  constructor
  · intro e i a b
    rw [e]
    exact bnd_le_most a b
  · intro h
    have a := (mostL_le (bnd_nn (fnOf x) n)).2 h
    have b : bnd (fnOf x) n ≤ mostL l (fnOf x) := bnd_le_most h1 h2
    omega
theorem wst_mem {ll : List (List Int)} {i : Nat} (hi : i < ll.length) : ll.getD i [] ∈ ll := by
  rw [List.getD_eq_getElem?_getD, List.getElem?_eq_getElem hi]
  exact List.getElem_mem hi
theorem wst_all {l : List (Int × Int)} (hok : ∀ x ∈ l, okSpan x) {n : Nat} (h1 : 1 ≤ n) (h2 : n + 1 < l.length) : cntV (wstX n) (allL l) (allL l).length = (allL l).length ↔ worstS l n = true := by
  rw [cnt_all, worstS_iff l n h1 h2 hok]
  constructor
  · intro h x hx i a b
    obtain ⟨j, hj, hje⟩ := List.getElem_of_mem (truth_toL hx)
    have := h j hj
    rw [show (allL l).getD j [] = toL l.length x by rw [List.getD_eq_getElem?_getD, List.getElem?_eq_getElem hj]; exact hje] at this
    have := (wst_iff h1 h2 (truth_toL hx)).1 this i a b
    rwa [bnd_toL b, bnd_toL h2] at this
  · intro h i hi
    exact (wst_iff h1 h2 (wst_mem hi)).2 fun j a b => h _ ((mem_all l _).1 (wst_mem hi)).2 j a b
theorem wst_some {l : List (Int × Int)} (hok : ∀ x ∈ l, okSpan x) {n : Nat} (h1 : 1 ≤ n) (h2 : n + 1 < l.length) : 0 < cntV (wstX n) (allL l) (allL l).length ↔ worstC l n = true := by
  rw [cnt_pos, worstC_iff l n h1 h2 hok]
  constructor
  · rintro ⟨i, hi, hp⟩
    exact ⟨_, ((mem_all l _).1 (wst_mem hi)).2, (wst_iff h1 h2 (wst_mem hi)).1 hp⟩
  · rintro ⟨x, hx, h⟩
    obtain ⟨j, hj, hje⟩ := List.getElem_of_mem (truth_toL hx)
    refine ⟨j, hj, ?_⟩
    rw [show (allL l).getD j [] = toL l.length x by rw [List.getD_eq_getElem?_getD, List.getElem?_eq_getElem hj]; exact hje]
    refine (wst_iff h1 h2 (truth_toL hx)).2 fun i a b => ?_
    rw [bnd_toL b, bnd_toL h2]
    exact h i a b
end Go.Proofs.Ytafmgmaelnpehaa
end

section
namespace Go.Proofs.Ytafmgmaelnpehaa.PFurrowAsks
open Go.RowKit Go.Proofs.YtafmgmaelnpehaaW.PrintWords Go.Proofs.YtafmgmaelnpehaaW.PrintLast Go.Proofs.YtafmgmaelnpehaaW.PrintMore
attribute [local go_sem] max2_int min2_int max_two min_two max_three min_three max_four min_four   -- for this text's walks alone
set_option linter.unusedVariables false
set_option linter.unusedSimpArgs false

/-! ### furrowworksref04_hull: function 51 -/
def furrowworksref04_hull.f (a0_0 : Int) (a0_1 : Int) (a1 : Int) (a2 : Bool) : Option (Int × Int) := if a2 = true then (some (a1, a1)) else (some (mn a0_0 a1, mx a0_1 a1))
set_option maxHeartbeats 8000000 in
set_option maxRecDepth 100000 in
theorem furrowworksref04_hull.calls (a0_0 : Int) (a0_1 : Int) (a1 : Int) (a2 : Bool) (r1 : Int) (r2 : Int) (w : World) (h : furrowworksref04_hull.f a0_0 a0_1 a1 a2 = some (r1, r2)) :
    Calls Try.prog 51 #[.agg #[.int .i64 a0_0, .int .i64 a0_1], .int .i64 a1, .bool a2] w fun e w' => e = .returned (.agg #[.int .i64 r1, .int .i64 r2]) ∧ Below w.heap.size w w' := by
  have hu28 := Try.underlying28
  have HB := Aside0.mk (Below.refl w.heap.size w)
  have H : (if a2 = true then (some (a1, a1)) else (some (mn a0_0 a1, mx a0_1 a1))) = some (r1, r2) := h
  clear h
  by_cases c4 : a2 = true
  · subst c4
    have H1 : (some (a1, a1)) = some (r1, r2) := by rw [if_pos rfl] at H; exact H
    clear H
    have H := H1
    clear H1
    simp only [Option.some.injEq, Prod.mk.injEq] at H
    obtain ⟨rfl, rfl⟩ := H
    go_enter Try.func51, Try.ntmps51
    go_wp2_with (first | ((with_reducible refine gate_dst (N := 3) rfl ?_); refine box_event ?hg (N := 3) ?hd (cs := #[.int .i64 a0_0, .int .i64 a0_1]) (t := 28) ?hr ?_; (case hd => rfl); (case hg => rfl); (case hr => first | (go_simp; done) | (go_simp; rfl)); intro gb169 hg w5 hbox hb; have n0_ := Aside0.mk (below_step (by repeat (first | (with_reducible first | exact HB.out | apply below_alloc | apply pw_below_drewN | apply below_drew1) | exact HB.out)) hb); have n1_ := Aside0.mk (hbox); have n2_ := Aside0.mk ((by rw [hg]; exact (below_size (by repeat (first | (with_reducible first | exact HB.out | apply below_alloc | apply pw_below_drewN | apply below_drew1) | exact HB.out))) : w.heap.size ≤ gb169)); have n3_ := Aside0.mk ((by rw [hg]; exact (below_size (by repeat (first | (with_reducible first | exact HB.out | apply below_alloc | apply pw_below_drewN | apply below_drew1) | exact HB.out))) : w.heap.size ≤ gb169)); clear HB; have HB := n0_; have BK169 := n1_; have GW169 := n2_; have GE169 := n3_; clear n0_ n1_ n2_ n3_; clear hb hbox hg) | ((with_reducible refine gate_dst (N := 6) rfl ?_); refine box_event ?hg (N := 6) ?hd (cs := #[.int .i64 0, .int .i64 0]) (t := 28) ?hr ?_; (case hd => rfl); (case hg => rfl); (case hr => first | (go_simp; done) | (go_simp; rfl)); intro gb170 hg w6 hbox hb; have n0_ := Aside0.mk (blk_below (g := gb169) (o := .cells #[.int .i64 a0_0, .int .i64 a0_1] 28 (0, 0)) (by (with_reducible repeat (first | refine blk_drewN ?_ _ | refine blk_drew ?_ | refine blk_alloc ?_ _)); exact BK169.out) hb); have n1_ := Aside0.mk (below_step (by repeat (first | (with_reducible first | exact HB.out | apply below_alloc | apply pw_below_drewN | apply below_drew1 | refine below_set ?_ GE169.out) | exact HB.out)) hb); have n2_ := Aside0.mk (hbox); have n3_ := Aside0.mk ((by rw [hg]; exact (below_size (by repeat (first | (with_reducible first | exact HB.out | apply below_alloc | apply pw_below_drewN | apply below_drew1 | refine below_set ?_ GE169.out) | exact HB.out))) : w.heap.size ≤ gb170)); have n4_ := Aside0.mk ((by rw [hg]; exact (below_size (by repeat (first | (with_reducible first | exact HB.out | apply below_alloc | apply pw_below_drewN | apply below_drew1 | refine below_set ?_ GE169.out) | exact HB.out))) : w.heap.size ≤ gb170)); have n5_ := Aside0.mk ((by rw [hg]; exact Nat.ne_of_lt (blk_lt (g := gb169) (o := .cells #[.int .i64 a0_0, .int .i64 a0_1] 28 (0, 0)) (by (with_reducible repeat (first | refine blk_drewN ?_ _ | refine blk_drew ?_ | refine blk_alloc ?_ _)); exact BK169.out)) : gb169 ≠ gb170)); have n6_ := Aside0.mk ((by rw [hg]; exact Nat.ne_of_gt (blk_lt (g := gb169) (o := .cells #[.int .i64 a0_0, .int .i64 a0_1] 28 (0, 0)) (by (with_reducible repeat (first | refine blk_drewN ?_ _ | refine blk_drew ?_ | refine blk_alloc ?_ _)); exact BK169.out)) : gb170 ≠ gb169)); clear BK169; clear HB; have BK169 := n0_; have HB := n1_; have BK170 := n2_; have GW170 := n3_; have GE170 := n4_; have NB169_170 := n5_; have NB170_169 := n6_; clear n0_ n1_ n2_ n3_ n4_ n5_ n6_; clear hb hbox hg; have hnb7 := NB170_169.out; have hnc7 := NB169_170.out; have hcz8_0 : w6.cell? ⟨gb170, 0, none⟩ = some (.int .i64 0) := (blk_cell BK170.out 0).trans rfl; have hcz8_1 : w6.cell? ⟨gb170, 1, none⟩ = some (.int .i64 0) := (blk_cell BK170.out 1).trans rfl; have hfz8_0 := blk_frozen BK170.out 0; have hfz8_1 := blk_frozen BK170.out 1))
    refine bodyPost_ret (results_cell_row rfl _ _ gb170 28 #[.int .i64 a1, .int .i64 a1] (0, 0) _ rfl (by (with_reducible repeat (first | refine blk_drewN ?_ _ | refine blk_drew ?_ | refine blk_alloc ?_ _)); refine blk_put (cs := #[.int .i64 a1, .int .i64 0]) ?_ 1 _ rfl; (with_reducible repeat (first | refine blk_drewN ?_ _ | refine blk_drew ?_ | refine blk_alloc ?_ _)); refine blk_put (cs := #[.int .i64 0, .int .i64 0]) ?_ 0 _ rfl; (with_reducible repeat (first | refine blk_drewN ?_ _ | refine blk_drew ?_ | refine blk_alloc ?_ _)); exact BK170.out) Try.underlying28 rfl (by kernel_rfl)) rfl ?_
    exact ⟨by first | rfl | (simp [errW_none, errW_some] <;> rfl) | (simp [*, errW_none, errW_some] <;> rfl), by repeat (first | (with_reducible first | exact HB.out | apply below_alloc | apply pw_below_drewN | apply below_drew1 | refine below_set ?_ GE169.out | refine below_set ?_ GE170.out) | exact HB.out)⟩
  · replace c4 := Bool.eq_false_iff.mpr c4
    subst c4
    have H1 : (some (mn a0_0 a1, mx a0_1 a1)) = some (r1, r2) := by rw [if_neg (show ¬ (false = true) by decide)] at H; exact H
    clear H
    have H := H1
    clear H1
    obtain ⟨ji9, hji9⟩ : ∃ j_ : Int, (mn a0_0 a1) = j_ := ⟨_, rfl⟩
    replace H : (some (ji9, mx a0_1 a1)) = some (r1, r2) := by first | (rw [hji9] at H; exact H) | (simp only [hji9] at H ⊢; exact H)
    have hji9_ : (if a1 < a0_0 then a1 else a0_0) = ji9 := hji9
    obtain ⟨ji10, hji10⟩ : ∃ j_ : Int, (mx a0_1 a1) = j_ := ⟨_, rfl⟩
    replace H : (some (ji9, ji10)) = some (r1, r2) := by first | (rw [hji10] at H; exact H) | (simp only [hji10] at H ⊢; exact H)
    have hji10_ : (if a0_1 < a1 then a1 else a0_1) = ji10 := hji10
    simp only [Option.some.injEq, Prod.mk.injEq] at H
    obtain ⟨rfl, rfl⟩ := H
    go_enter Try.func51, Try.ntmps51
    go_wp2_with (first | ((with_reducible refine gate_dst (N := 3) rfl ?_); refine box_event ?hg (N := 3) ?hd (cs := #[.int .i64 a0_0, .int .i64 a0_1]) (t := 28) ?hr ?_; (case hd => rfl); (case hg => rfl); (case hr => first | (go_simp; done) | (go_simp; rfl)); intro gb169 hg w11 hbox hb; have n0_ := Aside0.mk (below_step (by repeat (first | (with_reducible first | exact HB.out | apply below_alloc | apply pw_below_drewN | apply below_drew1) | exact HB.out)) hb); have n1_ := Aside0.mk (hbox); have n2_ := Aside0.mk ((by rw [hg]; exact (below_size (by repeat (first | (with_reducible first | exact HB.out | apply below_alloc | apply pw_below_drewN | apply below_drew1) | exact HB.out))) : w.heap.size ≤ gb169)); have n3_ := Aside0.mk ((by rw [hg]; exact (below_size (by repeat (first | (with_reducible first | exact HB.out | apply below_alloc | apply pw_below_drewN | apply below_drew1) | exact HB.out))) : w.heap.size ≤ gb169)); clear HB; have HB := n0_; have BK169 := n1_; have GW169 := n2_; have GE169 := n3_; clear n0_ n1_ n2_ n3_; clear hb hbox hg) | ((with_reducible refine gate_dst (N := 6) rfl ?_); refine box_event ?hg (N := 6) ?hd (cs := #[.int .i64 0, .int .i64 0]) (t := 28) ?hr ?_; (case hd => rfl); (case hg => rfl); (case hr => first | (go_simp; done) | (go_simp; rfl)); intro gb170 hg w12 hbox hb; have n0_ := Aside0.mk (blk_below (g := gb169) (o := .cells #[.int .i64 a0_0, .int .i64 a0_1] 28 (0, 0)) (by (with_reducible repeat (first | refine blk_drewN ?_ _ | refine blk_drew ?_ | refine blk_alloc ?_ _)); exact BK169.out) hb); have n1_ := Aside0.mk (below_step (by repeat (first | (with_reducible first | exact HB.out | apply below_alloc | apply pw_below_drewN | apply below_drew1 | refine below_set ?_ GE169.out) | exact HB.out)) hb); have n2_ := Aside0.mk (hbox); have n3_ := Aside0.mk ((by rw [hg]; exact (below_size (by repeat (first | (with_reducible first | exact HB.out | apply below_alloc | apply pw_below_drewN | apply below_drew1 | refine below_set ?_ GE169.out) | exact HB.out))) : w.heap.size ≤ gb170)); have n4_ := Aside0.mk ((by rw [hg]; exact (below_size (by repeat (first | (with_reducible first | exact HB.out | apply below_alloc | apply pw_below_drewN | apply below_drew1 | refine below_set ?_ GE169.out) | exact HB.out))) : w.heap.size ≤ gb170)); have n5_ := Aside0.mk ((by rw [hg]; exact Nat.ne_of_lt (blk_lt (g := gb169) (o := .cells #[.int .i64 a0_0, .int .i64 a0_1] 28 (0, 0)) (by (with_reducible repeat (first | refine blk_drewN ?_ _ | refine blk_drew ?_ | refine blk_alloc ?_ _)); exact BK169.out)) : gb169 ≠ gb170)); have n6_ := Aside0.mk ((by rw [hg]; exact Nat.ne_of_gt (blk_lt (g := gb169) (o := .cells #[.int .i64 a0_0, .int .i64 a0_1] 28 (0, 0)) (by (with_reducible repeat (first | refine blk_drewN ?_ _ | refine blk_drew ?_ | refine blk_alloc ?_ _)); exact BK169.out)) : gb170 ≠ gb169)); clear BK169; clear HB; have BK169 := n0_; have HB := n1_; have BK170 := n2_; have GW170 := n3_; have GE170 := n4_; have NB169_170 := n5_; have NB170_169 := n6_; clear n0_ n1_ n2_ n3_ n4_ n5_ n6_; clear hb hbox hg; have hnb13 := NB169_170.out; have hnc13 := NB170_169.out; have hcz14_0 : w12.cell? ⟨gb169, 0, none⟩ = some (.int .i64 a0_0) := (blk_cell BK169.out 0).trans rfl; have hcz14_1 : w12.cell? ⟨gb169, 1, none⟩ = some (.int .i64 a0_1) := (blk_cell BK169.out 1).trans rfl; have hfz14_0 := blk_frozen BK169.out 0; have hfz14_1 := blk_frozen BK169.out 1; have hcz15_0 : w12.cell? ⟨gb170, 0, none⟩ = some (.int .i64 0) := (blk_cell BK170.out 0).trans rfl; have hcz15_1 : w12.cell? ⟨gb170, 1, none⟩ = some (.int .i64 0) := (blk_cell BK170.out 1).trans rfl; have hfz15_0 := blk_frozen BK170.out 0; have hfz15_1 := blk_frozen BK170.out 1))
    refine bodyPost_ret (results_cell_row rfl _ _ gb170 28 #[.int .i64 ji9, .int .i64 ji10] (0, 0) _ rfl (by (with_reducible repeat (first | refine blk_drewN ?_ _ | refine blk_drew ?_ | refine blk_alloc ?_ _)); refine blk_put (cs := #[.int .i64 ji9, .int .i64 0]) ?_ 1 _ rfl; (with_reducible repeat (first | refine blk_drewN ?_ _ | refine blk_drew ?_ | refine blk_alloc ?_ _)); refine blk_put (cs := #[.int .i64 0, .int .i64 0]) ?_ 0 _ rfl; (with_reducible repeat (first | refine blk_drewN ?_ _ | refine blk_drew ?_ | refine blk_alloc ?_ _)); exact BK170.out) Try.underlying28 rfl (by kernel_rfl)) rfl ?_
    exact ⟨by first | rfl | (simp [errW_none, errW_some] <;> rfl) | (simp only [← hji9, ← hji10]; first | rfl | (simp [errW_none, errW_some] <;> rfl)) | (simp [*, errW_none, errW_some] <;> rfl), by repeat (first | (with_reducible first | exact HB.out | apply below_alloc | apply pw_below_drewN | apply below_drew1 | refine below_set ?_ GE169.out | refine below_set ?_ GE170.out) | exact HB.out)⟩

end Go.Proofs.Ytafmgmaelnpehaa.PFurrowAsks
end

section
set_option linter.unusedVariables false
set_option linter.unusedSimpArgs false
namespace Go.Proofs.Ytafmgmaelnpehaa
open Go.RowKit Go.TL Go.Shelf Go.Fu
attribute [local go_sem] Oper.semAt_some
open PFurrowAsks Go.Proofs.YtafmgmaelnpehaaW.PrintWords
theorem at_L {w : World} {A : Option Addr} {ll : List (List Int)} (h : KL.C w A ll.length ll) (i : Nat) (hi : i < ll.length) : ∃ ad A' c', A = some ad ∧ w.cell? (ad.add i) = some (.slice A' (ll.getD i []).length c') ∧ (ll.getD i []).length ≤ c' ∧ RowI w A' (ll.getD i []) := by
  obtain ⟨ad, c, e, _, hK, hc⟩ := Kd.C_get h [] (i : Int) (by omega) (by omega)
  rw [Int.toNat_natCast] at hK hc
  obtain ⟨A', c', rfl, hl, hr⟩ := hK
  have hc0 := hc 0 _ rfl
  rw [show i * KL.sz + 0 = i from Nat.mul_one i] at hc0
  exact ⟨ad, A', c', e, hc0, hl, hr⟩
theorem RowI.grow {W W' : World} {n : Nat} {A : Option Addr} {l : List Int} (h : RowI W A l) (hG : Grow n W W') : RowI W' A l := by
  obtain ⟨h1, h2, h3⟩ := h
  refine ⟨h1, h2, fun hp => ?_⟩
  obtain ⟨ad, e, hc⟩ := h3 hp
  refine ⟨ad, e, fun j p hj => ?_⟩
  obtain ⟨c, hs, hk, hcell⟩ := hc j p hj
  exact ⟨_, hs, hk, fun i u hu => hG.cell (hcell i u hu)⟩
theorem C_grow {W W' : World} {n m : Nat} {A : Option Addr} {ll : List (List Int)} (h : KL.C W A m ll) (hG : Grow n W W') : KL.C W' A m ll := by
  obtain ⟨h1, h2, h3⟩ := h
  refine ⟨h1, h2, fun hp => ?_⟩
  obtain ⟨ad, e, hc⟩ := h3 hp
  refine ⟨ad, e, fun j p hj => ?_⟩
  obtain ⟨c, hs, ⟨A', c', h4, h5, h6⟩, hcell⟩ := hc j p hj
  exact ⟨_, hs, ⟨A', c', h4, h5, RowI.grow h6 hG⟩, fun i u hu => hG.cell (hcell i u hu)⟩
set_option maxRecDepth 100000 in
theorem All_c {F : Fur} (hva : F.va = true) (w : World) (h : F.At w) (hl : (allL F.pl).length ≤ 1000000) :
    Calls Try.prog 50 #[F.val] w fun e w' => (∃ A c, e = .returned (.slice A (allL F.pl).length c) ∧ (allL F.pl).length ≤ c ∧ KL.C w' A (allL F.pl).length (allL F.pl)) ∧ Below w.heap.size w w' := by
  refine calls_of_exec Try.func50 rfl ?_
  simp only [Try.ntmps50, List.size_toArray, List.length_cons, List.length_nil, Nat.reduceAdd, Nat.reduceSub, Array.replicate_succ, Array.replicate_zero, List.push_toArray, List.append_toArray, List.nil_append, List.cons_append]
  simp only [Fur.val]
  refine exec_seq (exec_region_o fun ds => ?_)
  gi_wp2
  refine eq_mk ((Keep.refl w).alloc _) ?_
  show Exec _ _ _ _ _ _
  have b1 := Box3.new w 24 F.s0 F.s1 F.s2
  have hB := (Below.refl w.heap.size w).alloc (Nat.le_refl _) (.cells #[F.s0, F.s1, F.s2] 24)
  generalize w.alloc (.cells #[F.s0, F.s1, F.s2] 24) = V at *
  have hF := h.below hB
  have c0 := b1.cell0
  have hc := ways_c hva hF F.l0.length 0 (by omega) V (.slice none 0 0) (.slice none 0 0) [] [] (Below.refl _ _) rfl (fun x hx => by cases hx) (Kd.R_nil _ _ _ _ _) (Kd.R_nil _ _ _ _ _) (by rw [List.nil_append, List.drop_zero]; exact hl)
  refine exec_seq (exec_region_o fun ds => ?_)
  gi_wp2_with fail
  refine ⟨trivial, rfl, (callsIn_wide.2 hc).mono ?_⟩
  rintro e X ⟨v', rfl, ho, hn⟩
  rw [List.nil_append, List.drop_zero] at ho
  have hx := hn.nil
  gi_wp2
  refine eq_mk (Keep.of_below hx) ?_
  obtain ⟨A, c, e, hcl, hC⟩ := Kd.R_reads ho
  subst e
  have hBX := hB.trans (hx.mono hB.size)
  exact exec_ret ⟨.inr rfl, fun W' hG => ⟨.slice A (allL F.pl).length c, by simp [results, Try.f50, go_sem]; rfl, ⟨A, c, rfl, hcl, C_grow hC hG⟩, hBX.trans (hG.below (Nat.le_refl _) hBX.size)⟩⟩
open Go.Proofs.YtafmgmaelnpehaaW.PrintMore in
theorem hull_step (f : List Int → Int) (ll : List (List Int)) (i : Nat) : furrowworksref04_hull.f (hullV f ll i).1 (hullV f ll i).2 (f (ll.getD i [])) (((i : Nat) : Int) == 0) = some ((hullV f ll (i + 1)).1, (hullV f ll (i + 1)).2) := by
  unfold furrowworksref04_hull.f
  by_cases h : i = 0
  · subst h
    rfl
  · rw [if_neg (by simp; omega)]
    have e : hullV f ll (i + 1) = (mn (hullV f ll i).1 (f (ll.getD i [])), mx (hullV f ll i).2 (f (ll.getD i []))) := by
      show (if i = 0 then _ else _) = _
      rw [if_neg h]
    rw [e]
def BnI  (V : World) (A : Option Addr) (c : Nat) (rp : Value) (ll : List (List Int)) (f : List Int → Int) (j : Nat) (t : Array Value) (W : World) : Prop :=
  ∃ i : Nat, i ≤ ll.length ∧ j = ll.length - i ∧ Below V.heap.size V W ∧ Box2 W V.heap.size 28 (hullV f ll i).1 (hullV f ll i).2 ∧ Slots (none :: none :: some (rp) :: none :: some (.slice A ll.length c) :: some (.pointer (some ⟨V.heap.size, 0, none⟩)) :: some (.int .i64 ((i : Nat) : Int)) :: none :: none :: none :: o4 (o16 [])) t
set_option maxRecDepth 100000 in
set_option maxHeartbeats 4000000 in
theorem bn_loop  {A : Option Addr} {c : Nat} {rp : Value} {ll : List (List Int)} {f : List Int → Int} (hn : ll.length ≤ 1000000) (hcf : ∀ x ∈ ll, ∀ (A : Option Addr) (c : Nat) (w : World), RowI w A x → x.length ≤ c → Calls Try.prog 33 #[.slice A x.length c] w fun e w' => e = .returned (.int .i64 (f x)) ∧ Below w.heap.size w w') {V : World} (hC : KL.C V A ll.length ll) (W : World) (hB : Below V.heap.size V W) (b5 : Box2 W V.heap.size 28 0 0) (t : Array Value) (hSl : Slots (none :: none :: some (rp) :: none :: some (.slice A ll.length c) :: some (.pointer (some ⟨V.heap.size, 0, none⟩)) :: some (.int .i64 0) :: none :: none :: none :: o4 (o16 [])) t) :
    Exec Try.prog none (sub (Try.f16.body.getD .skip) [1, 1, 1, 1, 0, 1]) t W (andThen (fun t' W' => Below V.heap.size V W' ∧ Box2 W' V.heap.size 28 (hullV f ll ll.length).1 (hullV f ll ll.length).2 ∧ Slots (none :: none :: some (rp) :: none :: none :: some (.pointer (some ⟨V.heap.size, 0, none⟩)) :: o4 (o4 (o16 []))) t') fun _ _ _ => False) := by
  have hu83 := Try.underlying83
  have hu28 := Try.underlying28
  refine exec_block ?_
  refine exec_loop (BnI  V A c rp ll f) ll.length ⟨0, by omega, by omega, hB, b5, by simpa using hSl⟩ ?_
  clear hSl t hB b5
  clear W
  rintro j t W ⟨i, hi, hj, hB, b5, hSl⟩
  obtain ⟨x, hx⟩ := Slots.open_ hSl; simp only [fill, Nat.reduceAdd] at hx; subst hx; clear hSl
  refine exec_seq (exec_seq (exec_region_o fun ds => ?_))
  gi_wp2
  refine eq_mk (Keep.refl _) ?_
  show Exec _ _ _ _ _ _
  refine exec_cond (b := decide (i < ll.length)) rfl (fun hp => exec_skip ?_) (fun hp => exec_exit ?_)
  · have hil : i < ll.length := of_decide_eq_true hp
    show Exec _ _ _ _ _ _
    obtain ⟨ad, Ai, ci, hA, hcell, hci, hR⟩ := at_L hC i hil
    have hf := hcf _ (wst_mem hil)
    have hst := hull_step f ll i
    obtain ⟨xl, hxl⟩ : ∃ y, ll.getD i [] = y := ⟨_, rfl⟩
    rw [hxl] at hf hst hcell hR hci
    clear hxl
    obtain ⟨p, hp1⟩ : ∃ p, (hullV f ll i).1 = p := ⟨_, rfl⟩
    obtain ⟨q, hq1⟩ : ∃ p, (hullV f ll i).2 = p := ⟨_, rfl⟩
    rw [hp1, hq1] at hst b5
    obtain ⟨p', hp2⟩ : ∃ p, (hullV f ll (i + 1)).1 = p := ⟨_, rfl⟩
    obtain ⟨q', hq2⟩ : ∃ p, (hullV f ll (i + 1)).2 = p := ⟨_, rfl⟩
    rw [hp2, hq2] at hst
    clear hp1 hq1
    obtain ⟨z, hz⟩ : ∃ z, ((i : Int) == 0) = z := ⟨_, rfl⟩
    rw [hz] at hst
    subst hA
    have hadd : ∀ W', Below W.heap.size W W' → W'.cell? (ad.add i) = some (.slice Ai xl.length ci) := fun W' hw => (Grow.of_below (B := 0) hw).cell ((Grow.of_below (B := 0) hB).cell hcell)
    have k0 : ∀ W', Below W.heap.size W W' → W'.cell? ⟨V.heap.size, 0, none⟩ = some (.int .i64 p) := fun W' hw => (hw.cell b5.lt).trans b5.cell0
    have k1 : ∀ W', Below W.heap.size W W' → W'.cell? ⟨V.heap.size, 1, none⟩ = some (.int .i64 q) := fun W' hw => (hw.cell b5.lt).trans b5.cell1
    have hRW := Kd.C_below hR hB
    have hiI : (i : Int) < ll.length := by omega
    refine exec_cut (fun t' W' => Below V.heap.size V W' ∧ Box2 W' V.heap.size 28 p' q' ∧ Slots (none :: none :: some (rp) :: none :: some (.slice (some ad) ll.length c) :: some (.pointer (some ⟨V.heap.size, 0, none⟩)) :: some (.int .i64 ((i : Nat) : Int)) :: none :: none :: none :: o4 (o16 [])) t') ?_ ?_
    · refine exec_block (region_of_tail 9 (by kernel_rfl) (by kernel_rfl) (by kernel_rfl) (fun W' => Below W.heap.size W W') (fun _ _ _ => False) (fun _ _ _ h => h.elim) fun ds => ?_)
      have hS : Below W.heap.size W W.drew := (Below.refl _ W).drew
      refine held_take 0 (.agg #[.int .i64 p, .int .i64 q]) rfl (by kernel_rfl) (by kernel_rfl) (by kernel_rfl) (by intro _ _ _ h; first | exact h | (simpa [behind, Act.put] using h)) rfl (by first | exact hS | assumption) (fun wq hq => ?_) ?_; (focus (simp [go_sem, k0 wq hq, k1 wq hq]; done)); simp only [Act.put, Array.getInternal_eq_getElem, List.getElem_toArray, List.getElem_cons_succ, List.getElem_cons_zero, List.setIfInBounds_toArray, List.set_cons_succ, List.set_cons_zero]
      refine held_take 1 (.slice (some ad) ll.length c) rfl (by kernel_rfl) (by kernel_rfl) (by kernel_rfl) (by intro _ _ _ h; first | exact h | (simpa [behind, Act.put] using h)) rfl (by first | exact hS | assumption) (fun wq hq => ?_) ?_; (focus (first | rfl | (simp [go_sem]; done))); simp only [Act.put, Array.getInternal_eq_getElem, List.getElem_toArray, List.getElem_cons_succ, List.getElem_cons_zero, List.setIfInBounds_toArray, List.set_cons_succ, List.set_cons_zero]
      refine held_take 2 (.int .i64 ((i : Nat) : Int)) rfl (by kernel_rfl) (by kernel_rfl) (by kernel_rfl) (by intro _ _ _ h; first | exact h | (simpa [behind, Act.put] using h)) rfl (by first | exact hS | assumption) (fun wq hq => ?_) ?_; (focus (first | rfl | (simp [go_sem]; done))); simp only [Act.put, Array.getInternal_eq_getElem, List.getElem_toArray, List.getElem_cons_succ, List.getElem_cons_zero, List.setIfInBounds_toArray, List.set_cons_succ, List.set_cons_zero]
      refine held_take 3 (.pointer (some (ad.add i))) rfl (by kernel_rfl) (by kernel_rfl) (by kernel_rfl) (by intro _ _ _ h; first | exact h | (simpa [behind, Act.put] using h)) rfl (by first | exact hS | assumption) (fun wq hq => ?_) ?_; (focus (simp [go_sem, hu83, hiI]; done)); simp only [Act.put, Array.getInternal_eq_getElem, List.getElem_toArray, List.getElem_cons_succ, List.getElem_cons_zero, List.setIfInBounds_toArray, List.set_cons_succ, List.set_cons_zero]
      refine held_take 4 (.slice Ai xl.length ci) rfl (by kernel_rfl) (by kernel_rfl) (by kernel_rfl) (by intro _ _ _ h; first | exact h | (simpa [behind, Act.put] using h)) rfl (by first | exact hS | assumption) (fun wq hq => ?_) ?_; (focus (simp [go_sem, hadd wq hq]; done)); simp only [Act.put, Array.getInternal_eq_getElem, List.getElem_toArray, List.getElem_cons_succ, List.getElem_cons_zero, List.setIfInBounds_toArray, List.set_cons_succ, List.set_cons_zero]
      refine held_take 6 (.int .i64 ((i : Nat) : Int)) rfl (by kernel_rfl) (by kernel_rfl) (by kernel_rfl) (by intro _ _ _ h; first | exact h | (simpa [behind, Act.put] using h)) rfl (by first | exact hS | assumption) (fun wq hq => ?_) ?_; (focus (first | rfl | (simp [go_sem]; done))); simp only [Act.put, Array.getInternal_eq_getElem, List.getElem_toArray, List.getElem_cons_succ, List.getElem_cons_zero, List.setIfInBounds_toArray, List.set_cons_succ, List.set_cons_zero]
      refine held_take 7 (.bool z) rfl (by kernel_rfl) (by kernel_rfl) (by kernel_rfl) (by intro _ _ _ h; first | exact h | (simpa [behind, Act.put] using h)) rfl (by first | exact hS | assumption) (fun wq hq => ?_) ?_; (focus (simp [go_sem, hz]; done)); simp only [Act.put, Array.getInternal_eq_getElem, List.getElem_toArray, List.getElem_cons_succ, List.getElem_cons_zero, List.setIfInBounds_toArray, List.set_cons_succ, List.set_cons_zero]
      refine held_call 5 (f := 33) (args := #[.slice Ai xl.length ci]) rfl (by kernel_rfl) rfl (by simp [go_sem]) ?_
      refine (hf _ _ W.drew (Kd.C_below hRW hS) hci).mono ?_
      rintro e W1 ⟨rfl, hB1⟩
      have hS1 : Below W.heap.size W W1 := hS.trans hB1
      refine .inl ⟨_, rfl, hS1, ?_⟩
      simp only [Act.put, Array.getInternal_eq_getElem, List.getElem_toArray, List.getElem_cons_succ, List.getElem_cons_zero, List.setIfInBounds_toArray, List.set_cons_succ, List.set_cons_zero]
      refine held_call 8 (f := 51) (args := #[.agg #[.int .i64 p, .int .i64 q], .int .i64 (f xl), .bool z]) rfl (by kernel_rfl) rfl (by simp [go_sem]) ?_
      refine (furrowworksref04_hull.calls p q (f xl) z p' q' W1 hst).mono ?_
      rintro e W2 ⟨rfl, hB2⟩
      have hS2 : Below W.heap.size W W2 := hS1.trans (hB2.mono hS1.size)
      refine .inl ⟨_, rfl, hS2, ?_⟩
      simp only [Act.put, Array.getInternal_eq_getElem, List.getElem_toArray, List.getElem_cons_succ, List.getElem_cons_zero, List.setIfInBounds_toArray, List.set_cons_succ, List.set_cons_zero]
      refine held_done (by kernel_rfl) ?_
      refine behind_normal 1 (by kernel_rfl) ?_
      have g5 : Box2 W2 V.heap.size 28 p q := (hS2.block _ b5.lt).trans b5
      have gB := hB.trans (hS2.mono hB.size)
      have f0 := g5.cell0
      have f1 := g5.cell1
      have f2 := g5.frozen
      refine any_skip 9 ((W2.setCell ⟨V.heap.size, 0, none⟩ (.int .i64 p')).setCell ⟨V.heap.size, 1, none⟩ (.int .i64 q')) rfl (by kernel_rfl) rfl (by simp [go_sem, f0, f1, f2, hu28]) ?_; simp only [Act.put, Array.getInternal_eq_getElem, List.getElem_toArray, List.getElem_cons_succ, List.getElem_cons_zero, List.setIfInBounds_toArray, List.set_cons_succ, List.set_cons_zero]
      have g6 : Box2 ((W2.setCell ⟨V.heap.size, 0, none⟩ (.int .i64 p')).setCell ⟨V.heap.size, 1, none⟩ (.int .i64 q')) V.heap.size 28 p' q' := by (simp only [Boxed, Box2, heap_alloc_at, heap_set_at, World.size_alloc, World.size_setCell]; repeat (first | rfl | exact g5 | rw [if_pos (by omega)] | rw [if_neg (by omega)] | rw [show _ = _ from g5]))
      refine any_done (by kernel_rfl) ⟨rfl, ((Keep.of_below hS2).setCell _ _).setCell _ _, ?_⟩
      exact ⟨(gB.setCell (Nat.le_refl _) _).setCell (Nat.le_refl _) _, g6, (by simp [Slots, Fits])⟩
    · clear hB b5 k0 k1 hadd hRW
      rintro t' W' ⟨hB, b5, hSl⟩
      clear x
      obtain ⟨x, hx⟩ := Slots.open_ hSl; simp only [fill, Nat.reduceAdd] at hx; subst hx; clear hSl
      have hw : IntKind.i64.wrap ((i : Int) + 1) = ((i + 1 : Nat) : Int) := by rw [IntWalk.i64_in _ (by omega)]; norm_cast
      refine exec_region_o fun ds => ?_
      gi_wp2
      refine eq_mk (Keep.refl _) ⟨j - 1, by omega, i + 1, by omega, by omega, hB, by rw [hp2, hq2]; exact b5, by simp only [Slots, Fits, and_self]; simp⟩
  · have hil : i = ll.length := by have := of_decide_eq_false hp; omega
    show _ ∧ _
    rw [hil] at b5
    exact ⟨hB, b5, (by simp only [Slots, Fits, and_self])⟩
def AnI (st : Int) (V : World) (A : Option Addr) (c : Nat) (rp : Value) (ll : List (List Int)) (f : List Int → Int) (j : Nat) (t : Array Value) (W : World) : Prop :=
  ∃ i : Nat, i ≤ ll.length ∧ j = ll.length - i ∧ Below V.heap.size V W ∧ Box2 W V.heap.size 28 (hullV f ll i).1 (hullV f ll i).2 ∧ Slots (none :: some (.int .i64 st) :: none :: none :: some (rp) :: none :: some (.slice A ll.length c) :: some (.pointer (some ⟨V.heap.size, 0, none⟩)) :: some (.int .i64 ((i : Nat) : Int)) :: none :: o4 (o4 (o4 (o16 [])))) t
set_option maxRecDepth 100000 in
set_option maxHeartbeats 4000000 in
theorem an_loop {st : Int} {A : Option Addr} {c : Nat} {rp : Value} {ll : List (List Int)} {f : List Int → Int} (hn : ll.length ≤ 1000000) (hcf : ∀ x ∈ ll, ∀ (A : Option Addr) (c : Nat) (w : World), RowI w A x → x.length ≤ c → Calls Try.prog 55 #[.slice A x.length c, .int .i64 st] w fun e w' => e = .returned (.int .i64 (f x)) ∧ Below w.heap.size w w') {V : World} (hC : KL.C V A ll.length ll) (W : World) (hB : Below V.heap.size V W) (b5 : Box2 W V.heap.size 28 0 0) (t : Array Value) (hSl : Slots (none :: some (.int .i64 st) :: none :: none :: some (rp) :: none :: some (.slice A ll.length c) :: some (.pointer (some ⟨V.heap.size, 0, none⟩)) :: some (.int .i64 0) :: none :: o4 (o4 (o4 (o16 [])))) t) :
    Exec Try.prog none (sub (Try.f18.body.getD .skip) [1, 1, 1, 1, 1, 0, 1]) t W (andThen (fun t' W' => Below V.heap.size V W' ∧ Box2 W' V.heap.size 28 (hullV f ll ll.length).1 (hullV f ll ll.length).2 ∧ Slots (o4 (some (rp) :: none :: none :: some (.pointer (some ⟨V.heap.size, 0, none⟩)) :: none :: none :: o4 (o4 (o4 (o16 []))))) t') fun _ _ _ => False) := by
  have hu83 := Try.underlying83
  have hu28 := Try.underlying28
  refine exec_block ?_
  refine exec_loop (AnI st V A c rp ll f) ll.length ⟨0, by omega, by omega, hB, b5, by simpa using hSl⟩ ?_
  clear hSl t hB b5
  clear W
  rintro j t W ⟨i, hi, hj, hB, b5, hSl⟩
  obtain ⟨x, hx⟩ := Slots.open_ hSl; simp only [fill, Nat.reduceAdd] at hx; subst hx; clear hSl
  refine exec_seq (exec_seq (exec_region_o fun ds => ?_))
  gi_wp2
  refine eq_mk (Keep.refl _) ?_
  show Exec _ _ _ _ _ _
  refine exec_cond (b := decide (i < ll.length)) rfl (fun hp => exec_skip ?_) (fun hp => exec_exit ?_)
  · have hil : i < ll.length := of_decide_eq_true hp
    show Exec _ _ _ _ _ _
    obtain ⟨ad, Ai, ci, hA, hcell, hci, hR⟩ := at_L hC i hil
    have hf := hcf _ (wst_mem hil)
    have hst := hull_step f ll i
    obtain ⟨xl, hxl⟩ : ∃ y, ll.getD i [] = y := ⟨_, rfl⟩
    rw [hxl] at hf hst hcell hR hci
    clear hxl
    obtain ⟨p, hp1⟩ : ∃ p, (hullV f ll i).1 = p := ⟨_, rfl⟩
    obtain ⟨q, hq1⟩ : ∃ p, (hullV f ll i).2 = p := ⟨_, rfl⟩
    rw [hp1, hq1] at hst b5
    obtain ⟨p', hp2⟩ : ∃ p, (hullV f ll (i + 1)).1 = p := ⟨_, rfl⟩
    obtain ⟨q', hq2⟩ : ∃ p, (hullV f ll (i + 1)).2 = p := ⟨_, rfl⟩
    rw [hp2, hq2] at hst
    clear hp1 hq1
    obtain ⟨z, hz⟩ : ∃ z, ((i : Int) == 0) = z := ⟨_, rfl⟩
    rw [hz] at hst
    subst hA
    have hadd : ∀ W', Below W.heap.size W W' → W'.cell? (ad.add i) = some (.slice Ai xl.length ci) := fun W' hw => (Grow.of_below (B := 0) hw).cell ((Grow.of_below (B := 0) hB).cell hcell)
    have k0 : ∀ W', Below W.heap.size W W' → W'.cell? ⟨V.heap.size, 0, none⟩ = some (.int .i64 p) := fun W' hw => (hw.cell b5.lt).trans b5.cell0
    have k1 : ∀ W', Below W.heap.size W W' → W'.cell? ⟨V.heap.size, 1, none⟩ = some (.int .i64 q) := fun W' hw => (hw.cell b5.lt).trans b5.cell1
    have hRW := Kd.C_below hR hB
    have hiI : (i : Int) < ll.length := by omega
    refine exec_cut (fun t' W' => Below V.heap.size V W' ∧ Box2 W' V.heap.size 28 p' q' ∧ Slots (none :: some (.int .i64 st) :: none :: none :: some (rp) :: none :: some (.slice (some ad) ll.length c) :: some (.pointer (some ⟨V.heap.size, 0, none⟩)) :: some (.int .i64 ((i : Nat) : Int)) :: none :: o4 (o4 (o4 (o16 [])))) t') ?_ ?_
    · refine exec_block (region_of_tail 10 (by kernel_rfl) (by kernel_rfl) (by kernel_rfl) (fun W' => Below W.heap.size W W') (fun _ _ _ => False) (fun _ _ _ h => h.elim) fun ds => ?_)
      have hS : Below W.heap.size W W.drew := (Below.refl _ W).drew
      refine held_take 0 (.agg #[.int .i64 p, .int .i64 q]) rfl (by kernel_rfl) (by kernel_rfl) (by kernel_rfl) (by intro _ _ _ h; first | exact h | (simpa [behind, Act.put] using h)) rfl (by first | exact hS | assumption) (fun wq hq => ?_) ?_; (focus (simp [go_sem, k0 wq hq, k1 wq hq]; done)); simp only [Act.put, Array.getInternal_eq_getElem, List.getElem_toArray, List.getElem_cons_succ, List.getElem_cons_zero, List.setIfInBounds_toArray, List.set_cons_succ, List.set_cons_zero]
      refine held_take 1 (.slice (some ad) ll.length c) rfl (by kernel_rfl) (by kernel_rfl) (by kernel_rfl) (by intro _ _ _ h; first | exact h | (simpa [behind, Act.put] using h)) rfl (by first | exact hS | assumption) (fun wq hq => ?_) ?_; (focus (first | rfl | (simp [go_sem]; done))); simp only [Act.put, Array.getInternal_eq_getElem, List.getElem_toArray, List.getElem_cons_succ, List.getElem_cons_zero, List.setIfInBounds_toArray, List.set_cons_succ, List.set_cons_zero]
      refine held_take 2 (.int .i64 ((i : Nat) : Int)) rfl (by kernel_rfl) (by kernel_rfl) (by kernel_rfl) (by intro _ _ _ h; first | exact h | (simpa [behind, Act.put] using h)) rfl (by first | exact hS | assumption) (fun wq hq => ?_) ?_; (focus (first | rfl | (simp [go_sem]; done))); simp only [Act.put, Array.getInternal_eq_getElem, List.getElem_toArray, List.getElem_cons_succ, List.getElem_cons_zero, List.setIfInBounds_toArray, List.set_cons_succ, List.set_cons_zero]
      refine held_take 3 (.pointer (some (ad.add i))) rfl (by kernel_rfl) (by kernel_rfl) (by kernel_rfl) (by intro _ _ _ h; first | exact h | (simpa [behind, Act.put] using h)) rfl (by first | exact hS | assumption) (fun wq hq => ?_) ?_; (focus (simp [go_sem, hu83, hiI]; done)); simp only [Act.put, Array.getInternal_eq_getElem, List.getElem_toArray, List.getElem_cons_succ, List.getElem_cons_zero, List.setIfInBounds_toArray, List.set_cons_succ, List.set_cons_zero]
      refine held_take 4 (.slice Ai xl.length ci) rfl (by kernel_rfl) (by kernel_rfl) (by kernel_rfl) (by intro _ _ _ h; first | exact h | (simpa [behind, Act.put] using h)) rfl (by first | exact hS | assumption) (fun wq hq => ?_) ?_; (focus (simp [go_sem, hadd wq hq]; done)); simp only [Act.put, Array.getInternal_eq_getElem, List.getElem_toArray, List.getElem_cons_succ, List.getElem_cons_zero, List.setIfInBounds_toArray, List.set_cons_succ, List.set_cons_zero]
      refine held_take 5 (.int .i64 st) rfl (by kernel_rfl) (by kernel_rfl) (by kernel_rfl) (by intro _ _ _ h; first | exact h | (simpa [behind, Act.put] using h)) rfl (by first | exact hS | assumption) (fun wq hq => ?_) ?_; (focus (first | rfl | (simp [go_sem]; done))); simp only [Act.put, Array.getInternal_eq_getElem, List.getElem_toArray, List.getElem_cons_succ, List.getElem_cons_zero, List.setIfInBounds_toArray, List.set_cons_succ, List.set_cons_zero]
      refine held_take 7 (.int .i64 ((i : Nat) : Int)) rfl (by kernel_rfl) (by kernel_rfl) (by kernel_rfl) (by intro _ _ _ h; first | exact h | (simpa [behind, Act.put] using h)) rfl (by first | exact hS | assumption) (fun wq hq => ?_) ?_; (focus (first | rfl | (simp [go_sem]; done))); simp only [Act.put, Array.getInternal_eq_getElem, List.getElem_toArray, List.getElem_cons_succ, List.getElem_cons_zero, List.setIfInBounds_toArray, List.set_cons_succ, List.set_cons_zero]
      refine held_take 8 (.bool z) rfl (by kernel_rfl) (by kernel_rfl) (by kernel_rfl) (by intro _ _ _ h; first | exact h | (simpa [behind, Act.put] using h)) rfl (by first | exact hS | assumption) (fun wq hq => ?_) ?_; (focus (simp [go_sem, hz]; done)); simp only [Act.put, Array.getInternal_eq_getElem, List.getElem_toArray, List.getElem_cons_succ, List.getElem_cons_zero, List.setIfInBounds_toArray, List.set_cons_succ, List.set_cons_zero]
      refine held_call 6 (f := 55) (args := #[.slice Ai xl.length ci, .int .i64 st]) rfl (by kernel_rfl) rfl (by simp [go_sem]) ?_
      refine (hf _ _ W.drew (Kd.C_below hRW hS) hci).mono ?_
      rintro e W1 ⟨rfl, hB1⟩
      have hS1 : Below W.heap.size W W1 := hS.trans hB1
      refine .inl ⟨_, rfl, hS1, ?_⟩
      simp only [Act.put, Array.getInternal_eq_getElem, List.getElem_toArray, List.getElem_cons_succ, List.getElem_cons_zero, List.setIfInBounds_toArray, List.set_cons_succ, List.set_cons_zero]
      refine held_call 9 (f := 51) (args := #[.agg #[.int .i64 p, .int .i64 q], .int .i64 (f xl), .bool z]) rfl (by kernel_rfl) rfl (by simp [go_sem]) ?_
      refine (furrowworksref04_hull.calls p q (f xl) z p' q' W1 hst).mono ?_
      rintro e W2 ⟨rfl, hB2⟩
      have hS2 : Below W.heap.size W W2 := hS1.trans (hB2.mono hS1.size)
      refine .inl ⟨_, rfl, hS2, ?_⟩
      simp only [Act.put, Array.getInternal_eq_getElem, List.getElem_toArray, List.getElem_cons_succ, List.getElem_cons_zero, List.setIfInBounds_toArray, List.set_cons_succ, List.set_cons_zero]
      refine held_done (by kernel_rfl) ?_
      refine behind_normal 1 (by kernel_rfl) ?_
      have g5 : Box2 W2 V.heap.size 28 p q := (hS2.block _ b5.lt).trans b5
      have gB := hB.trans (hS2.mono hB.size)
      have f0 := g5.cell0
      have f1 := g5.cell1
      have f2 := g5.frozen
      refine any_skip 10 ((W2.setCell ⟨V.heap.size, 0, none⟩ (.int .i64 p')).setCell ⟨V.heap.size, 1, none⟩ (.int .i64 q')) rfl (by kernel_rfl) rfl (by simp [go_sem, f0, f1, f2, hu28]) ?_; simp only [Act.put, Array.getInternal_eq_getElem, List.getElem_toArray, List.getElem_cons_succ, List.getElem_cons_zero, List.setIfInBounds_toArray, List.set_cons_succ, List.set_cons_zero]
      have g6 : Box2 ((W2.setCell ⟨V.heap.size, 0, none⟩ (.int .i64 p')).setCell ⟨V.heap.size, 1, none⟩ (.int .i64 q')) V.heap.size 28 p' q' := by (simp only [Boxed, Box2, heap_alloc_at, heap_set_at, World.size_alloc, World.size_setCell]; repeat (first | rfl | exact g5 | rw [if_pos (by omega)] | rw [if_neg (by omega)] | rw [show _ = _ from g5]))
      refine any_done (by kernel_rfl) ⟨rfl, ((Keep.of_below hS2).setCell _ _).setCell _ _, ?_⟩
      exact ⟨(gB.setCell (Nat.le_refl _) _).setCell (Nat.le_refl _) _, g6, (by simp [Slots, Fits])⟩
    · clear hB b5 k0 k1 hadd hRW
      rintro t' W' ⟨hB, b5, hSl⟩
      clear x
      obtain ⟨x, hx⟩ := Slots.open_ hSl; simp only [fill, Nat.reduceAdd] at hx; subst hx; clear hSl
      have hw : IntKind.i64.wrap ((i : Int) + 1) = ((i + 1 : Nat) : Int) := by rw [IntWalk.i64_in _ (by omega)]; norm_cast
      refine exec_region_o fun ds => ?_
      gi_wp2
      refine eq_mk (Keep.refl _) ⟨j - 1, by omega, i + 1, by omega, by omega, hB, by rw [hp2, hq2]; exact b5, by simp only [Slots, Fits, and_self]; simp⟩
  · have hil : i = ll.length := by have := of_decide_eq_false hp; omega
    show _ ∧ _
    rw [hil] at b5
    exact ⟨hB, b5, (by simp only [Slots, Fits, and_self])⟩
end Go.Proofs.Ytafmgmaelnpehaa
end

section
set_option linter.unusedVariables false
set_option linter.unusedSimpArgs false
namespace Go.Proofs.Ytafmgmaelnpehaa
open Go.RowKit Go.TL Go.Shelf Go.Fu
attribute [local go_sem] Oper.semAt_some
open PFurrowAsks Go.Proofs.YtafmgmaelnpehaaW.PrintWords
theorem all_bd {F : Fur} (hva : F.va = true) {x : List Int} (hx : x ∈ allL F.pl) : x.length = F.l0.length ∧ ∀ y ∈ x, -1000 ≤ y ∧ y ≤ 1000 := by
  obtain ⟨h1, h2⟩ := (mem_all _ _).1 hx
  exact ⟨by rw [h1, F.pl_len], truth_bd (Fur.okS hva) h1 h2⟩
theorem most_x {F : Fur} (hva : F.va = true) {x : List Int} (hx : x ∈ allL F.pl) (A : Option Addr) (c : Nat) (w : World) (hr : RowI w A x) (hc : x.length ≤ c) : Calls Try.prog 33 #[.slice A x.length c] w fun e w' => e = .returned (.int .i64 (mostX x)) ∧ Below w.heap.size w w' := by
  obtain ⟨h1, h2⟩ := all_bd hva hx
  have h8 := Fur.le8 hva
  exact most_c hr hc (by omega) h2
theorem bnd_x {F : Fur} (hva : F.va = true) {x : List Int} (hx : x ∈ allL F.pl) {s : Nat} (h1 : 1 ≤ s) (h2 : s + 1 < F.l0.length) (A : Option Addr) (c : Nat) (w : World) (hr : RowI w A x) (hc : x.length ≤ c) : Calls Try.prog 55 #[.slice A x.length c, .int .i64 ((s : Nat) : Int)] w fun e w' => e = .returned (.int .i64 (bnd (fnOf x) s)) ∧ Below w.heap.size w w' := by
  obtain ⟨hl, hb⟩ := all_bd hva hx
  have h8 := Fur.le8 hva
  exact furrowworksref04_bend.calls A c x ((s : Nat) : Int) _ w hr hc (bend_fn x s (by omega) h1 (by omega) hb)
set_option maxRecDepth 100000 in
set_option maxHeartbeats 1000000 in
theorem refBend_c (F : Fur) (w : World) (h : F.At w) (hl : F.va = true → (allL F.pl).length ≤ 1000000) :
    Calls Try.prog 16 #[F.val ] w fun e w' => e = .returned (.tuple #[.agg #[.int .i64 (bendV F.va F.pl).1.1, .int .i64 (bendV F.va F.pl).1.2], .int .i64 (bendV F.va F.pl).2]) ∧ Below w.heap.size w w' := by
  refine calls_of_exec Try.func16 rfl ?_
  simp only [Try.ntmps16, List.size_toArray, List.length_cons, List.length_nil, Nat.reduceAdd, Nat.reduceSub, Array.replicate_succ, Array.replicate_zero, List.push_toArray, List.append_toArray, List.nil_append, List.cons_append]
  simp only [Fur.val]
  refine exec_seq (exec_region_o fun ds => ?_)
  gi_wp2
  refine eq_mk (((Keep.refl w).alloc _).alloc _) ?_
  show Exec _ _ _ _ _ _
  have b1 : Box3 ((w.alloc (.cells #[F.s0, F.s1, F.s2] 24)).alloc (.cells #[.int .i64 0, .int .i64 0] 28)) w.heap.size 24 F.s0 F.s1 F.s2 := (Box3.new w 24 F.s0 F.s1 F.s2).grow (Grow.alloc 0 _ _)
  have b2 : Box2 ((w.alloc (.cells #[F.s0, F.s1, F.s2] 24)).alloc (.cells #[.int .i64 0, .int .i64 0] 28)) (w.heap.size + 1) 28 0 0 := by (simp only [Boxed, Box2, heap_alloc_at, heap_set_at, World.size_alloc, World.size_setCell]; repeat (first | rfl | rw [if_pos (by omega)] | rw [if_neg (by omega)]))
  have hB := ((Below.refl w.heap.size w).alloc (Nat.le_refl _) (.cells #[F.s0, F.s1, F.s2] 24)).alloc (by simp) (.cells #[.int .i64 0, .int .i64 0] 28)
  generalize (w.alloc (.cells #[F.s0, F.s1, F.s2] 24)).alloc (.cells #[.int .i64 0, .int .i64 0] 28) = V at *
  have hF := h.below hB
  have c0 := b1.cell0
  have c1 := b1.cell1
  have c2 := b1.cell2
  have fin : ∀ (a b e : Int) (t : Array Value) (W W' : World), t[2]? = some (.pointer (some ⟨w.heap.size + 1, 0, none⟩)) → t[3]? = some (.int .i64 e) → Box2 W (w.heap.size + 1) 28 a b → Below w.heap.size w W → bendV F.va F.pl = ((a, b), e) → Grow w.heap.size W W' →
      ∃ u, (results Try.f16 t).run Try.prog W' = .ok u W' ∧ Ending.returned u = .returned (.tuple #[.agg #[.int .i64 (bendV F.va F.pl).1.1, .int .i64 (bendV F.va F.pl).1.2], .int .i64 (bendV F.va F.pl).2]) ∧ Below w.heap.size w W' := by
    intro a b e t W W' t2 t3 hb hW hv hG
    have h2 := hG.box2 hb
    have k0 := h2.cell0
    have k1 := h2.cell1
    rw [hv]
    exact ⟨.tuple #[.agg #[.int .i64 a, .int .i64 b], .int .i64 e], by simp [results, Try.f16, go_sem, t2, t3, k0, k1], rfl, hW.trans (hG.below (Nat.le_refl _) hW.size)⟩
  have fin2 : ∀ (a b e : Int) (t : Array Value) (W W' : World), t[2]? = some (.pointer (some ⟨w.heap.size + 1, 0, none⟩)) → t[3]? = some (.int .i64 e) → Box2 W (w.heap.size + 1) 28 a b → Below w.heap.size w W → bendV F.va F.pl = ((a, b), e) → Grow w.heap.size W W' →
      ∃ u, (results Try.f16 t).run Try.prog W' = .ok u W' ∧ u = .tuple #[.agg #[.int .i64 (bendV F.va F.pl).1.1, .int .i64 (bendV F.va F.pl).1.2], .int .i64 (bendV F.va F.pl).2] ∧ Below w.heap.size w W' := by
    intro a b e t W W' t2 t3 hb hW hv hG
    obtain ⟨u, h1, h2, h3⟩ := fin a b e t W W' t2 t3 hb hW hv hG
    exact ⟨u, h1, by injection h2, h3⟩
  obtain ⟨vb, hvb⟩ : ∃ b, F.va = b := ⟨_, rfl⟩
  have hfur := refFurrow_c F V hF
  rw [hvb] at hfur
  have HV := Lib.hid hvb
  clear hvb
  refine exec_seq (exec_seq (exec_region_o fun ds => ?_))
  gi_wp2_with fail
  refine ⟨trivial, rfl, (callsIn_wide.2 hfur).mono ?_⟩
  rintro e X ⟨rfl, hx⟩
  have hK := Keep.of_below hx
  replace b1 : Box3 X w.heap.size 24 F.s0 F.s1 F.s2 := (hx.block _ b1.lt).trans b1
  replace b2 : Box2 X (w.heap.size + 1) 28 0 0 := (hx.block _ b2.lt).trans b2
  replace hF := hF.below hx
  replace hB := hB.trans (hx.mono hB.size)
  clear hx hfur c0 c1 c2
  gi_wp2
  refine eq_mk hK ?_
  show Exec _ _ _ _ _ _
  clear hK
  clear V
  have bad : ∀ (er : Int), Box2 ((X.setCell ⟨w.heap.size + 1, 0, none⟩ (.int .i64 0)).setCell ⟨w.heap.size + 1, 1, none⟩ (.int .i64 0)) (w.heap.size + 1) 28 0 0 ∧ Below w.heap.size w ((X.setCell ⟨w.heap.size + 1, 0, none⟩ (.int .i64 0)).setCell ⟨w.heap.size + 1, 1, none⟩ (.int .i64 0)) := fun er =>
    ⟨by (simp only [Boxed, Box2, heap_alloc_at, heap_set_at, World.size_alloc, World.size_setCell]; repeat (first | rfl | exact b2 | rw [if_pos (by omega)] | rw [if_neg (by omega)] | rw [show _ = _ from b2])), (hB.setCell (by show w.heap.size ≤ w.heap.size + 1; omega) _).setCell (by show w.heap.size ≤ w.heap.size + 1; omega) _⟩
  cases vb with
  | false =>
    refine exec_cond (b := true) (by simp [ev, go_sem, Act.eval]) (fun _ => ?_) (fun h => by cases h)
    have k0 := b2.cell0
    have k1 := b2.cell1
    have k2 := b2.frozen
    refine exec_seq (exec_region_o fun ds => ?_)
    gi_wp2
    refine eq_mk (((Keep.refl _).setCell _ _).setCell _ _) (exec_ret ⟨.inr rfl, fun W' hG => by first | exact fin 0 0 1 _ _ _ rfl rfl (bad 1).1 (bad 1).2 (by rw [HV.out]; rfl) hG | exact fin2 0 0 1 _ _ _ rfl rfl (bad 1).1 (bad 1).2 (by rw [HV.out]; rfl) hG⟩)
  | true =>
  refine exec_cond (b := false) (by simp [ev, go_sem, Act.eval]) (fun h => by cases h) (fun _ => exec_skip ?_)
  show Exec _ _ _ _ _ _
  have c0 := b1.cell0
  have c1 := b1.cell1
  have c2 := b1.cell2
  have hlen := hl HV.out
  refine exec_seq (exec_region_o fun ds => ?_)
  gi_wp2_with fail
  refine ⟨trivial, rfl, (callsIn_wide.2 (All_c HV.out X hF hlen)).mono ?_⟩
  rintro e Y ⟨⟨A, c, rfl, hcl, hC⟩, hx⟩
  have hK := Keep.of_below hx
  have hlt : w.heap.size + 1 < Y.heap.size := Nat.lt_of_lt_of_le b2.lt hx.size
  replace b2 : Box2 Y (w.heap.size + 1) 28 0 0 := (hx.block _ b2.lt).trans b2
  replace hB := hB.trans (hx.mono hB.size)
  clear hx c0 c1 c2 b1 hF bad
  gi_wp2
  refine eq_mk hK ?_
  show Exec _ _ _ _ _ _
  clear hK
  clear X
  refine exec_seq (exec_region_o fun ds => ?_)
  gi_wp2
  refine eq_mk ((Keep.refl _).alloc _) ?_
  show Exec _ _ _ _ _ _
  have ha := (Below.refl Y.heap.size Y).alloc (Nat.le_refl _) (.cells #[.int .i64 0, .int .i64 0] 28)
  have b5 := Box2.new Y 28 0 0
  refine exec_cut (fun t' W => Below Y.heap.size Y W ∧ Box2 W Y.heap.size 28 (bendV F.va F.pl).1.1 (bendV F.va F.pl).1.2 ∧ Slots (none :: none :: some (.pointer (some ⟨w.heap.size + 1, 0, none⟩)) :: none :: none :: some (.pointer (some ⟨Y.heap.size, 0, none⟩)) :: o4 (o4 (o16 []))) t') (exec_seq (exec_region_o fun ds => ?_)) ?_
  · gi_wp2
    refine eq_mk (Keep.refl _) ?_
    show Exec _ _ _ _ _ _
    refine (bn_loop (f := mostX) (c := c) (rp := .pointer (some ⟨w.heap.size + 1, 0, none⟩)) hlen (fun x hx A c w hr hc => most_x HV.out hx A c w hr hc) hC _ ha b5 _ (by simp only [Slots, Fits, and_self])).mono ?_
    intro e t' W hh
    obtain ⟨rfl, h1, h2, h3⟩ := only_normal hh
    refine ⟨h1, ?_, h3⟩
    rw [bend_law (Fur.okS HV.out)] at h2
    unfold bendV
    rw [HV.out]
    exact h2
  · clear ha b5
    rintro t' W ⟨hy, b5, hSl⟩
    obtain ⟨x, hx⟩ := Slots.open_ hSl; simp only [fill, Nat.reduceAdd] at hx; subst hx; clear hSl
    obtain ⟨p, hp⟩ : ∃ p, (bendV F.va F.pl).1.1 = p := ⟨_, rfl⟩
    obtain ⟨q, hq⟩ : ∃ p, (bendV F.va F.pl).1.2 = p := ⟨_, rfl⟩
    have hv0 : bendV F.va F.pl = ((p, q), 0) := by
      rw [← hp, ← hq]
      unfold bendV; rw [HV.out]; rfl
    have HV0 := Lib.hid hv0
    clear hv0
    rw [hp, hq] at b5
    clear hp hq
    replace b2 : Box2 W (w.heap.size + 1) 28 0 0 := (hy.block _ hlt).trans b2
    replace hB := hB.trans (hy.mono hB.size)
    have k0 := b2.cell0
    have k1 := b2.cell1
    have k2 := b2.frozen
    have k3 := b5.cell0
    have k4 := b5.cell1
    have b2' : Box2 ((W.setCell ⟨w.heap.size + 1, 0, none⟩ (.int .i64 p)).setCell ⟨w.heap.size + 1, 1, none⟩ (.int .i64 q)) (w.heap.size + 1) 28 p q := by (simp only [Boxed, Box2, heap_alloc_at, heap_set_at, World.size_alloc, World.size_setCell]; repeat (first | rfl | exact b2 | rw [if_pos (by omega)] | rw [if_neg (by omega)] | rw [show _ = _ from b2]))
    have hB' : Below w.heap.size w ((W.setCell ⟨w.heap.size + 1, 0, none⟩ (.int .i64 p)).setCell ⟨w.heap.size + 1, 1, none⟩ (.int .i64 q)) := (hB.setCell (by show w.heap.size ≤ w.heap.size + 1; omega) _).setCell (by show w.heap.size ≤ w.heap.size + 1; omega) _
    refine exec_seq (exec_region_o fun ds => ?_)
    gi_wp2
    refine eq_mk (((Keep.refl _).setCell _ _).setCell _ _) (exec_ret ⟨.inr rfl, fun W' hG => by first | exact fin p q 0 _ _ _ rfl rfl b2' hB' HV0.out hG | exact fin2 p q 0 _ _ _ rfl rfl b2' hB' HV0.out hG⟩)
set_option maxRecDepth 100000 in
theorem Inner_c (F : Fur) (s : Int) (w : World) (hl : F.l0.length ≤ 40) : Calls Try.prog 54 #[F.val, .int .i64 s] w fun e w' => e = .returned (.bool (decide (0 < s) && decide (s + 1 < F.l0.length))) ∧ Below w.heap.size w w' := by
  refine calls_of_exec Try.func54 rfl ?_
  simp only [Try.ntmps54, List.size_toArray, List.length_cons, List.length_nil, Nat.reduceAdd, Nat.reduceSub, Array.replicate_succ, Array.replicate_zero, List.push_toArray, List.append_toArray, List.nil_append, List.cons_append]
  simp only [Fur.val]
  refine exec_seq (exec_region_o fun ds => ?_)
  gi_wp2
  refine eq_mk ((Keep.refl w).alloc _) ?_
  show Exec _ _ _ _ _ _
  have b1 := Box3.new w 24 F.s0 F.s1 F.s2
  have hB := (Below.refl w.heap.size w).alloc (Nat.le_refl _) (.cells #[F.s0, F.s1, F.s2] 24)
  generalize w.alloc (.cells #[F.s0, F.s1, F.s2] 24) = V at *
  have c0 := b1.cell0
  simp only [Fur.s0] at c0
  have hw : IntKind.i64.wrap ((F.l0.length : Int) - 1) = (F.l0.length : Int) - 1 := IntWalk.i64_in _ (by omega)
  by_cases hs : 0 < s
  · have e1 : decide (0 < s) = true := decide_eq_true hs
    have e2 : decide (s < (F.l0.length : Int) - 1) = decide (s + 1 < F.l0.length) := decide_eq_decide.2 (by omega)
    refine exec_seq (exec_region_o fun ds => ?_)
    gi_wp2
    refine eq_mk (Keep.refl _) (exec_ret ⟨.inr rfl, fun W' hG => ⟨.bool (decide (s < (F.l0.length : Int) - 1)), by simp [results, Try.f54, go_sem]; omega, ?_, hB.trans (hG.below (Nat.le_refl _) hB.size)⟩⟩)
    simp only [e1, e2, Bool.true_and]
  · have e1 : decide (0 < s) = false := decide_eq_false hs
    refine exec_seq (exec_region_o fun ds => ?_)
    gi_wp2
    refine eq_mk (Keep.refl _) (exec_ret ⟨.inr rfl, fun W' hG => ⟨.bool false, by simp [results, Try.f54, go_sem], ?_, hB.trans (hG.below (Nat.le_refl _) hB.size)⟩⟩)
    rfl
set_option maxRecDepth 100000 in
set_option maxHeartbeats 1000000 in
theorem refAt_c (F : Fur) (st : Int) (w : World) (h : F.At w) (hl : F.va = true → (allL F.pl).length ≤ 1000000) (h40 : F.l0.length ≤ 40) :
    Calls Try.prog 18 #[F.val , .int .i64 st] w fun e w' => e = .returned (.tuple #[.agg #[.int .i64 (atV F.va F.pl st).1.1, .int .i64 (atV F.va F.pl st).1.2], .int .i64 (atV F.va F.pl st).2]) ∧ Below w.heap.size w w' := by
  refine calls_of_exec Try.func18 rfl ?_
  simp only [Try.ntmps18, List.size_toArray, List.length_cons, List.length_nil, Nat.reduceAdd, Nat.reduceSub, Array.replicate_succ, Array.replicate_zero, List.push_toArray, List.append_toArray, List.nil_append, List.cons_append]
  simp only [Fur.val]
  refine exec_seq (exec_region_o fun ds => ?_)
  gi_wp2
  refine eq_mk (((Keep.refl w).alloc _).alloc _) ?_
  show Exec _ _ _ _ _ _
  have b1 : Box3 ((w.alloc (.cells #[F.s0, F.s1, F.s2] 24)).alloc (.cells #[.int .i64 0, .int .i64 0] 28)) w.heap.size 24 F.s0 F.s1 F.s2 := (Box3.new w 24 F.s0 F.s1 F.s2).grow (Grow.alloc 0 _ _)
  have b2 : Box2 ((w.alloc (.cells #[F.s0, F.s1, F.s2] 24)).alloc (.cells #[.int .i64 0, .int .i64 0] 28)) (w.heap.size + 1) 28 0 0 := by (simp only [Boxed, Box2, heap_alloc_at, heap_set_at, World.size_alloc, World.size_setCell]; repeat (first | rfl | rw [if_pos (by omega)] | rw [if_neg (by omega)]))
  have hB := ((Below.refl w.heap.size w).alloc (Nat.le_refl _) (.cells #[F.s0, F.s1, F.s2] 24)).alloc (by simp) (.cells #[.int .i64 0, .int .i64 0] 28)
  generalize (w.alloc (.cells #[F.s0, F.s1, F.s2] 24)).alloc (.cells #[.int .i64 0, .int .i64 0] 28) = V at *
  have hF := h.below hB
  have c0 := b1.cell0
  have c1 := b1.cell1
  have c2 := b1.cell2
  have fin : ∀ (a b e : Int) (t : Array Value) (W W' : World), t[4]? = some (.pointer (some ⟨w.heap.size + 1, 0, none⟩)) → t[5]? = some (.int .i64 e) → Box2 W (w.heap.size + 1) 28 a b → Below w.heap.size w W → atV F.va F.pl st = ((a, b), e) → Grow w.heap.size W W' →
      ∃ u, (results Try.f18 t).run Try.prog W' = .ok u W' ∧ Ending.returned u = .returned (.tuple #[.agg #[.int .i64 (atV F.va F.pl st).1.1, .int .i64 (atV F.va F.pl st).1.2], .int .i64 (atV F.va F.pl st).2]) ∧ Below w.heap.size w W' := by
    intro a b e t W W' t2 t3 hb hW hv hG
    have h2 := hG.box2 hb
    have k0 := h2.cell0
    have k1 := h2.cell1
    rw [hv]
    exact ⟨.tuple #[.agg #[.int .i64 a, .int .i64 b], .int .i64 e], by simp [results, Try.f18, go_sem, t2, t3, k0, k1], rfl, hW.trans (hG.below (Nat.le_refl _) hW.size)⟩
  have fin2 : ∀ (a b e : Int) (t : Array Value) (W W' : World), t[4]? = some (.pointer (some ⟨w.heap.size + 1, 0, none⟩)) → t[5]? = some (.int .i64 e) → Box2 W (w.heap.size + 1) 28 a b → Below w.heap.size w W → atV F.va F.pl st = ((a, b), e) → Grow w.heap.size W W' →
      ∃ u, (results Try.f18 t).run Try.prog W' = .ok u W' ∧ u = .tuple #[.agg #[.int .i64 (atV F.va F.pl st).1.1, .int .i64 (atV F.va F.pl st).1.2], .int .i64 (atV F.va F.pl st).2] ∧ Below w.heap.size w W' := by
    intro a b e t W W' t2 t3 hb hW hv hG
    obtain ⟨u, h1, h2, h3⟩ := fin a b e t W W' t2 t3 hb hW hv hG
    exact ⟨u, h1, by injection h2, h3⟩
  obtain ⟨vb, hvb⟩ : ∃ b, F.va = b := ⟨_, rfl⟩
  have hfur := refFurrow_c F V hF
  rw [hvb] at hfur
  have HV := Lib.hid hvb
  clear hvb
  refine exec_seq (exec_seq (exec_region_o fun ds => ?_))
  gi_wp2_with fail
  refine ⟨trivial, rfl, (callsIn_wide.2 hfur).mono ?_⟩
  rintro e X ⟨rfl, hx⟩
  have hK := Keep.of_below hx
  replace b1 : Box3 X w.heap.size 24 F.s0 F.s1 F.s2 := (hx.block _ b1.lt).trans b1
  replace b2 : Box2 X (w.heap.size + 1) 28 0 0 := (hx.block _ b2.lt).trans b2
  replace hF := hF.below hx
  replace hB := hB.trans (hx.mono hB.size)
  clear hx hfur c0 c1 c2
  gi_wp2
  refine eq_mk hK ?_
  show Exec _ _ _ _ _ _
  clear hK
  clear V
  have bad : ∀ (er : Int), Box2 ((X.setCell ⟨w.heap.size + 1, 0, none⟩ (.int .i64 0)).setCell ⟨w.heap.size + 1, 1, none⟩ (.int .i64 0)) (w.heap.size + 1) 28 0 0 ∧ Below w.heap.size w ((X.setCell ⟨w.heap.size + 1, 0, none⟩ (.int .i64 0)).setCell ⟨w.heap.size + 1, 1, none⟩ (.int .i64 0)) := fun er =>
    ⟨by (simp only [Boxed, Box2, heap_alloc_at, heap_set_at, World.size_alloc, World.size_setCell]; repeat (first | rfl | exact b2 | rw [if_pos (by omega)] | rw [if_neg (by omega)] | rw [show _ = _ from b2])), (hB.setCell (by show w.heap.size ≤ w.heap.size + 1; omega) _).setCell (by show w.heap.size ≤ w.heap.size + 1; omega) _⟩
  cases vb with
  | false =>
    refine exec_cond (b := true) (by simp [ev, go_sem, Act.eval]) (fun _ => ?_) (fun h => by cases h)
    have k0 := b2.cell0
    have k1 := b2.cell1
    have k2 := b2.frozen
    refine exec_seq (exec_region_o fun ds => ?_)
    gi_wp2
    refine eq_mk (((Keep.refl _).setCell _ _).setCell _ _) (exec_ret ⟨.inr rfl, fun W' hG => by first | exact fin 0 0 1 _ _ _ rfl rfl (bad 1).1 (bad 1).2 (by rw [HV.out]; rfl) hG | exact fin2 0 0 1 _ _ _ rfl rfl (bad 1).1 (bad 1).2 (by rw [HV.out]; rfl) hG⟩)
  | true =>
  refine exec_cond (b := false) (by simp [ev, go_sem, Act.eval]) (fun h => by cases h) (fun _ => exec_skip ?_)
  show Exec _ _ _ _ _ _
  have c0 := b1.cell0
  have c1 := b1.cell1
  have c2 := b1.cell2
  refine exec_seq (exec_seq (exec_region_o fun ds => ?_))
  gi_wp2_with fail
  refine ⟨trivial, rfl, (callsIn_wide.2 (Inner_c F st X h40)).mono ?_⟩
  rintro e Z ⟨rfl, hx⟩
  have hK := Keep.of_below hx
  replace b1 : Box3 Z w.heap.size 24 F.s0 F.s1 F.s2 := (hx.block _ b1.lt).trans b1
  replace b2 : Box2 Z (w.heap.size + 1) 28 0 0 := (hx.block _ b2.lt).trans b2
  replace hF := hF.below hx
  replace hB := hB.trans (hx.mono hB.size)
  clear hx c0 c1 c2 bad
  gi_wp2
  refine eq_mk hK ?_
  show Exec _ _ _ _ _ _
  clear hK
  clear X
  have bad : ∀ (er : Int), Box2 ((Z.setCell ⟨w.heap.size + 1, 0, none⟩ (.int .i64 0)).setCell ⟨w.heap.size + 1, 1, none⟩ (.int .i64 0)) (w.heap.size + 1) 28 0 0 ∧ Below w.heap.size w ((Z.setCell ⟨w.heap.size + 1, 0, none⟩ (.int .i64 0)).setCell ⟨w.heap.size + 1, 1, none⟩ (.int .i64 0)) := fun er =>
    ⟨by (simp only [Boxed, Box2, heap_alloc_at, heap_set_at, World.size_alloc, World.size_setCell]; repeat (first | rfl | exact b2 | rw [if_pos (by omega)] | rw [if_neg (by omega)] | rw [show _ = _ from b2])), (hB.setCell (by show w.heap.size ≤ w.heap.size + 1; omega) _).setCell (by show w.heap.size ≤ w.heap.size + 1; omega) _⟩
  by_cases hin : 0 < st ∧ st + 1 < F.l0.length
  case neg =>
    have HV2 := Lib.hid (show atV F.va F.pl st = ((0, 0), 2) by unfold atV; rw [HV.out, if_pos rfl, F.pl_len, if_neg hin])
    have hne : (!(decide (0 < st) && decide (st + 1 < F.l0.length))) = true := by
      simp only [Bool.not_eq_true', Bool.and_eq_false_iff, decide_eq_false_iff_not]
      by_cases h0 : 0 < st
      · exact .inr fun h1 => hin ⟨h0, h1⟩
      · exact .inl h0
    refine exec_cond (b := true) (by rw [← hne]; simp [ev, go_sem, Act.eval]) (fun _ => ?_) (fun h => by cases h)
    have k0 := b2.cell0
    have k1 := b2.cell1
    have k2 := b2.frozen
    refine exec_seq (exec_region_o fun ds => ?_)
    gi_wp2
    refine eq_mk (((Keep.refl _).setCell _ _).setCell _ _) (exec_ret ⟨.inr rfl, fun W' hG => by first | exact fin 0 0 2 _ _ _ rfl rfl (bad 1).1 (bad 1).2 HV2.out hG | exact fin2 0 0 2 _ _ _ rfl rfl (bad 1).1 (bad 1).2 HV2.out hG⟩)
  case pos =>
  refine exec_cond (b := false) (by simp [ev, go_sem, Act.eval, hin.1, hin.2]) (fun h => by cases h) (fun _ => exec_skip ?_)
  show Exec _ _ _ _ _ _
  obtain ⟨s, rfl⟩ : ∃ s : Nat, st = (s : Int) := ⟨st.toNat, by omega⟩
  have hi1 : 1 ≤ s := by omega
  have hi2 : s + 1 < F.l0.length := by omega
  have HVA := Lib.hid (show atV F.va F.pl ((s : Nat) : Int) = (atF F.pl s, 0) by unfold atV; rw [HV.out, if_pos rfl, F.pl_len, if_pos hin, Int.toNat_natCast])
  have c0 := b1.cell0
  have c1 := b1.cell1
  have c2 := b1.cell2
  have hlen := hl HV.out
  refine exec_seq (exec_region_o fun ds => ?_)
  gi_wp2_with fail
  refine ⟨trivial, rfl, (callsIn_wide.2 (All_c HV.out Z hF hlen)).mono ?_⟩
  rintro e Y ⟨⟨A, c, rfl, hcl, hC⟩, hx⟩
  have hK := Keep.of_below hx
  have hlt : w.heap.size + 1 < Y.heap.size := Nat.lt_of_lt_of_le b2.lt hx.size
  replace b2 : Box2 Y (w.heap.size + 1) 28 0 0 := (hx.block _ b2.lt).trans b2
  replace hB := hB.trans (hx.mono hB.size)
  clear hx c0 c1 c2 b1 hF bad
  gi_wp2
  refine eq_mk hK ?_
  show Exec _ _ _ _ _ _
  clear hK
  clear Z
  refine exec_seq (exec_region_o fun ds => ?_)
  gi_wp2
  refine eq_mk ((Keep.refl _).alloc _) ?_
  show Exec _ _ _ _ _ _
  have ha := (Below.refl Y.heap.size Y).alloc (Nat.le_refl _) (.cells #[.int .i64 0, .int .i64 0] 28)
  have b5 := Box2.new Y 28 0 0
  refine exec_cut (fun t' W => Below Y.heap.size Y W ∧ Box2 W Y.heap.size 28 (atV F.va F.pl ((s : Nat) : Int)).1.1 (atV F.va F.pl ((s : Nat) : Int)).1.2 ∧ Slots (o4 (some (.pointer (some ⟨w.heap.size + 1, 0, none⟩)) :: none :: none :: some (.pointer (some ⟨Y.heap.size, 0, none⟩)) :: none :: none :: o4 (o4 (o4 (o16 []))))) t') (exec_seq (exec_region_o fun ds => ?_)) ?_
  · gi_wp2
    refine eq_mk (Keep.refl _) ?_
    show Exec _ _ _ _ _ _
    refine (an_loop (f := fun x => bnd (fnOf x) s) (c := c) (rp := .pointer (some ⟨w.heap.size + 1, 0, none⟩)) hlen (fun x hx A c w hr hc => bnd_x HV.out hx hi1 hi2 A c w hr hc) hC _ ha b5 _ (by simp only [Slots, Fits, and_self])).mono ?_
    intro e t' W hh
    obtain ⟨rfl, h1, h2, h3⟩ := only_normal hh
    refine ⟨h1, ?_, h3⟩
    rw [at_law (Fur.okS HV.out) hi1 (by rw [F.pl_len]; exact hi2)] at h2
    rw [HVA.out]
    exact h2
  · clear ha b5
    rintro t' W ⟨hy, b5, hSl⟩
    obtain ⟨x, hx⟩ := Slots.open_ hSl; simp only [fill, Nat.reduceAdd] at hx; subst hx; clear hSl
    obtain ⟨p, hp⟩ : ∃ p, (atV F.va F.pl ((s : Nat) : Int)).1.1 = p := ⟨_, rfl⟩
    obtain ⟨q, hq⟩ : ∃ p, (atV F.va F.pl ((s : Nat) : Int)).1.2 = p := ⟨_, rfl⟩
    have hv0 : atV F.va F.pl ((s : Nat) : Int) = ((p, q), 0) := by
      rw [← hp, ← hq]
      rw [HVA.out]
    have HV0 := Lib.hid hv0
    clear hv0
    rw [hp, hq] at b5
    clear hp hq
    replace b2 : Box2 W (w.heap.size + 1) 28 0 0 := (hy.block _ hlt).trans b2
    replace hB := hB.trans (hy.mono hB.size)
    have k0 := b2.cell0
    have k1 := b2.cell1
    have k2 := b2.frozen
    have k3 := b5.cell0
    have k4 := b5.cell1
    have b2' : Box2 ((W.setCell ⟨w.heap.size + 1, 0, none⟩ (.int .i64 p)).setCell ⟨w.heap.size + 1, 1, none⟩ (.int .i64 q)) (w.heap.size + 1) 28 p q := by (simp only [Boxed, Box2, heap_alloc_at, heap_set_at, World.size_alloc, World.size_setCell]; repeat (first | rfl | exact b2 | rw [if_pos (by omega)] | rw [if_neg (by omega)] | rw [show _ = _ from b2]))
    have hB' : Below w.heap.size w ((W.setCell ⟨w.heap.size + 1, 0, none⟩ (.int .i64 p)).setCell ⟨w.heap.size + 1, 1, none⟩ (.int .i64 q)) := (hB.setCell (by show w.heap.size ≤ w.heap.size + 1; omega) _).setCell (by show w.heap.size ≤ w.heap.size + 1; omega) _
    refine exec_seq (exec_region_o fun ds => ?_)
    gi_wp2
    refine eq_mk (((Keep.refl _).setCell _ _).setCell _ _) (exec_ret ⟨.inr rfl, fun W' hG => by first | exact fin p q 0 _ _ _ rfl rfl b2' hB' HV0.out hG | exact fin2 p q 0 _ _ _ rfl rfl b2' hB' HV0.out hG⟩)
end Go.Proofs.Ytafmgmaelnpehaa
end

section
set_option linter.unusedVariables false
set_option linter.unusedSimpArgs false
namespace Go.Proofs.Ytafmgmaelnpehaa
open Go.RowKit Go.TL Go.Shelf Go.Fu
attribute [local go_sem] Oper.semAt_some
open PFurrowAsks Go.Proofs.YtafmgmaelnpehaaW.PrintWords
theorem best_mem {f : List Int → Int} {ll : List (List Int)} (h : 0 < ll.length) (i : Nat) (hi : i ≤ ll.length) : bestV f ll i ∈ ll := by
  rcases Nat.eq_zero_or_pos i with e | e
  · subst e
    exact wst_mem h
  · obtain ⟨j, hj, e, _⟩ := best_spec f ll i e
    rw [e]
    exact wst_mem (by omega)
def SrI (V : World) (A : Option Addr) (c : Nat) (ll : List (List Int)) (f : List Int → Int) (j : Nat) (t : Array Value) (W : World) : Prop :=
  ∃ (i : Nat) (Ab : Option Addr) (cb : Nat), i ≤ ll.length ∧ j = ll.length - i ∧ Below V.heap.size V W ∧ RowI V Ab (bestV f ll i) ∧ (bestV f ll i).length ≤ cb ∧ Slots (o4 (some (.slice A ll.length c) :: some (.slice Ab (bestV f ll i).length cb) :: some (.int .i64 ((i : Nat) : Int)) :: none :: none :: none :: o4 (o4 (o16 [])))) t
def SrM (V : World) (ad : Addr) (c n i : Nat) (y : List Int) (t : Array Value) (W : World) : Prop :=
  Below V.heap.size V W ∧ ∃ Ab cb, RowI V Ab y ∧ y.length ≤ cb ∧ Slots (o4 (some (.slice (some ad) n c) :: some (.slice Ab y.length cb) :: some (.int .i64 ((i : Nat) : Int)) :: none :: none :: none :: o4 (o4 (o16 [])))) t
def SrE (V : World) (y : List Int) (t : Array Value) (W : World) : Prop :=
  Below V.heap.size V W ∧ ∃ Ab cb, RowI V Ab y ∧ y.length ≤ cb ∧ Slots (none :: o4 (some (.slice Ab y.length cb) :: o4 (o4 (o4 (o16 []))))) t
set_option maxRecDepth 100000 in
set_option maxHeartbeats 4000000 in
theorem sr_loop {A : Option Addr} {c : Nat} {ll : List (List Int)} {f : List Int → Int} (hn : ll.length ≤ 1000000) (h0 : 0 < ll.length)
    (hcf : ∀ x ∈ ll, ∀ (A : Option Addr) (c : Nat) (w : World), RowI w A x → x.length ≤ c → Calls Try.prog 33 #[.slice A x.length c] w fun e w' => e = .returned (.int .i64 (f x)) ∧ Below w.heap.size w w')
    {V : World} (hC : KL.C V A ll.length ll) {Ab : Option Addr} {cb : Nat} (hR0 : RowI V Ab (bestV f ll 0)) (hc0 : (bestV f ll 0).length ≤ cb) (t : Array Value) (hSl : Slots (o4 (some (.slice A ll.length c) :: some (.slice Ab (bestV f ll 0).length cb) :: some (.int .i64 0) :: none :: none :: none :: o4 (o4 (o16 [])))) t) :
    Exec Try.prog none (sub (Try.f20.body.getD .skip) [1, 1, 1, 1, 0, 1]) t V (andThen (SrE V (bestV f ll ll.length)) fun _ _ _ => False) := by
  have hu83 := Try.underlying83
  refine exec_block ?_
  refine exec_loop (SrI V A c ll f) ll.length ⟨0, Ab, cb, by omega, by omega, Below.refl _ _, hR0, hc0, by simpa using hSl⟩ ?_
  clear hSl t hR0 hc0
  rintro j t W ⟨i, Ab, cb, hi, hj, hB, hb, hcb, hSl⟩
  have hbm := best_mem (f := f) h0 i hi
  have hst : bestV f ll (i + 1) = if f (ll.getD i []) < f (bestV f ll i) then ll.getD i [] else bestV f ll i := rfl
  obtain ⟨y, hy⟩ : ∃ y, bestV f ll i = y := ⟨_, rfl⟩
  obtain ⟨y', hy'⟩ : ∃ y, bestV f ll (i + 1) = y := ⟨_, rfl⟩
  rw [hy, hy'] at hst
  rw [hy] at hb hcb hbm hSl
  have hfy := hcf _ hbm
  obtain ⟨x, hx⟩ := Slots.open_ hSl; simp only [fill, Nat.reduceAdd] at hx; subst hx; clear hSl
  refine exec_seq (exec_seq (exec_region_o fun ds => ?_))
  gi_wp2
  refine eq_mk (Keep.refl _) ?_
  show Exec _ _ _ _ _ _
  refine exec_cond (b := decide (i < ll.length)) rfl (fun hp => exec_skip ?_) (fun hp => exec_exit ?_)
  · have hil : i < ll.length := of_decide_eq_true hp
    show Exec _ _ _ _ _ _
    obtain ⟨ad, Ai, ci, hA, hcell, hci, hR⟩ := at_L hC i hil
    have hf := hcf _ (wst_mem hil)
    obtain ⟨xl, hxl⟩ : ∃ y, ll.getD i [] = y := ⟨_, rfl⟩
    rw [hxl] at hf hst hcell hR hci
    clear hxl hy hbm
    subst hA
    have hadd := (Grow.of_below (B := 0) hB).cell hcell
    have hRW := Kd.C_below hR hB
    have hbW := Kd.C_below hb hB
    have hiI : (i : Int) < ll.length := by omega
    refine exec_cut (SrM V ad c ll.length i y') ?_ ?_
    · refine exec_block (exec_seq (exec_region_o fun ds => ?_))
      gi_wp2_with fail
      refine ⟨trivial, rfl, (callsIn_wide.2 (hf _ _ W hRW hci)).mono ?_⟩
      rintro e W1 ⟨rfl, hB1⟩
      gi_wp2_with fail
      refine ⟨trivial, rfl, (callsIn_wide.2 (hfy _ _ W1 (Kd.C_below hbW hB1) hcb)).mono ?_⟩
      rintro e W2 ⟨rfl, hB2⟩
      have hS2 : Below W.heap.size W W2 := hB1.trans (hB2.mono hB1.size)
      gi_wp2
      refine eq_mk (Keep.of_below hS2) ?_
      show Exec _ _ _ _ _ _
      have gB := hB.trans (hS2.mono hB.size)
      by_cases hlt : f xl < f y
      · rw [if_pos hlt] at hst
        subst hst
        have hadd2 := (Grow.of_below (B := 0) gB).cell hcell
        refine exec_cond (b := true) (by rw [← decide_eq_true hlt]; rfl) (fun _ => ?_) (fun h => by cases h)
        refine exec_region_o fun ds => ?_
        gi_wp2
        exact eq_mk (Keep.refl _) ⟨gB, Ai, ci, hR, hci, (by simp only [Slots, Fits, and_self])⟩
      · rw [if_neg hlt] at hst
        subst hst
        refine exec_cond (b := false) (by rw [← decide_eq_false hlt]; rfl) (fun h => by cases h) (fun _ => exec_skip ?_)
        exact ⟨gB, Ab, cb, hb, hcb, (by simp only [Slots, Fits, and_self])⟩
    · clear hB hb hcb hadd hRW hbW hR hci
      rintro t' W' ⟨hB, Ab, cb, hb, hcb, hSl⟩
      clear x
      obtain ⟨x, hx⟩ := Slots.open_ hSl; simp only [fill, Nat.reduceAdd] at hx; subst hx; clear hSl
      have hw : IntKind.i64.wrap ((i : Int) + 1) = ((i + 1 : Nat) : Int) := by rw [IntWalk.i64_in _ (by omega)]; norm_cast
      refine exec_region_o fun ds => ?_
      gi_wp2
      refine eq_mk (Keep.refl _) ⟨j - 1, by omega, i + 1, Ab, cb, by omega, by omega, hB, by rw [hy']; exact hb, by rw [hy']; exact hcb, by rw [hy']; simp only [Slots, Fits, and_self]; simp⟩
  · have hil : i = ll.length := by have := of_decide_eq_false hp; omega
    show SrE _ _ _ _
    rw [hil] at hy
    exact ⟨hB, Ab, cb, by rw [hy]; exact hb, by rw [hy]; exact hcb, by rw [hy]; simp only [Slots, Fits, and_self]⟩
theorem all_pos {F : Fur} (hva : F.va = true) : 0 < (allL F.pl).length := List.length_pos_of_mem (truth_toL (lo_truth (Fur.okS hva)))
/-- What Straightest gives back. -/
def StrRet (sv : List Int × Int) (e : Ending) (w' : World) : Prop := ∃ A c, e = .returned (.tuple #[.slice A sv.1.length c, .int .i64 sv.2]) ∧ sv.1.length ≤ c ∧ RowI w' A sv.1
set_option maxRecDepth 100000 in
set_option maxHeartbeats 1000000 in
theorem refStr_c (F : Fur) (w : World) (h : F.At w) (hl : F.va = true → (allL F.pl).length ≤ 1000000) :
    Calls Try.prog 20 #[F.val] w fun e w' => StrRet (strV F.va F.pl) e w' ∧ Below w.heap.size w w' := by
  refine calls_of_exec Try.func20 rfl ?_
  simp only [Try.ntmps20, List.size_toArray, List.length_cons, List.length_nil, Nat.reduceAdd, Nat.reduceSub, Array.replicate_succ, Array.replicate_zero, List.push_toArray, List.append_toArray, List.nil_append, List.cons_append]
  simp only [Fur.val]
  refine exec_seq (exec_region_o fun ds => ?_)
  gi_wp2
  refine eq_mk ((Keep.refl w).alloc _) ?_
  show Exec _ _ _ _ _ _
  have b1 := Box3.new w 24 F.s0 F.s1 F.s2
  have hB := (Below.refl w.heap.size w).alloc (Nat.le_refl _) (.cells #[F.s0, F.s1, F.s2] 24)
  generalize w.alloc (.cells #[F.s0, F.s1, F.s2] 24) = V at *
  have hF := h.below hB
  have c0 := b1.cell0
  have c1 := b1.cell1
  have c2 := b1.cell2
  have HSV := Lib.hid (rfl : strV F.va F.pl = strV F.va F.pl)
  obtain ⟨vb, hvb⟩ : ∃ b, F.va = b := ⟨_, rfl⟩
  have hfur := refFurrow_c F V hF
  rw [hvb] at hfur
  obtain ⟨sv, hsv⟩ : ∃ x, strV F.va F.pl = x := ⟨_, rfl⟩
  rw [hsv]
  have HS := Lib.hid hsv
  clear hsv HSV
  have HV := Lib.hid hvb
  clear hvb
  refine exec_seq (exec_seq (exec_region_o fun ds => ?_))
  gi_wp2_with fail
  refine ⟨trivial, rfl, (callsIn_wide.2 hfur).mono ?_⟩
  rintro e X ⟨rfl, hx⟩
  have hK := Keep.of_below hx
  replace b1 : Box3 X w.heap.size 24 F.s0 F.s1 F.s2 := (hx.block _ b1.lt).trans b1
  replace hF := hF.below hx
  replace hB := hB.trans (hx.mono hB.size)
  clear hx hfur c0 c1 c2
  gi_wp2
  refine eq_mk hK ?_
  show Exec _ _ _ _ _ _
  clear hK
  clear V
  cases vb with
  | false =>
    have e1 := HS.out
    rw [HV.out] at e1
    have e2 : sv = ([], 1) := e1.symm
    subst e2
    refine exec_cond (b := true) (by simp [ev, go_sem, Act.eval]) (fun _ => ?_) (fun h => by cases h)
    refine exec_seq (exec_region_o fun ds => ?_)
    gi_wp2
    refine eq_mk (Keep.refl _) (exec_ret ⟨.inr rfl, fun W' hG => ⟨_, by simp [results, Try.f20, go_sem], ⟨none, 0, rfl, Nat.le_refl _, Kd.C_nil _ _⟩, hB.trans (hG.below (Nat.le_refl _) hB.size)⟩⟩)
  | true =>
  refine exec_cond (b := false) (by simp [ev, go_sem, Act.eval]) (fun h => by cases h) (fun _ => exec_skip ?_)
  show Exec _ _ _ _ _ _
  have c0 := b1.cell0
  have c1 := b1.cell1
  have c2 := b1.cell2
  have hlen := hl HV.out
  have hpos := all_pos HV.out
  refine exec_seq (exec_region_o fun ds => ?_)
  gi_wp2_with fail
  refine ⟨trivial, rfl, (callsIn_wide.2 (All_c HV.out X hF hlen)).mono ?_⟩
  rintro e Y ⟨⟨A, c, rfl, hcl, hC⟩, hx⟩
  have hK := Keep.of_below hx
  replace hB := hB.trans (hx.mono hB.size)
  clear hx c0 c1 c2 b1 hF
  gi_wp2
  refine eq_mk hK ?_
  show Exec _ _ _ _ _ _
  clear hK
  clear X
  have hcf := fun x (hx : x ∈ allL F.pl) A c w hr hc => most_x HV.out hx A c w hr hc
  have hbest : bestV mostX (allL F.pl) (allL F.pl).length = sv.1 ∧ sv.2 = 0 := by
    rw [str_law (Fur.okS HV.out) (str_spec (Fur.okS HV.out)), ← HS.out]
    unfold strV
    rw [HV.out]
    exact ⟨rfl, rfl⟩
  obtain ⟨s1, s2⟩ := sv
  obtain ⟨hb1, hb2⟩ := hbest
  simp only at hb1 hb2
  subst hb2
  clear HS
  obtain ⟨ad, Ai, ci, hA, hcell, hci, hR⟩ := at_L hC 0 hpos
  have hpI : (0 : Int) < ((allL F.pl).length : Int) := by omega
  generalize allL F.pl = ll at *
  obtain ⟨x0, hx0⟩ : ∃ x, ll.getD 0 [] = x := ⟨_, rfl⟩
  rw [hx0] at hcell hci hR
  have hb0 : bestV mostX ll 0 = x0 := hx0
  clear hx0
  subst hA
  have hz : ad.add 0 = ad := by unfold Addr.add; split <;> simp_all
  rw [hz] at hcell
  refine exec_seq (exec_region_o fun ds => ?_)
  gi_wp2
  refine eq_mk (Keep.refl _) ?_
  show Exec _ _ _ _ _ _
  refine exec_cut (SrE Y s1) (exec_seq (exec_region_o fun ds => ?_)) ?_
  · gi_wp2
    refine eq_mk (Keep.refl _) ?_
    show Exec _ _ _ _ _ _
    refine (sr_loop (f := mostX) (c := c) (Ab := Ai) (cb := ci) hlen hpos hcf hC (by rw [hb0]; exact hR) (by rw [hb0]; exact hci) _ (by rw [hb0]; simp only [Slots, Fits, and_self])).mono ?_
    intro e t' W hh
    obtain ⟨rfl, h1, Ab, cb, h2, h3, h4⟩ := only_normal hh
    rw [hb1] at h2 h3 h4
    exact ⟨h1, Ab, cb, h2, h3, h4⟩
  · rintro t' W ⟨hy, Ab, cb, hr, hc, hSl⟩
    obtain ⟨x, hx⟩ := Slots.open_ hSl; simp only [fill, Nat.reduceAdd] at hx; subst hx; clear hSl
    replace hB := hB.trans (hy.mono hB.size)
    refine exec_seq (exec_region_o fun ds => ?_)
    gi_wp2
    exact eq_mk (Keep.refl _) (exec_ret ⟨.inr rfl, fun W' hG => ⟨_, by simp [results, Try.f20, go_sem], ⟨Ab, cb, rfl, hc, RowI.grow (Kd.C_below hr hy) hG⟩, hB.trans (hG.below (Nat.le_refl _) hB.size)⟩⟩)
end Go.Proofs.Ytafmgmaelnpehaa
end

section
set_option linter.unusedVariables false
set_option linter.unusedSimpArgs false
namespace Go.Proofs.Ytafmgmaelnpehaa
open Go.RowKit Go.TL Go.Shelf Go.Fu
attribute [local go_sem] Oper.semAt_some
open PFurrowAsks Go.Proofs.YtafmgmaelnpehaaW.PrintWords
theorem power_c (n : Nat) (hn : n ≤ 20) (w : World) : Calls Try.prog 63 #[.int .i64 ((n : Nat) : Int)] w fun e w' => e = .returned (.int .i64 ((2 ^ n : Nat) : Int)) ∧ Below w.heap.size w w' := by
  obtain ⟨k, hk⟩ := (power_ev n hn).rounds
  refine (furrowworksref04_power.calls k _ _ w hk).mono ?_
  rintro e w' ⟨rfl, ⟨nd, rfl⟩⟩
  refine ⟨?_, pw_below_drewN (Below.refl _ _) nd⟩
  push_cast
  rfl
def WnI (V : World) (A : Option Addr) (c b1 n : Nat) (sS sC : Int) (ll : List (List Int)) (p : List Int → Bool) (j : Nat) (t : Array Value) (W : World) : Prop :=
  ∃ i : Nat, i ≤ ll.length ∧ j = ll.length - i ∧ Below V.heap.size V W ∧ Slots (none :: some (.pointer (some ⟨b1, 0, none⟩)) :: none :: none :: none :: some (.slice A ll.length c) :: some (.int .i64 sS) :: some (.int .i64 sC) :: some (.int .i64 ((n : Nat) : Int)) :: some (.int .i64 ((cntV p ll i : Nat) : Int)) :: some (.int .i64 ((i : Nat) : Int)) :: none :: o16 (o16 (o16 []))) t
def WnM (V : World) (ad : Addr) (N c b1 n : Nat) (sS sC : Int) (k i : Nat) (t : Array Value) (W : World) : Prop :=
  Below V.heap.size V W ∧ Slots (none :: some (.pointer (some ⟨b1, 0, none⟩)) :: none :: none :: none :: some (.slice (some ad) N c) :: some (.int .i64 sS) :: some (.int .i64 sC) :: some (.int .i64 ((n : Nat) : Int)) :: some (.int .i64 ((k : Nat) : Int)) :: some (.int .i64 ((i : Nat) : Int)) :: none :: o16 (o16 (o16 []))) t
set_option maxRecDepth 100000 in
set_option maxHeartbeats 4000000 in
theorem wn_loop {A : Option Addr} {c b1 n : Nat} {sS sC : Int} {ll : List (List Int)} {g f : List Int → Int} (hn : ll.length ≤ 1000000)
    (hcg : ∀ x ∈ ll, ∀ (A : Option Addr) (c : Nat) (w : World), RowI w A x → x.length ≤ c → Calls Try.prog 55 #[.slice A x.length c, .int .i64 ((n : Nat) : Int)] w fun e w' => e = .returned (.int .i64 (g x)) ∧ Below w.heap.size w w')
    (hcf : ∀ x ∈ ll, ∀ (A : Option Addr) (c : Nat) (w : World), RowI w A x → x.length ≤ c → Calls Try.prog 33 #[.slice A x.length c] w fun e w' => e = .returned (.int .i64 (f x)) ∧ Below w.heap.size w w')
    {V : World} (hC : KL.C V A ll.length ll) (t : Array Value) (hSl : Slots (none :: some (.pointer (some ⟨b1, 0, none⟩)) :: none :: none :: none :: some (.slice A ll.length c) :: some (.int .i64 sS) :: some (.int .i64 sC) :: some (.int .i64 ((n : Nat) : Int)) :: some (.int .i64 0) :: some (.int .i64 0) :: none :: o16 (o16 (o16 []))) t) :
    Exec Try.prog none (sub (Try.f22.body.getD .skip) [1, 1, 1, 1, 0, 1, 0, 0, 1, 0, 0, 1, 0, 1]) t V (andThen (fun t' W' => Below V.heap.size V W' ∧ Slots (none :: some (.pointer (some ⟨b1, 0, none⟩)) :: none :: none :: none :: some (.slice A ll.length c) :: some (.int .i64 sS) :: some (.int .i64 sC) :: some (.int .i64 ((n : Nat) : Int)) :: some (.int .i64 ((cntV (fun x => g x == f x) ll ll.length : Nat) : Int)) :: none :: none :: o16 (o16 (o16 []))) t') fun _ _ _ => False) := by
  have hu83 := Try.underlying83
  refine exec_block ?_
  refine exec_loop (WnI V A c b1 n sS sC ll (fun x => g x == f x)) ll.length ⟨0, by omega, by omega, Below.refl _ _, by simpa [cntV] using hSl⟩ ?_
  clear hSl t
  rintro j t W ⟨i, hi, hj, hB, hSl⟩
  have hkl := cnt_le (fun x => g x == f x) ll i
  have hst : cntV (fun x => g x == f x) ll (i + 1) = if (g (ll.getD i []) == f (ll.getD i [])) then cntV (fun x => g x == f x) ll i + 1 else cntV (fun x => g x == f x) ll i := rfl
  obtain ⟨k, hk⟩ : ∃ k, cntV (fun x => g x == f x) ll i = k := ⟨_, rfl⟩
  obtain ⟨k', hk'⟩ : ∃ k, cntV (fun x => g x == f x) ll (i + 1) = k := ⟨_, rfl⟩
  rw [hk, hk'] at hst
  rw [hk] at hkl hSl
  obtain ⟨x, hx⟩ := Slots.open_ hSl; simp only [fill, Nat.reduceAdd] at hx; subst hx; clear hSl
  refine exec_seq (exec_seq (exec_region_o fun ds => ?_))
  gi_wp2
  refine eq_mk (Keep.refl _) ?_
  show Exec _ _ _ _ _ _
  refine exec_cond (b := decide (i < ll.length)) rfl (fun hp => exec_skip ?_) (fun hp => exec_exit ?_)
  · have hil : i < ll.length := of_decide_eq_true hp
    show Exec _ _ _ _ _ _
    obtain ⟨ad, Ai, ci, hA, hcell, hci, hR⟩ := at_L hC i hil
    have hg := hcg _ (wst_mem hil)
    have hf := hcf _ (wst_mem hil)
    obtain ⟨xl, hxl⟩ : ∃ y, ll.getD i [] = y := ⟨_, rfl⟩
    rw [hxl] at hf hg hst hcell hR hci
    clear hxl hk
    subst hA
    have hadd : ∀ W', Below W.heap.size W W' → W'.cell? (ad.add i) = some (.slice Ai xl.length ci) := fun W' hw => (Grow.of_below (B := 0) hw).cell ((Grow.of_below (B := 0) hB).cell hcell)
    have hRW := Kd.C_below hR hB
    have hiI : (i : Int) < ll.length := by omega
    obtain ⟨z, hz⟩ : ∃ z, (g xl == f xl) = z := ⟨_, rfl⟩
    rw [hz] at hst
    obtain ⟨gv, hgv⟩ : ∃ v, g xl = v := ⟨_, rfl⟩
    obtain ⟨fv, hfv⟩ : ∃ v, f xl = v := ⟨_, rfl⟩
    rw [hgv] at hg hz
    rw [hfv] at hf hz
    refine exec_cut (WnM V ad ll.length c b1 n sS sC k' i) ?_ ?_
    · refine exec_block (exec_seq (region_of_tail 12 (by kernel_rfl) (by kernel_rfl) (by kernel_rfl) (fun W' => Below W.heap.size W W') (fun _ _ _ => False) (fun _ _ _ h => h.elim) fun ds => ?_))
      have hS : Below W.heap.size W W.drew := (Below.refl _ W).drew
      refine held_take 0 (.slice (some ad) ll.length c) rfl (by kernel_rfl) (by kernel_rfl) (by kernel_rfl) (by intro _ _ _ h; first | exact h | (simpa [behind, Act.put] using h)) rfl (by first | exact hS | assumption) (fun wq hq => ?_) ?_; (focus (first | rfl | (simp [go_sem]; done))); simp only [Act.put, Array.getInternal_eq_getElem, List.getElem_toArray, List.getElem_cons_succ, List.getElem_cons_zero, List.setIfInBounds_toArray, List.set_cons_succ, List.set_cons_zero]
      refine held_take 1 (.int .i64 ((i : Nat) : Int)) rfl (by kernel_rfl) (by kernel_rfl) (by kernel_rfl) (by intro _ _ _ h; first | exact h | (simpa [behind, Act.put] using h)) rfl (by first | exact hS | assumption) (fun wq hq => ?_) ?_; (focus (first | rfl | (simp [go_sem]; done))); simp only [Act.put, Array.getInternal_eq_getElem, List.getElem_toArray, List.getElem_cons_succ, List.getElem_cons_zero, List.setIfInBounds_toArray, List.set_cons_succ, List.set_cons_zero]
      refine held_take 2 (.pointer (some (ad.add i))) rfl (by kernel_rfl) (by kernel_rfl) (by kernel_rfl) (by intro _ _ _ h; first | exact h | (simpa [behind, Act.put] using h)) rfl (by first | exact hS | assumption) (fun wq hq => ?_) ?_; (focus (simp [go_sem, hu83, hiI]; done)); simp only [Act.put, Array.getInternal_eq_getElem, List.getElem_toArray, List.getElem_cons_succ, List.getElem_cons_zero, List.setIfInBounds_toArray, List.set_cons_succ, List.set_cons_zero]
      refine held_take 3 (.slice Ai xl.length ci) rfl (by kernel_rfl) (by kernel_rfl) (by kernel_rfl) (by intro _ _ _ h; first | exact h | (simpa [behind, Act.put] using h)) rfl (by first | exact hS | assumption) (fun wq hq => ?_) ?_; (focus (simp [go_sem, hadd wq hq]; done)); simp only [Act.put, Array.getInternal_eq_getElem, List.getElem_toArray, List.getElem_cons_succ, List.getElem_cons_zero, List.setIfInBounds_toArray, List.set_cons_succ, List.set_cons_zero]
      refine held_take 4 (.int .i64 ((n : Nat) : Int)) rfl (by kernel_rfl) (by kernel_rfl) (by kernel_rfl) (by intro _ _ _ h; first | exact h | (simpa [behind, Act.put] using h)) rfl (by first | exact hS | assumption) (fun wq hq => ?_) ?_; (focus (first | rfl | (simp [go_sem]; done))); simp only [Act.put, Array.getInternal_eq_getElem, List.getElem_toArray, List.getElem_cons_succ, List.getElem_cons_zero, List.setIfInBounds_toArray, List.set_cons_succ, List.set_cons_zero]
      refine held_take 6 (.slice (some ad) ll.length c) rfl (by kernel_rfl) (by kernel_rfl) (by kernel_rfl) (by intro _ _ _ h; first | exact h | (simpa [behind, Act.put] using h)) rfl (by first | exact hS | assumption) (fun wq hq => ?_) ?_; (focus (first | rfl | (simp [go_sem]; done))); simp only [Act.put, Array.getInternal_eq_getElem, List.getElem_toArray, List.getElem_cons_succ, List.getElem_cons_zero, List.setIfInBounds_toArray, List.set_cons_succ, List.set_cons_zero]
      refine held_take 7 (.int .i64 ((i : Nat) : Int)) rfl (by kernel_rfl) (by kernel_rfl) (by kernel_rfl) (by intro _ _ _ h; first | exact h | (simpa [behind, Act.put] using h)) rfl (by first | exact hS | assumption) (fun wq hq => ?_) ?_; (focus (first | rfl | (simp [go_sem]; done))); simp only [Act.put, Array.getInternal_eq_getElem, List.getElem_toArray, List.getElem_cons_succ, List.getElem_cons_zero, List.setIfInBounds_toArray, List.set_cons_succ, List.set_cons_zero]
      refine held_take 8 (.pointer (some (ad.add i))) rfl (by kernel_rfl) (by kernel_rfl) (by kernel_rfl) (by intro _ _ _ h; first | exact h | (simpa [behind, Act.put] using h)) rfl (by first | exact hS | assumption) (fun wq hq => ?_) ?_; (focus (simp [go_sem, hu83, hiI]; done)); simp only [Act.put, Array.getInternal_eq_getElem, List.getElem_toArray, List.getElem_cons_succ, List.getElem_cons_zero, List.setIfInBounds_toArray, List.set_cons_succ, List.set_cons_zero]
      refine held_take 9 (.slice Ai xl.length ci) rfl (by kernel_rfl) (by kernel_rfl) (by kernel_rfl) (by intro _ _ _ h; first | exact h | (simpa [behind, Act.put] using h)) rfl (by first | exact hS | assumption) (fun wq hq => ?_) ?_; (focus (simp [go_sem, hadd wq hq]; done)); simp only [Act.put, Array.getInternal_eq_getElem, List.getElem_toArray, List.getElem_cons_succ, List.getElem_cons_zero, List.setIfInBounds_toArray, List.set_cons_succ, List.set_cons_zero]
      refine held_call 5 (f := 55) (args := #[.slice Ai xl.length ci, .int .i64 ((n : Nat) : Int)]) rfl (by kernel_rfl) rfl (by simp [go_sem]) ?_
      refine (hg _ _ W.drew (Kd.C_below hRW hS) hci).mono ?_
      rintro e W1 ⟨rfl, hB1⟩
      have hS1 : Below W.heap.size W W1 := hS.trans hB1
      refine .inl ⟨_, rfl, hS1, ?_⟩
      simp only [Act.put, Array.getInternal_eq_getElem, List.getElem_toArray, List.getElem_cons_succ, List.getElem_cons_zero, List.setIfInBounds_toArray, List.set_cons_succ, List.set_cons_zero]
      refine held_call 10 (f := 33) (args := #[.slice Ai xl.length ci]) rfl (by kernel_rfl) rfl (by simp [go_sem]) ?_
      refine (hf _ _ W1 (Kd.C_below hRW hS1) hci).mono ?_
      rintro e W2 ⟨rfl, hB2⟩
      have hS2 : Below W.heap.size W W2 := hS1.trans (hB2.mono hS1.size)
      refine .inl ⟨_, rfl, hS2, ?_⟩
      simp only [Act.put, Array.getInternal_eq_getElem, List.getElem_toArray, List.getElem_cons_succ, List.getElem_cons_zero, List.setIfInBounds_toArray, List.set_cons_succ, List.set_cons_zero]
      refine held_take 11 (.bool z) rfl (by kernel_rfl) (by kernel_rfl) (by kernel_rfl) (by intro _ _ _ h; first | exact h | (simpa [behind, Act.put] using h)) rfl (by first | exact hS | assumption) (fun wq hq => ?_) ?_; (focus (simp [go_sem, hz]; done)); simp only [Act.put, Array.getInternal_eq_getElem, List.getElem_toArray, List.getElem_cons_succ, List.getElem_cons_zero, List.setIfInBounds_toArray, List.set_cons_succ, List.set_cons_zero]
      refine held_done (by kernel_rfl) ?_
      refine any_done (by kernel_rfl) ⟨rfl, Keep.of_below hS2, ?_⟩
      have gB := hB.trans (hS2.mono hB.size)
      show Exec _ _ _ _ _ _
      simp only [List.take_succ_cons, List.take_zero, List.take_nil, List.getElem_toArray, List.getElem_cons_succ, List.getElem_cons_zero, Act.put, List.setIfInBounds_toArray, List.set_cons_succ, List.set_cons_zero]
      cases z with
      | true =>
        rw [if_pos rfl] at hst
        subst hst
        have hw : IntKind.i64.wrap ((k : Int) + 1) = ((k + 1 : Nat) : Int) := by rw [IntWalk.i64_in _ (by omega)]; norm_cast
        refine exec_cond (b := true) rfl (fun _ => ?_) (fun h => by cases h)
        refine exec_region_o fun ds => ?_
        gi_wp2
        exact eq_mk (Keep.refl _) ⟨gB, by simp only [Slots, Fits, and_self]; simp⟩
      | false =>
        rw [if_neg (by decide)] at hst
        subst hst
        refine exec_cond (b := false) rfl (fun h => by cases h) (fun _ => exec_skip ?_)
        exact ⟨gB, (by simp only [Slots, Fits, and_self])⟩
    · clear hB hadd hRW hR hci
      rintro t' W' ⟨hB, hSl⟩
      clear x
      obtain ⟨x, hx⟩ := Slots.open_ hSl; simp only [fill, Nat.reduceAdd] at hx; subst hx; clear hSl
      have hw : IntKind.i64.wrap ((i : Int) + 1) = ((i + 1 : Nat) : Int) := by rw [IntWalk.i64_in _ (by omega)]; norm_cast
      refine exec_region_o fun ds => ?_
      gi_wp2
      refine eq_mk (Keep.refl _) ⟨j - 1, by omega, i + 1, by omega, by omega, hB, by rw [hk']; simp only [Slots, Fits, and_self]; simp⟩
  · have hil : i = ll.length := by have := of_decide_eq_false hp; omega
    show _ ∧ _
    rw [hil] at hk
    exact ⟨hB, by rw [hk]; simp only [Slots, Fits, and_self]⟩
def WrI (V : World) (A : Option Addr) (c b1 N len : Nat) (pS pC : Nat → Bool) (j : Nat) (t : Array Value) (W : World) : Prop :=
  ∃ n : Nat, 1 ≤ n ∧ (n ≤ len - 1 ∨ n = 1) ∧ j = len - n ∧ Below V.heap.size V W ∧ Slots (none :: some (.pointer (some ⟨b1, 0, none⟩)) :: none :: none :: none :: some (.slice A N c) :: some (.int .i64 ((setN pS n : Nat) : Int)) :: some (.int .i64 ((setN pC n : Nat) : Int)) :: some (.int .i64 ((n : Nat) : Int)) :: none :: none :: none :: o16 (o16 (o16 []))) t
def WrM (V : World) (A : Option Addr) (c b1 N : Nat) (n : Nat) (a b : Nat) (t : Array Value) (W : World) : Prop :=
  Below V.heap.size V W ∧ Slots (none :: some (.pointer (some ⟨b1, 0, none⟩)) :: none :: none :: none :: some (.slice A N c) :: some (.int .i64 ((a : Nat) : Int)) :: some (.int .i64 ((b : Nat) : Int)) :: some (.int .i64 ((n : Nat) : Int)) :: none :: none :: none :: o16 (o16 (o16 []))) t
def WrK (V : World) (A : Option Addr) (c b1 N : Nat) (n : Nat) (a b k : Nat) (t : Array Value) (W : World) : Prop :=
  Below V.heap.size V W ∧ Slots (none :: some (.pointer (some ⟨b1, 0, none⟩)) :: none :: none :: none :: some (.slice A N c) :: some (.int .i64 ((a : Nat) : Int)) :: some (.int .i64 ((b : Nat) : Int)) :: some (.int .i64 ((n : Nat) : Int)) :: some (.int .i64 ((k : Nat) : Int)) :: none :: none :: o16 (o16 (o16 []))) t
set_option maxRecDepth 100000 in
set_option maxHeartbeats 4000000 in
theorem wr_loop {F : Fur} (hva : F.va = true) {A : Option Addr} {c b1 : Nat} (hlen : (allL F.pl).length ≤ 1000000) {V : World} (hC : KL.C V A (allL F.pl).length (allL F.pl)) (hb : Box3 V b1 24 F.s0 F.s1 F.s2) (t : Array Value)
    (hSl : Slots (none :: some (.pointer (some ⟨b1, 0, none⟩)) :: none :: none :: none :: some (.slice A (allL F.pl).length c) :: some (.int .i64 0) :: some (.int .i64 0) :: some (.int .i64 1) :: none :: none :: none :: o16 (o16 (o16 []))) t) :
    Exec Try.prog none (sub (Try.f22.body.getD .skip) [1, 1, 1, 1, 0, 1]) t V (andThen (fun t' W' => Below V.heap.size V W' ∧ Slots (none :: none :: o4 (some (.int .i64 ((setN (worstS F.pl) (F.l0.length - 1) : Nat) : Int)) :: some (.int .i64 ((setN (worstC F.pl) (F.l0.length - 1) : Nat) : Int)) :: o4 (o16 (o16 (o16 []))))) t') fun _ _ _ => False) := by
  have h8 := Fur.le8 hva
  have s0 : worstS F.pl 0 = false := by unfold worstS; rfl
  have c0 : worstC F.pl 0 = false := by unfold worstC; rfl
  refine exec_block ?_
  refine exec_loop (WrI V A c b1 (allL F.pl).length F.l0.length (worstS F.pl) (worstC F.pl)) (F.l0.length - 1) ⟨1, by omega, .inr rfl, rfl, Below.refl _ _, by simpa [setN, s0, c0] using hSl⟩ ?_
  clear hSl t
  rintro j t W ⟨n, h1, hn, hj, hB, hSl⟩
  obtain ⟨x, hx⟩ := Slots.open_ hSl; simp only [fill, Nat.reduceAdd] at hx; subst hx; clear hSl
  have hbW : Box3 W b1 24 F.s0 F.s1 F.s2 := (hB.block _ hb.lt).trans hb
  have k0 := hbW.cell0
  simp only [Fur.s0] at k0
  have hw : IntKind.i64.wrap ((n : Int) + 1) = ((n + 1 : Nat) : Int) := by rw [IntWalk.i64_in _ (by omega)]; norm_cast
  refine exec_seq (exec_seq (exec_region_o fun ds => ?_))
  gi_wp2
  refine eq_mk (Keep.refl _) ?_
  show Exec _ _ _ _ _ _
  clear k0
  refine exec_cond (b := decide (n + 1 < F.l0.length)) (by show Value.bool _ = _; congr 1; exact decide_eq_decide.2 (by omega)) (fun hp => exec_skip ?_) (fun hp => exec_exit ?_)
  · have hnl : n + 1 < F.l0.length := of_decide_eq_true hp
    show Exec _ _ _ _ _ _
    obtain ⟨a, ha⟩ : ∃ a, setN (worstS F.pl) n = a := ⟨_, rfl⟩
    obtain ⟨b, hb'⟩ : ∃ a, setN (worstC F.pl) n = a := ⟨_, rfl⟩
    have ea : setN (worstS F.pl) (n + 1) = a + if worstS F.pl n then 2 ^ n else 0 := by rw [← ha]; rfl
    have eb : setN (worstC F.pl) (n + 1) = b + if worstC F.pl n then 2 ^ n else 0 := by rw [← hb']; rfl
    have la : a < 2 ^ n := by rw [← ha]; exact setN_lt _ _
    have lb : b < 2 ^ n := by rw [← hb']; exact setN_lt _ _
    have lp : 2 ^ n ≤ 2 ^ 8 := Nat.pow_le_pow_right (by omega) (by omega)
    simp only [ha, hb']
    have hwS := wst_all (Fur.okS hva) h1 (by rw [F.pl_len]; exact hnl)
    have hwC := wst_some (Fur.okS hva) h1 (by rw [F.pl_len]; exact hnl)
    have hcl := cnt_le (wstX n) (allL F.pl) (allL F.pl).length
    refine exec_cut (WrM V A c b1 (allL F.pl).length n (setN (worstS F.pl) (n + 1)) (setN (worstC F.pl) (n + 1))) ?_ ?_
    · refine exec_block (exec_seq (exec_region_o fun ds => ?_))
      gi_wp2
      refine eq_mk (Keep.refl _) ?_
      show Exec _ _ _ _ _ _
      refine exec_cut (WrK V A c b1 (allL F.pl).length n a b (cntV (wstX n) (allL F.pl) (allL F.pl).length)) (exec_seq (exec_region_o fun ds => ?_)) ?_
      · gi_wp2
        refine eq_mk (Keep.refl _) ?_
        show Exec _ _ _ _ _ _
        refine (wn_loop (b1 := b1) (n := n) (sS := (a : Int)) (sC := (b : Int)) (c := c) (g := fun x => bnd (fnOf x) n) (f := mostX) hlen (fun x hx A c w hr hc => bnd_x hva hx h1 hnl A c w hr hc) (fun x hx A c w hr hc => most_x hva hx A c w hr hc) (Kd.C_below hC hB) _ (by simp only [Slots, Fits, and_self])).mono ?_
        intro e t' W' hh
        obtain ⟨rfl, g1, g2⟩ := only_normal hh
        exact ⟨hB.trans (g1.mono hB.size), g2⟩
      · clear hbW
        clear x hB W
        rintro t' W ⟨hB, hSl⟩
        have hkN : (allL F.pl).length ≤ 1000000 := hlen
        generalize cntV (wstX n) (allL F.pl) (allL F.pl).length = k at *
        obtain ⟨x, hx⟩ := Slots.open_ hSl; simp only [fill, Nat.reduceAdd] at hx; subst hx; clear hSl
        have eS : ((k : Int) == ((allL F.pl).length : Int)) = worstS F.pl n := by
          rw [Bool.eq_iff_iff, beq_iff_eq, ← hwS]
          omega
        have eC : decide ((k : Int) > 0) = worstC F.pl n := by
          rw [Bool.eq_iff_iff, decide_eq_true_iff, ← hwC]
          omega
        have eC' : decide (0 < (k : Int)) = worstC F.pl n := eC
        refine exec_cut (WrK V A c b1 (allL F.pl).length n (setN (worstS F.pl) (n + 1)) b k) (exec_seq (exec_region_o fun ds => ?_)) ?_
        · gi_wp2
          refine eq_mk (Keep.refl _) ?_
          show Exec _ _ _ _ _ _
          refine exec_cond (b := worstS F.pl n) (by rw [← eS]; rfl) (fun hp => ?_) (fun hp => exec_skip ?_)
          · rw [hp, if_pos rfl] at ea
            have hw2 : IntKind.i64.wrap ((a : Int) + ((2 ^ n : Nat) : Int)) = ((setN (worstS F.pl) (n + 1) : Nat) : Int) := by rw [IntWalk.i64_in _ (by omega), ea]; norm_cast
            have hpw := power_c n (by omega) W
            generalize 2 ^ n = pw at *
            refine exec_region_o fun ds => ?_
            gi_wp2_with fail
            refine ⟨trivial, rfl, (callsIn_wide.2 hpw).mono ?_⟩
            rintro e X ⟨rfl, hx⟩
            gi_wp2
            exact eq_mk (Keep.of_below hx) ⟨hB.trans (hx.mono hB.size), by rw [ea]; simp only [Slots, Fits, and_self]; simp⟩
          · rw [hp, if_neg (by decide)] at ea
            exact ⟨hB, by rw [ea]; simp only [Slots, Fits, and_self, Nat.add_zero]⟩
        · clear x hB W eS ea la
          rintro t' W ⟨hB, hSl⟩
          generalize setN (worstS F.pl) (n + 1) = a' at *
          obtain ⟨x, hx⟩ := Slots.open_ hSl; simp only [fill, Nat.reduceAdd] at hx; subst hx; clear hSl
          refine exec_seq (exec_region_o fun ds => ?_)
          gi_wp2
          refine eq_mk (Keep.refl _) ?_
          show Exec _ _ _ _ _ _
          refine exec_cond (b := worstC F.pl n) (by rw [← eC]; first | rfl | simp [ev, Act.eval]) (fun hp => ?_) (fun hp => exec_skip ?_)
          · rw [hp, if_pos rfl] at eb
            have hw2 : IntKind.i64.wrap ((b : Int) + ((2 ^ n : Nat) : Int)) = ((setN (worstC F.pl) (n + 1) : Nat) : Int) := by rw [IntWalk.i64_in _ (by omega), eb]; norm_cast
            have hpw := power_c n (by omega) W
            generalize 2 ^ n = pw at *
            refine exec_region_o fun ds => ?_
            gi_wp2_with fail
            refine ⟨trivial, rfl, (callsIn_wide.2 hpw).mono ?_⟩
            rintro e X ⟨rfl, hx⟩
            gi_wp2
            exact eq_mk (Keep.of_below hx) ⟨hB.trans (hx.mono hB.size), by rw [eb]; simp only [Slots, Fits, and_self]; simp⟩
          · rw [hp, if_neg (by decide)] at eb
            exact ⟨hB, by rw [eb]; simp only [Slots, Fits, and_self, Nat.add_zero]⟩
    · clear hB hbW
      clear x W
      rintro t' W ⟨hB, hSl⟩
      obtain ⟨x, hx⟩ := Slots.open_ hSl; simp only [fill, Nat.reduceAdd] at hx; subst hx; clear hSl
      refine exec_region_o fun ds => ?_
      gi_wp2
      refine eq_mk (Keep.refl _) ⟨j - 1, by omega, n + 1, by omega, .inl (by omega), by omega, hB, by simp only [Slots, Fits, and_self]; simp⟩
  · have hnl : ¬ n + 1 < F.l0.length := of_decide_eq_false hp
    show _ ∧ _
    have hnn : n = F.l0.length - 1 ∨ n = 1 ∧ F.l0.length ≤ 1 := by omega
    have e : ∀ p : Nat → Bool, p 0 = false → setN p n = setN p (F.l0.length - 1) := by
      intro p hp
      rcases hnn with h | ⟨h, h'⟩
      · rw [h]
      · rw [h, show F.l0.length - 1 = 0 by omega]
        simp [setN, hp]
    rw [← e _ s0, ← e _ c0]
    exact ⟨hB, (by simp only [Slots, Fits, and_self])⟩
set_option maxRecDepth 100000 in
set_option maxHeartbeats 1000000 in
theorem refWorst_c (F : Fur) (w : World) (h : F.At w) (hl : F.va = true → (allL F.pl).length ≤ 1000000) :
    Calls Try.prog 22 #[F.val] w fun e w' => e = .returned (.tuple #[.int .i64 (worstV F.va F.pl).1, .int .i64 (worstV F.va F.pl).2.1, .int .i64 (worstV F.va F.pl).2.2]) ∧ Below w.heap.size w w' := by
  obtain ⟨sv, hsv⟩ : ∃ x, worstV F.va F.pl = x := ⟨_, rfl⟩
  rw [hsv]
  have HS := Lib.hid hsv
  clear hsv
  refine calls_of_exec Try.func22 rfl ?_
  simp only [Try.ntmps22, List.size_toArray, List.length_cons, List.length_nil, Nat.reduceAdd, Nat.reduceSub, Array.replicate_succ, Array.replicate_zero, List.push_toArray, List.append_toArray, List.nil_append, List.cons_append]
  simp only [Fur.val]
  refine exec_seq (exec_region_o fun ds => ?_)
  gi_wp2
  refine eq_mk ((Keep.refl w).alloc _) ?_
  show Exec _ _ _ _ _ _
  have b1 := Box3.new w 24 F.s0 F.s1 F.s2
  have hB := (Below.refl w.heap.size w).alloc (Nat.le_refl _) (.cells #[F.s0, F.s1, F.s2] 24)
  generalize w.alloc (.cells #[F.s0, F.s1, F.s2] 24) = V at *
  have hF := h.below hB
  have c0 := b1.cell0
  have c1 := b1.cell1
  have c2 := b1.cell2
  obtain ⟨vb, hvb⟩ : ∃ b, F.va = b := ⟨_, rfl⟩
  have hfur := refFurrow_c F V hF
  rw [hvb] at hfur
  have HV := Lib.hid hvb
  clear hvb
  refine exec_seq (exec_seq (exec_region_o fun ds => ?_))
  gi_wp2_with fail
  refine ⟨trivial, rfl, (callsIn_wide.2 hfur).mono ?_⟩
  rintro e X ⟨rfl, hx⟩
  have hK := Keep.of_below hx
  replace b1 : Box3 X w.heap.size 24 F.s0 F.s1 F.s2 := (hx.block _ b1.lt).trans b1
  replace hF := hF.below hx
  replace hB := hB.trans (hx.mono hB.size)
  clear hx hfur c0 c1 c2
  gi_wp2
  refine eq_mk hK ?_
  show Exec _ _ _ _ _ _
  clear hK
  clear V
  cases vb with
  | false =>
    have e1 := HS.out
    rw [HV.out] at e1
    have e2 : sv = (0, 0, 1) := e1.symm
    subst e2
    refine exec_cond (b := true) (by simp [ev, go_sem, Act.eval]) (fun _ => ?_) (fun h => by cases h)
    refine exec_seq (exec_region_o fun ds => ?_)
    gi_wp2
    exact eq_mk (Keep.refl _) (exec_ret ⟨.inr rfl, fun W' hG => ⟨_, by simp [results, Try.f22, go_sem], rfl, hB.trans (hG.below (Nat.le_refl _) hB.size)⟩⟩)
  | true =>
  refine exec_cond (b := false) (by simp [ev, go_sem, Act.eval]) (fun h => by cases h) (fun _ => exec_skip ?_)
  show Exec _ _ _ _ _ _
  have c0 := b1.cell0
  have c1 := b1.cell1
  have c2 := b1.cell2
  have hlen := hl HV.out
  refine exec_seq (exec_region_o fun ds => ?_)
  gi_wp2_with fail
  refine ⟨trivial, rfl, (callsIn_wide.2 (All_c HV.out X hF hlen)).mono ?_⟩
  rintro e Y ⟨⟨A, c, rfl, hcl, hC⟩, hx⟩
  have hK := Keep.of_below hx
  replace hB := hB.trans (hx.mono hB.size)
  replace b1 : Box3 Y w.heap.size 24 F.s0 F.s1 F.s2 := (hx.block _ b1.lt).trans b1
  clear hx c0 c1 c2 hF
  gi_wp2
  refine eq_mk hK ?_
  show Exec _ _ _ _ _ _
  clear hK
  clear X
  have h8 := Fur.le8 HV.out
  have hv : sv = (((setN (worstS F.pl) (F.l0.length - 1) : Nat) : Int), ((setN (worstC F.pl) (F.l0.length - 1) : Nat) : Int), 0) := by
    rw [← HS.out]
    unfold worstV
    rw [HV.out, if_pos rfl, shM_set _ _ (by rw [F.pl_len]; omega), shM_set _ _ (by rw [F.pl_len]; omega), F.pl_len]
  clear HS
  subst hv
  refine exec_seq (exec_region_o fun ds => ?_)
  gi_wp2
  refine eq_mk (Keep.refl _) ?_
  show Exec _ _ _ _ _ _
  refine exec_cut (fun t' W => Below Y.heap.size Y W ∧ Slots (none :: none :: o4 (some (.int .i64 ((setN (worstS F.pl) (F.l0.length - 1) : Nat) : Int)) :: some (.int .i64 ((setN (worstC F.pl) (F.l0.length - 1) : Nat) : Int)) :: o4 (o16 (o16 (o16 []))))) t') (exec_seq (exec_region_o fun ds => ?_)) ?_
  · gi_wp2
    refine eq_mk (Keep.refl _) ?_
    show Exec _ _ _ _ _ _
    refine (wr_loop (c := c) HV.out hlen hC b1 _ (by simp only [Slots, Fits, and_self])).mono ?_
    intro e t' W hh
    obtain ⟨rfl, h1⟩ := only_normal hh
    exact h1
  · rintro t' W ⟨hy, hSl⟩
    obtain ⟨x, hx⟩ := Slots.open_ hSl; simp only [fill, Nat.reduceAdd] at hx; subst hx; clear hSl
    replace hB := hB.trans (hy.mono hB.size)
    refine exec_seq (exec_region_o fun ds => ?_)
    gi_wp2
    exact eq_mk (Keep.refl _) (exec_ret ⟨.inr rfl, fun W' hG => ⟨_, by simp [results, Try.f22, go_sem], rfl, hB.trans (hG.below (Nat.le_refl _) hB.size)⟩⟩)
end Go.Proofs.Ytafmgmaelnpehaa
end

section
set_option linter.unusedVariables false
set_option linter.unusedSimpArgs false
namespace Go.Proofs.Ytafmgmaelnpehaa
open Go.RowKit Go.TL Go.Shelf Go.Fu
attribute [local go_sem] Oper.semAt_some
open PFurrowAsks Go.Proofs.YtafmgmaelnpehaaW.PrintWords
theorem bend_v {F : Fur} {p q e : Int} (w : World) (h : F.At w) (hv : bendV F.va F.pl = ((p, q), e)) : Calls Try.prog 15 #[F.val] w fun r w' => r = .returned (.tuple #[.agg #[.int .i64 p, .int .i64 q], .int .i64 e]) ∧ Below w.heap.size w w' := by
  have := Bend_c F w h
  rw [hv] at this
  exact this
theorem rbend_v {F : Fur} {p q e : Int} (w : World) (h : F.At w) (hl : F.va = true → (allL F.pl).length ≤ 1000000) (hv : bendV F.va F.pl = ((p, q), e)) : Calls Try.prog 16 #[F.val] w fun r w' => r = .returned (.tuple #[.agg #[.int .i64 p, .int .i64 q], .int .i64 e]) ∧ Below w.heap.size w w' := by
  have := refBend_c F w h hl
  rw [hv] at this
  exact this
theorem at_v {F : Fur} {s p q e : Int} (w : World) (h : F.At w) (h40 : F.l0.length ≤ 40) (hv : atV F.va F.pl s = ((p, q), e)) : Calls Try.prog 17 #[F.val, .int .i64 s] w fun r w' => r = .returned (.tuple #[.agg #[.int .i64 p, .int .i64 q], .int .i64 e]) ∧ Below w.heap.size w w' := by
  have := At_c F s w h h40
  rw [hv] at this
  exact this
theorem rat_v {F : Fur} {s p q e : Int} (w : World) (h : F.At w) (hl : F.va = true → (allL F.pl).length ≤ 1000000) (h40 : F.l0.length ≤ 40) (hv : atV F.va F.pl s = ((p, q), e)) : Calls Try.prog 18 #[F.val, .int .i64 s] w fun r w' => r = .returned (.tuple #[.agg #[.int .i64 p, .int .i64 q], .int .i64 e]) ∧ Below w.heap.size w w' := by
  have := refAt_c F s w h hl h40
  rw [hv] at this
  exact this
theorem str_v {F : Fur} {so : List Int} {e : Int} (w : World) (h : F.At w) (hv : strV F.va F.pl = (so, e)) : Calls Try.prog 19 #[F.val] w fun r w' => (∃ A c, r = .returned (.tuple #[.slice A so.length c, .int .i64 e]) ∧ so.length ≤ c ∧ RowI w' A so) ∧ Below w.heap.size w w' := by
  have := Straightest_c F w h
  rw [hv] at this
  exact this
theorem rstr_v {F : Fur} {so : List Int} {e : Int} (w : World) (h : F.At w) (hl : F.va = true → (allL F.pl).length ≤ 1000000) (hv : strV F.va F.pl = (so, e)) : Calls Try.prog 20 #[F.val] w fun r w' => (∃ A c, r = .returned (.tuple #[.slice A so.length c, .int .i64 e]) ∧ so.length ≤ c ∧ RowI w' A so) ∧ Below w.heap.size w w' := by
  have := refStr_c F w h hl
  rw [hv] at this
  exact this
theorem worst_v {F : Fur} {p q e : Int} (w : World) (h : F.At w) (hv : worstV F.va F.pl = (p, q, e)) : Calls Try.prog 21 #[F.val] w fun r w' => r = .returned (.tuple #[.int .i64 p, .int .i64 q, .int .i64 e]) ∧ Below w.heap.size w w' := by
  have := Worst_c F w h
  rw [hv] at this
  exact this
theorem rworst_v {F : Fur} {p q e : Int} (w : World) (h : F.At w) (hl : F.va = true → (allL F.pl).length ≤ 1000000) (hv : worstV F.va F.pl = (p, q, e)) : Calls Try.prog 22 #[F.val] w fun r w' => r = .returned (.tuple #[.int .i64 p, .int .i64 q, .int .i64 e]) ∧ Below w.heap.size w w' := by
  have := refWorst_c F w h hl
  rw [hv] at this
  exact this
theorem ints_same (l : List Int) (hl : l.length ≤ 100) : ∀ (d i : Nat), i + d = l.length → furrowworksref04_Ints.l0 (d + 1) l l i = some true
  | 0, i, hd => by
    simp only [furrowworksref04_Ints.l0]
    rw [if_neg (by omega)]
  | d + 1, i, hd => by
    unfold furrowworksref04_Ints.l0
    have hw : wrap64 ((i : Int) + 1) = ((i + 1 : Nat) : Int) := by unfold wrap64; omega
    rw [if_pos (by omega), if_pos (by omega), if_pos (by omega), if_pos rfl, hw]
    exact ints_same l hl d (i + 1) (by omega)
theorem ints_c {l : List Int} {A B : Option Addr} {c d : Nat} {w : World} (hl : l.length ≤ 100) (h1 : RowI w A l) (hc : l.length ≤ c) (h2 : RowI w B l) (hd : l.length ≤ d) : Calls Try.prog 23 #[.slice A l.length c, .slice B l.length d] w fun r w' => r = .returned (.bool true) ∧ Below w.heap.size w w' := by
  refine (furrowworksref04_Ints.calls (l.length + 1) A c l B d l true w h1 hc h2 hd (by unfold furrowworksref04_Ints.f; rw [if_pos rfl]; exact ints_same l hl l.length 0 (by omega))).mono ?_
  rintro e w' ⟨rfl, ⟨nd, rfl⟩⟩
  exact ⟨rfl, pw_below_drewN (Below.refl _ _) nd⟩
theorem wide_3 {l : List S28} (h : wideB l 3 = false) : ∀ s ∈ l, s.f1 - s.f0 ≤ 3 := by
  intro s hs
  unfold wideB at h
  have := List.any_eq_false.1 h s hs
  simpa using this
theorem heavy_63 {F : Fur} (h : heavyB F.l0 F.l1 F.l2 6 3 = false) : F.l0.length ≤ 40 ∧ (F.va = true → (allL F.pl).length ≤ 1000000 ∧ F.l0.length ≤ 8) := by
  unfold heavyB at h
  refine ⟨?_, fun hv => ?_⟩
  · split at h
    · simp only [decide_eq_false_iff_not] at h
      unfold max3 at h
      omega
    · rename_i hn
      have : ¬ max3 F.l0.length F.l1.length F.l2.length > 40 := fun c => hn (.inl c)
      unfold max3 at this
      omega
  · have h8 := Fur.le8 hv
    obtain ⟨_, n1, n2, _⟩ := valid_lens hv
    have hv' : valid F.l0 F.l1 F.l2 = true := hv
    rw [if_neg (by unfold max3; simp [hv']; omega)] at h
    simp only [Bool.or_eq_false_iff, decide_eq_false_iff_not] at h
    have h6 : F.l0.length ≤ 6 := by
      have := h.2
      unfold max3 at this
      omega
    refine ⟨?_, h8⟩
    have := ways_len F.pl [] (fun s hs => by
      obtain ⟨y, hy, rfl⟩ := List.mem_map.1 hs
      have := wide_3 h.1 y hy
      have e1 : (toP y).1 = y.f0 := rfl
      have e2 : (toP y).2 = y.f1 := rfl
      rw [e1, e2]
      omega)
    rw [F.pl_len] at this
    have p := Nat.pow_le_pow_right (show 0 < 4 by omega) h6
    unfold allL
    have e : (4 : Nat) ^ 6 = 4096 := by decide
    omega
theorem strV_len {F : Fur} {so : List Int} {e : Int} (hv : strV F.va F.pl = (so, e)) (h8 : F.va = true → F.l0.length ≤ 8) : so.length ≤ 100 := by
  unfold strV at hv
  split at hv
  · rename_i h
    have hs := str_spec (Fur.okS h)
    have : so = (strF (leastN F.pl) F.pl F.pl.length).2 := (congrArg Prod.fst hv).symm
    rw [this, hs.len, F.pl_len]
    have := h8 h
    omega
  · have : so = [] := (congrArg Prod.fst hv).symm
    rw [this]
    simp
set_option maxRecDepth 100000 in
set_option maxHeartbeats 2000000 in
theorem bends_any (F : Fur) (st : Int) (w : World) (h : F.At w) : Calls Try.prog 3 #[F.val, .int .i64 st] w fun e w' => e = .returned (.bool true) ∧ Below w.heap.size w w' := by
  refine calls_of_exec Try.func3 rfl ?_
  simp only [Try.ntmps3, List.size_toArray, List.length_cons, List.length_nil, Nat.reduceAdd, Nat.reduceSub, Array.replicate_succ, Array.replicate_zero, List.push_toArray, List.append_toArray, List.nil_append, List.cons_append]
  simp only [Fur.val]
  refine exec_seq (exec_region_o fun ds => ?_)
  gi_wp2
  refine eq_mk ((Keep.refl w).alloc _) ?_
  show Exec _ _ _ _ _ _
  have b1 := Box3.new w 24 F.s0 F.s1 F.s2
  have hB := (Below.refl w.heap.size w).alloc (Nat.le_refl _) (.cells #[F.s0, F.s1, F.s2] 24)
  generalize w.alloc (.cells #[F.s0, F.s1, F.s2] 24) = W0 at *
  have hF := h.below hB
  clear h
  have c0 := b1.cell0
  have c1 := b1.cell1
  have c2 := b1.cell2
  obtain ⟨hv, hhv⟩ : ∃ b, heavyB F.l0 F.l1 F.l2 6 3 = b := ⟨_, rfl⟩
  have hvy := heavy_any F 6 3 W0 hF
  rw [hhv] at hvy
  refine exec_seq (exec_seq (exec_region_o fun ds => ?_))
  gi_wp2_with fail
  refine ⟨trivial, rfl, (callsIn_wide.2 hvy).mono ?_⟩
  rintro e X ⟨rfl, hx⟩
  have hK := Keep.of_below hx
  replace b1 : Box3 X w.heap.size 24 F.s0 F.s1 F.s2 := (hx.block _ b1.lt).trans b1
  replace hF := hF.below hx
  replace hB := hB.trans (hx.mono hB.size)
  clear hx hvy c0 c1 c2
  gi_wp2
  refine eq_mk hK ?_
  show Exec _ _ _ _ _ _
  clear hK
  clear W0
  cases hv with
  | true =>
    refine exec_cond (b := true) rfl (fun _ => ?_) (fun h => by cases h)
    refine exec_seq (exec_region_o fun ds => ?_)
    gi_wp2_with fail
    refine ⟨trivial, rfl, (callsIn_wide.2 (alive_any X)).mono ?_⟩
    rintro e Y ⟨rfl, hy⟩
    gi_wp2
    refine eq_mk (Keep.of_below hy) ?_
    show Exec _ _ _ _ _ _
    exact exec_ret ⟨.inr rfl, fun W' hG => ⟨.bool true, by simp [results, Try.f3, go_sem], rfl, (hB.trans (hy.mono hB.size)).trans (hG.below (Nat.le_refl _) (hB.trans (hy.mono hB.size)).size)⟩⟩
  | false =>
  refine exec_cond (b := false) rfl (fun h => by cases h) (fun _ => exec_skip ?_)
  show Exec _ _ _ _ _ _
  have HVY := Lib.hid hhv
  clear hhv
  obtain ⟨h40, hl8⟩ := heavy_63 HVY.out
  have hl : F.va = true → (allL F.pl).length ≤ 1000000 := fun hv => (hl8 hv).1
  obtain ⟨⟨⟨pb, qb⟩, e6⟩, hbv⟩ : ∃ x, bendV F.va F.pl = x := ⟨_, rfl⟩
  obtain ⟨⟨⟨pa, qa⟩, e10⟩, hav⟩ : ∃ x, atV F.va F.pl st = x := ⟨_, rfl⟩
  obtain ⟨⟨so, e14⟩, hsv⟩ : ∃ x, strV F.va F.pl = x := ⟨_, rfl⟩
  obtain ⟨⟨sS, sC, e19⟩, hwv⟩ : ∃ x, worstV F.va F.pl = x := ⟨_, rfl⟩
  have hso := strV_len hsv (fun hv => (hl8 hv).2)
  have HBV := Lib.hid hbv
  have HAV := Lib.hid hav
  have HSV := Lib.hid hsv
  have HWV := Lib.hid hwv
  have HL := Lib.hid hl
  clear hbv hav hsv hwv hl hl8 HVY
  have c0 := b1.cell0
  have c1 := b1.cell1
  have c2 := b1.cell2
  refine exec_seq (exec_region_o fun ds => ?_)
  gi_wp2_with fail
  refine ⟨trivial, rfl, (callsIn_wide.2 (bend_v X hF HBV.out)).mono ?_⟩
  rintro e Y1 ⟨rfl, hy⟩
  replace hF := hF.below hy
  replace hB := hB.trans (hy.mono hB.size)
  replace b1 := box3_below hy b1
  have hK := Keep.of_below hy
  clear hy c0 c1 c2
  gi_wp2
  refine eq_mk (hK.alloc _) ?_
  show Exec _ _ _ _ _ _
  have ha := (Below.refl Y1.heap.size Y1).alloc (Nat.le_refl _) (.cells #[.int .i64 pb, .int .i64 qb] 28)
  replace hF := hF.below ha
  replace hB := hB.trans (ha.mono hB.size)
  replace b1 := box3_below ha b1
  have q5 := Box2.new Y1 28 pb qb
  generalize Y1.alloc (.cells #[.int .i64 pb, .int .i64 qb] 28) = Z1 at *
  clear ha hK
  generalize Y1.heap.size = a5 at *
  clear Y1 X
  have c0 := b1.cell0
  have c1 := b1.cell1
  have c2 := b1.cell2
  refine exec_seq (exec_region_o fun ds => ?_)
  gi_wp2_with fail
  refine ⟨trivial, rfl, (callsIn_wide.2 (rbend_v Z1 hF HL.out HBV.out)).mono ?_⟩
  rintro e Y2 ⟨rfl, hy⟩
  replace hF := hF.below hy
  replace hB := hB.trans (hy.mono hB.size)
  replace b1 := box3_below hy b1
  replace q5 := box2_below hy q5
  have hK := Keep.of_below hy
  clear hy c0 c1 c2
  gi_wp2
  refine eq_mk (hK.alloc _) ?_
  show Exec _ _ _ _ _ _
  have ha := (Below.refl Y2.heap.size Y2).alloc (Nat.le_refl _) (.cells #[.int .i64 pb, .int .i64 qb] 28)
  replace hF := hF.below ha
  replace hB := hB.trans (ha.mono hB.size)
  replace b1 := box3_below ha b1
  replace q5 := box2_below ha q5
  have q7 := Box2.new Y2 28 pb qb
  generalize Y2.alloc (.cells #[.int .i64 pb, .int .i64 qb] 28) = Z2 at *
  clear ha hK
  generalize Y2.heap.size = a7 at *
  clear Y2 Z1
  have c0 := b1.cell0
  have c1 := b1.cell1
  have c2 := b1.cell2
  refine exec_seq (exec_region_o fun ds => ?_)
  gi_wp2_with fail
  refine ⟨trivial, rfl, (callsIn_wide.2 (at_v Z2 hF h40 HAV.out)).mono ?_⟩
  rintro e Y3 ⟨rfl, hy⟩
  replace hF := hF.below hy
  replace hB := hB.trans (hy.mono hB.size)
  replace b1 := box3_below hy b1
  replace q5 := box2_below hy q5
  replace q7 := box2_below hy q7
  have hK := Keep.of_below hy
  clear hy c0 c1 c2
  gi_wp2
  refine eq_mk (hK.alloc _) ?_
  show Exec _ _ _ _ _ _
  have ha := (Below.refl Y3.heap.size Y3).alloc (Nat.le_refl _) (.cells #[.int .i64 pa, .int .i64 qa] 28)
  replace hF := hF.below ha
  replace hB := hB.trans (ha.mono hB.size)
  replace b1 := box3_below ha b1
  replace q5 := box2_below ha q5
  replace q7 := box2_below ha q7
  have q9 := Box2.new Y3 28 pa qa
  generalize Y3.alloc (.cells #[.int .i64 pa, .int .i64 qa] 28) = Z3 at *
  clear ha hK
  generalize Y3.heap.size = a9 at *
  clear Y3 Z2
  have c0 := b1.cell0
  have c1 := b1.cell1
  have c2 := b1.cell2
  refine exec_seq (exec_region_o fun ds => ?_)
  gi_wp2_with fail
  refine ⟨trivial, rfl, (callsIn_wide.2 (rat_v Z3 hF HL.out h40 HAV.out)).mono ?_⟩
  rintro e Y4 ⟨rfl, hy⟩
  replace hF := hF.below hy
  replace hB := hB.trans (hy.mono hB.size)
  replace b1 := box3_below hy b1
  replace q5 := box2_below hy q5
  replace q7 := box2_below hy q7
  replace q9 := box2_below hy q9
  have hK := Keep.of_below hy
  clear hy c0 c1 c2
  gi_wp2
  refine eq_mk (hK.alloc _) ?_
  show Exec _ _ _ _ _ _
  have ha := (Below.refl Y4.heap.size Y4).alloc (Nat.le_refl _) (.cells #[.int .i64 pa, .int .i64 qa] 28)
  replace hF := hF.below ha
  replace hB := hB.trans (ha.mono hB.size)
  replace b1 := box3_below ha b1
  replace q5 := box2_below ha q5
  replace q7 := box2_below ha q7
  replace q9 := box2_below ha q9
  have q11 := Box2.new Y4 28 pa qa
  generalize Y4.alloc (.cells #[.int .i64 pa, .int .i64 qa] 28) = Z4 at *
  clear ha hK
  generalize Y4.heap.size = a11 at *
  clear Y4 Z3
  have c0 := b1.cell0
  have c1 := b1.cell1
  have c2 := b1.cell2
  refine exec_seq (exec_region_o fun ds => ?_)
  gi_wp2_with fail
  refine ⟨trivial, rfl, (callsIn_wide.2 (str_v Z4 hF HSV.out)).mono ?_⟩
  rintro e Y5 ⟨⟨A13, c13, rfl, hc13, hr13⟩, hy⟩
  replace hF := hF.below hy
  replace hB := hB.trans (hy.mono hB.size)
  replace b1 := box3_below hy b1
  replace q5 := box2_below hy q5
  replace q7 := box2_below hy q7
  replace q9 := box2_below hy q9
  replace q11 := box2_below hy q11
  have hK := Keep.of_below hy
  clear hy c0 c1 c2
  gi_wp2
  refine eq_mk hK ?_
  show Exec _ _ _ _ _ _
  clear hK
  clear Z4
  have c0 := b1.cell0
  have c1 := b1.cell1
  have c2 := b1.cell2
  refine exec_seq (exec_region_o fun ds => ?_)
  gi_wp2_with fail
  refine ⟨trivial, rfl, (callsIn_wide.2 (rstr_v Y5 hF HL.out HSV.out)).mono ?_⟩
  rintro e Y6 ⟨⟨A15, c15, rfl, hc15, hr15⟩, hy⟩
  replace hF := hF.below hy
  replace hB := hB.trans (hy.mono hB.size)
  replace b1 := box3_below hy b1
  replace q5 := box2_below hy q5
  replace q7 := box2_below hy q7
  replace q9 := box2_below hy q9
  replace q11 := box2_below hy q11
  replace hr13 := hr13.below hy
  have hK := Keep.of_below hy
  clear hy c0 c1 c2
  gi_wp2
  refine eq_mk hK ?_
  show Exec _ _ _ _ _ _
  clear hK
  clear Y5
  have c0 := b1.cell0
  have c1 := b1.cell1
  have c2 := b1.cell2
  refine exec_seq (exec_region_o fun ds => ?_)
  gi_wp2_with fail
  refine ⟨trivial, rfl, (callsIn_wide.2 (worst_v Y6 hF HWV.out)).mono ?_⟩
  rintro e Y7 ⟨rfl, hy⟩
  replace hF := hF.below hy
  replace hB := hB.trans (hy.mono hB.size)
  replace b1 := box3_below hy b1
  replace q5 := box2_below hy q5
  replace q7 := box2_below hy q7
  replace q9 := box2_below hy q9
  replace q11 := box2_below hy q11
  replace hr13 := hr13.below hy
  replace hr15 := hr15.below hy
  have hK := Keep.of_below hy
  clear hy c0 c1 c2
  gi_wp2
  refine eq_mk hK ?_
  show Exec _ _ _ _ _ _
  clear hK
  clear Y6
  have c0 := b1.cell0
  have c1 := b1.cell1
  have c2 := b1.cell2
  refine exec_seq (exec_region_o fun ds => ?_)
  gi_wp2_with fail
  refine ⟨trivial, rfl, (callsIn_wide.2 (rworst_v Y7 hF HL.out HWV.out)).mono ?_⟩
  rintro e Y8 ⟨rfl, hy⟩
  replace hF := hF.below hy
  replace hB := hB.trans (hy.mono hB.size)
  replace b1 := box3_below hy b1
  replace q5 := box2_below hy q5
  replace q7 := box2_below hy q7
  replace q9 := box2_below hy q9
  replace q11 := box2_below hy q11
  replace hr13 := hr13.below hy
  replace hr15 := hr15.below hy
  have hK := Keep.of_below hy
  clear hy c0 c1 c2
  gi_wp2
  refine eq_mk hK ?_
  show Exec _ _ _ _ _ _
  clear hK
  clear Y7
  have dq50 := q5.cell0
  have dq51 := q5.cell1
  have dq70 := q7.cell0
  have dq71 := q7.cell1
  have dq90 := q9.cell0
  have dq91 := q9.cell1
  have dq110 := q11.cell0
  have dq111 := q11.cell1
  refine exec_seq (exec_region_o fun ds => ?_)
  gi_wp2_with fail
  refine ⟨trivial, rfl, (callsIn_wide.2 (ints_c hso hr13 hc13 hr15 hc15)).mono ?_⟩
  rintro e Y ⟨rfl, hy⟩
  replace hB := hB.trans (hy.mono hB.size)
  have hK := Keep.of_below hy
  gi_wp2_with fail
  refine ⟨trivial, rfl, (callsIn_wide.2 (alive_any _)).mono ?_⟩
  rintro e Q ⟨rfl, hq⟩
  gi_wp2
  refine eq_mk (hK.trans (Keep.of_below hq)) ?_
  show Exec _ _ _ _ _ _
  exact exec_ret ⟨.inr rfl, fun W' hG => ⟨.bool true, by simp [results, Try.f3, go_sem], rfl, (hB.trans (hq.mono hB.size)).trans (hG.below (Nat.le_refl _) (hB.trans (hq.mono hB.size)).size)⟩⟩
end Go.Proofs.Ytafmgmaelnpehaa
end

section
set_option linter.unusedVariables false
namespace Go.Proofs.Ytafmgmaelnpehaa
open Go.ChangeShapes Go.WideShapes Go.RowKit Go.Joins Go.Deep PFurrowAsks Go.Proofs.YtafmgmaelnpehaaW.PrintWords
section
variable {H : Type} {enc : TypeId × Value → H} {w : World}
theorem row_open {n : Nat} {v : Value} {y : DataW H × List MemPlace} (h : DataW.trod enc Try.prog w 0 (fun _ => true) true n 22 [v] = some y) : ∃ A c l, v = .slice A (l : List S28).length c ∧ l.length ≤ c ∧ Row w A l := by
  rcases open_slice_pairs Try.underlying22 Try.underlying28 (by kernel_rfl) rfl rfl (by kernel_rfl) (by kernel_rfl) h with ⟨hcs, _⟩ | ⟨a, len, cap, m, n', V0, V1, D0, D1, P0, P1, hcs, _, hl, hm, hmm, _, hi⟩
  · simp only [List.cons.injEq, and_true] at hcs
    exact ⟨none, 0, [], hcs, Nat.le_refl _, rfl, by simp, fun hp => by simp at hp⟩
  · simp only [List.cons.injEq, and_true] at hcs
    have hlm : len ≤ m := by rw [hmm]; split <;> omega
    have each : ∀ i, i < len → ∃ x : S28, w.cell? (a.add (i * 2)) = some (.int .i64 x.f0) ∧ w.cell? (a.add (i * 2 + 1)) = some (.int .i64 x.f1) := by
      intro i hi'
      obtain ⟨c0, c1, t0, t1⟩ := hi i (by omega)
      obtain ⟨x, e0, _, _⟩ := DataW.trod_int Try.underlying3 t0
      obtain ⟨z, e1, _, _⟩ := DataW.trod_int Try.underlying3 t1
      simp only [List.cons.injEq, and_true] at e0 e1
      exact ⟨⟨x, z⟩, by rw [c0, e0], by rw [c1, e1]⟩
    have hex : ∃ l : List S28, l.length = len ∧ ∀ i p, l[i]? = some p → w.cell? (a.add (i * 2)) = some (.int .i64 p.f0) ∧ w.cell? (a.add (i * 2 + 1)) = some (.int .i64 p.f1) := by
      have go : ∀ k, k ≤ len → ∃ l : List S28, l.length = k ∧ ∀ i p, l[i]? = some p → w.cell? (a.add (i * 2)) = some (.int .i64 p.f0) ∧ w.cell? (a.add (i * 2 + 1)) = some (.int .i64 p.f1) := by
        intro k
        induction k with
        | zero => exact fun _ => ⟨[], rfl, fun i p hp => by simp at hp⟩
        | succ k ih =>
          intro hk
          obtain ⟨l, hl1, hl2⟩ := ih (by omega)
          obtain ⟨x, h1, h2⟩ := each k (by omega)
          refine ⟨l ++ [x], by simp [hl1], fun i p hp => ?_⟩
          rcases Nat.lt_or_ge i l.length with hlt | hge
          · rw [List.getElem?_append_left hlt] at hp
            exact hl2 i p hp
          · rw [List.getElem?_append_right hge] at hp
            have hi0 : i - l.length = 0 := by
              rcases Nat.eq_zero_or_pos (i - l.length) with h0 | h0
              · exact h0
              · obtain ⟨q, hq⟩ : ∃ q, i - l.length = q + 1 := ⟨i - l.length - 1, by omega⟩
                rw [hq] at hp
                simp at hp
            rw [hi0] at hp
            simp only [List.getElem?_cons_zero, Option.some.injEq] at hp
            subst hp
            obtain rfl : i = k := by omega
            exact ⟨h1, h2⟩
      exact go len (Nat.le_refl _)
    obtain ⟨l, hl1, hl2⟩ := hex
    refine ⟨some a, cap, l, by rw [hcs, hl1], by omega, rfl, by unfold maxLen at hm; omega, fun hp => ⟨a, rfl, fun j p hp => ?_⟩⟩
    obtain ⟨h1, h2⟩ := hl2 j p hp
    refine ⟨[.int .i64 p.f0, .int .i64 p.f1], rfl, k28_mk w p, fun i u hu => ?_⟩
    match i, hu with
    | 0, hu => simp at hu; subst hu; exact h1
    | 1, hu => simp at hu; subst hu; exact h2
    | i + 2, hu => simp at hu
set_option maxRecDepth 100000 in
theorem fur_open {r : Reach} {b0 : Nat} {v : Value} {d : DataW H} {p : List MemPlace} (hv : Value.okWide Try.prog w r b0 24 v) (h : DataW.Trod enc Try.prog w 0 (fun _ => true) true 24 v d p) : ∃ F : Fur, v = F.val ∧ F.At w := by
  obtain ⟨v0, v1, v2, y0, y1, y2, n, rfl, _, _, h0, h1, h2⟩ := open_agg3 Try.underlying24 (by kernel_rfl) (by kernel_rfl) hv h
  obtain ⟨A0, c0, l0, rfl, g0, r0⟩ := row_open h0
  obtain ⟨A1, c1, l1, rfl, g1, r1⟩ := row_open h1
  obtain ⟨A2, c2, l2, rfl, g2, r2⟩ := row_open h2
  exact ⟨⟨A0, c0, l0, A1, c1, l1, A2, c2, l2⟩, rfl, ⟨r0, g0, r1, g1, r2, g2⟩⟩
end
end Go.Proofs.Ytafmgmaelnpehaa
end

section
namespace Go.Proofs.Ytafmgmaelnpehaa
open Go.RowKit Go.TL Go.Fu PFurrowAsks Go.Proofs.YtafmgmaelnpehaaW.PrintWords in
theorem bends_row (F : Fur) (st : Int) (w : World) (h : F.At w) :
    Calls Try.prog 3 #[F.val, .int .i64 st] w fun e w' => e = .returned (.bool true) ∧ Below w.heap.size w w' := bends_any F st w h
end Go.Proofs.Ytafmgmaelnpehaa
namespace Go.Proofs.Ytafmgmaelnpehaa.furrowBends
open Go.ChangeShapes Go.WideShapes Go.ChangeAt Go.RowKit
open Go.ChangeMaps (open_string shut_string)
set_option linter.unusedVariables false
theorem own : ownKnob Try.prog.godebug = none := by kernel_rfl
theorem laidOut : laidOutB Try.prog = true := by kernel_rfl
set_option maxRecDepth 100000 in
theorem lifted (os : Os) (started : os.Started) (H : Type) (enc : TypeId × Value → H) :
    ReturnsInHanded {} Try.checked os 3 .any (Rows.furrowBendsSpec.pre6 enc Try.prog Try.f3 Rows.furrowBendsRow.domain false) (Rows.furrowBendsSpec.post enc Try.prog Try.f3 false true false false) := by
  refine returnsInHanded_of_change_sized (C := Try.checked) own started (by kernel_rfl) Try.func3
    (ChangeSpec.witness6 (enc := enc) (C := Try.checked) false ⟨#[], #[.agg #[.slice none 0 0, .slice none 0 0, .slice none 0 0], .int .i64 0], []⟩ 8 (by kernel_rfl) (by kernel_rfl) (by kernel_rfl) (by kernel_rfl)) ?_
  intro W base args ds gs before hval0 hW hcnd hsz0 _
  have hsz : (DataW.weightsEach Try.prog (Try.f3.params.toList ++ Rows.furrowBendsSpec.plain.varTypes Try.prog) (ds ++ gs)).all (· ≤ reachBytes) = true := hsz0
  have hval : ∀ (j : Nat) t v, Try.f3.params[j]? = some t → args[j]? = some v → Value.okWide Try.prog W .any base t v := hval0
  have hW' := hW
  obtain ⟨p, q, hA0, hV, rfl, hfz, hnd⟩ := hW
  have hA : DataW.TrodAll enc Try.prog W 0 (fun _ => true) true Try.f3.params.toList args.toList ds p := hA0
  rw [Try.params3] at hA hval hsz
  obtain ⟨v0, vs0, d0, ds0, p0, q0, hargs, rfl, rfl, h0, r0⟩ := trodAll_cons hA
  obtain ⟨v1, vs1, d1, ds1, p1, q1, rfl, rfl, rfl, h1, r1⟩ := trodAll_cons r0
  obtain ⟨rfl, rfl, rfl⟩ := trodAll_nil r1
  obtain rfl : args = #[v0, v1] := by cases args; simp_all
  obtain ⟨rfl, rfl⟩ := trodVars_none hV
  have k0 := h0
  have lt0 : ∀ x ∈ p0, x.block < W.heap.size := by obtain ⟨m, hm⟩ := k0; exact DataW.trod_lt m _ _ _ hm
  obtain ⟨F0, rfl, hF0⟩ := fur_open (hval 0 24 v0 rfl rfl) h0
  obtain ⟨a1, rfl, rfl, rfl, w1⟩ := open_int Try.underlying3 (hval 1 3 v1 rfl rfl) h1
  clear hA0 hval0 hsz0 hsz
  refine (bends_row F0 a1 W hF0).mono fun e W' ⟨he, bel⟩ => ?_
  subst he
  exact ⟨_, rfl, _, _, _, [], _, [], hW', trodAll_mk1 (shut_bool Try.underlying4 _), (trodAll_cons_mk (Below.trod laidOut (by kernel_rfl) (of_decide_eq_true (by kernel_rfl)) k0 bel lt0) (trodAll_cons_mk (shut_int Try.underlying3 w1) trodAll_mk0)), rfl, bel.frame _, fun h => by cases h⟩
theorem over : Rows.furrowBendsRow.holds Try.pinned (OpenSpec.ofChange Rows.furrowBendsSpec) :=
  OpenClaim.holds_of_wide 3 Try.f3 rfl rfl rfl rfl rfl rfl rfl ⟨rfl, rfl, rfl, rfl, rfl⟩ rfl rfl rfl rfl rfl (by kernel_rfl) Try.func3 (by kernel_rfl)
    (of_decide_eq_true (by kernel_rfl)) (by unfold Func.isWrapper; first | (rw [if_pos (by decide +kernel)]; kernel_rfl) | (rw [if_neg (by decide +kernel)]; exact ⟨rfl, rfl⟩))
    (fun os started H enc _ => lifted os started H enc)
theorem proved : Rows.FurrowBendsSaid := over
#print axioms proved
end Go.Proofs.Ytafmgmaelnpehaa.furrowBends
namespace Go.Proofs.Ytafmgmaelnpehaa
/-- The row, under a short name, for the claim. -/
theorem furrowBends_holds : Rows.FurrowBendsSaid := furrowBends.proved
end Go.Proofs.Ytafmgmaelnpehaa
end
