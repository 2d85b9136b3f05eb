/- Proved: FurrowTurned returns true for all furrows and numbers, in whatever order Go evaluates what it leaves open; no condition. -/
import Derived.Test.YtafmgmaelnpehaaY1
import Derived.Lib.Hide
import Derived.Test.YtafmgmaelnpehaaP3
import Derived.Deep.SlicePairs
import Derived.Lib.SmallJoins
import Derived.Carry
import Derived.ChangeArms
import Derived.ChangeOld
import Derived.WideShapes
import Derived.Test.YtafmgmaelnpehaaRows
import Derived.WalkKit
import Derived.ProofKit
import Derived.OpenShut
import Derived.ShutString
import Derived.Below
import Derived.SizedLaws
section
set_option linter.unusedVariables false
set_option linter.unusedSimpArgs false
namespace Go.Proofs.Ytafmgmaelnpehaa
open Go.RowKit Go.TL Go.Shelf Go.Fu
open PFurrowAsks Go.Proofs.YtafmgmaelnpehaaW.PrintWords
theorem bend_is (l : List Int) (n : Nat) (hl : l.length ≤ 100) (h1 : 1 ≤ n) (h2 : n + 1 < l.length) (hb : ∀ x ∈ l, -1000 ≤ x ∧ x ≤ 1000) : furrowworksref04_bend.f l n = some (bendI (l.getD (n - 1) 0) (l.getD n 0) (l.getD (n + 1) 0)) := by
  have g : ∀ i, i < l.length → -1000 ≤ l.getD i 0 ∧ l.getD i 0 ≤ 1000 := fun i hi => by
    rw [List.getD_eq_getElem?_getD, List.getElem?_eq_getElem hi]
    exact hb _ (List.getElem_mem hi)
  have a1 := g (n - 1) (by omega)
  have a2 := g n (by omega)
  have a3 := g (n + 1) (by omega)
  have n1 : wrap64 ((n : Int) - 1) = ((n - 1 : Nat) : Int) := by unfold wrap64; omega
  have n2 : wrap64 ((n : Int) + 1) = ((n + 1 : Nat) : Int) := by unfold wrap64; omega
  have r : ∀ i : Nat, rd l (i : Int) = l.getD i 0 := fun i => by unfold rd; rw [Int.toNat_natCast]
  unfold furrowworksref04_bend.f
  rw [n1, n2, r, r, r]
  generalize l.getD (n - 1) 0 = a at *
  generalize l.getD n 0 = b at *
  generalize l.getD (n + 1) 0 = c at *
  rw [if_pos (by omega), if_pos (by omega), if_pos (by omega), if_pos (by omega), if_pos (by omega), if_pos (by omega)]
  congr 1
  unfold mx bendI wrap64
  split <;> split <;> omega
def fnOf (l : List Int) (i : Nat) : Int := l.getD i 0
theorem bend_fn (l : List Int) (n : Nat) (hl : l.length ≤ 100) (h1 : 1 ≤ n) (h2 : n + 1 < l.length) (hb : ∀ x ∈ l, -1000 ≤ x ∧ x ≤ 1000) : furrowworksref04_bend.f l n = some (bnd (fnOf l) n) := bend_is l n hl h1 h2 hb
theorem most_l (l : List Int) (hl : l.length ≤ 100) (hb : ∀ x ∈ l, -1000 ≤ x ∧ x ≤ 1000) : ∀ (d i : Nat), i + d = l.length - 2 → Ev (fun k => furrowworksref04_Most.l0 k l (mostF (fnOf l) i) ((i + 1 : Nat) : Int)) (mostF (fnOf l) (l.length - 2))
  | 0, i, hd => by
    refine ⟨1, fun k hk => ?_⟩
    obtain ⟨m, rfl⟩ : ∃ m, k = m + 1 := ⟨k - 1, by omega⟩
    simp only [furrowworksref04_Most.l0]
    have hw : wrap64 (((i + 1 : Nat) : Int) + 1) = ((i + 2 : Nat) : Int) := by unfold wrap64; omega
    rw [hw, if_neg (by omega), show i = l.length - 2 by omega]
  | d + 1, i, hd => by
    have ih := most_l l hl hb d (i + 1) (by omega)
    refine Ev.step (fun k => ?_) ih
    simp only [furrowworksref04_Most.l0]
    have hw : wrap64 (((i + 1 : Nat) : Int) + 1) = ((i + 2 : Nat) : Int) := by unfold wrap64; omega
    rw [hw, if_pos (by omega), bend_fn l (i + 1) hl (by omega) (by omega) hb]
    have e : mx (mostF (fnOf l) i) (bnd (fnOf l) (i + 1)) = mostF (fnOf l) (i + 1) := by
      show mx _ _ = (if mostF (fnOf l) i < bnd (fnOf l) (i + 1) then bnd (fnOf l) (i + 1) else mostF (fnOf l) i)
      unfold mx
      split <;> (try split) <;> omega
    rw [Option.bind_some, e]
theorem most_is (l : List Int) (hl : l.length ≤ 100) (hb : ∀ x ∈ l, -1000 ≤ x ∧ x ≤ 1000) : ∃ k, furrowworksref04_Most.f k l = some (mostF (fnOf l) (l.length - 2)) := (most_l l hl hb (l.length - 2) 0 (by omega)).rounds
theorem truth_bd {l : List (Int × Int)} (hok : ∀ x ∈ l, okSpan x) {xs : List Int} (hx : xs.length = l.length) (ht : Truth l (fnOf xs)) : ∀ x ∈ xs, -1000 ≤ x ∧ x ≤ 1000 := by
  intro x hxm
  obtain ⟨i, hi, rfl⟩ := List.getElem_of_mem hxm
  have h1 := ht i (by omega)
  obtain ⟨h2, h3, h4⟩ := hok _ (getD_mem l i (by omega))
  unfold fnOf at h1
  rw [show xs.getD i 0 = xs[i] by simp [List.getD_eq_getElem?_getD, hi]] at h1
  obtain ⟨h5, h6⟩ := h1
  omega
theorem most_c {A : Option Addr} {c : Nat} {l : List Int} {w : World} (hr : RowI w A l) (hc : l.length ≤ c) (hl : l.length ≤ 100) (hb : ∀ x ∈ l, -1000 ≤ x ∧ x ≤ 1000) :
    Calls Try.prog 33 #[.slice A l.length c] w fun e w' => e = .returned (.int .i64 (mostF (fnOf l) (l.length - 2))) ∧ Below w.heap.size w w' := by
  obtain ⟨k, hk⟩ := most_is l hl hb
  exact furrowworksref04_Most.calls k A c l _ w hr hc hk
theorem strF_succ (m : Nat) (l : List (Int × Int)) (k : Nat) : strF m l (k + 1) = strStep m (strF m l k) k := by
  unfold strF
  rw [List.range_succ, List.foldl_append]
  rfl
structure StrInv (l : List (Int × Int)) (m k : Nat) (s : List (Int × Int) × List Int) : Prop where
  a : s.2.length = k
  b : s.1.length = l.length
  c : ∀ i, i < l.length → s.1.getD i (0, 0) = if i < k then (s.2.getD i 0, s.2.getD i 0) else l.getD i (0, 0)
  d : ∀ i, i < k → InS l i (s.2.getD i 0)
  e : canB s.1 (upP m) = true
theorem find_first (lo hi : Int) (p : Int → Bool) (o : Int) (h : (spanL (lo, hi)).find? p = some o) : p o = true ∧ lo ≤ o ∧ o ≤ hi ∧ ∀ a, lo ≤ a → a < o → p a = false := by
  have h1 := List.find?_some h
  have h2 := (mem_spanL (lo, hi) o).1 (List.mem_of_find?_eq_some h)
  refine ⟨h1, h2.1, h2.2, fun a ha hlt => ?_⟩
  obtain ⟨_, i, hil, he, hall⟩ := List.find?_eq_some_iff_getElem.1 h
  have hg : ∀ j (hj : j < (spanL (lo, hi)).length), (spanL (lo, hi))[j] = lo + j := by
    intro j hj
    unfold spanL at hj ⊢
    exact ints_get _ _ _ _
  rw [hg] at he
  have := hall (a - lo).toNat (by omega)
  rw [hg] at this
  rw [show lo + (((a - lo).toNat : Nat) : Int) = a by omega] at this
  simpa using this
theorem str_step {l : List (Int × Int)} (hok : ∀ x ∈ l, okSpan x) {m k : Nat} (hk : k < l.length) {s : List (Int × Int) × List Int} (h : StrInv l m k s) : StrInv l m (k + 1) (strStep m s k) := by
  have hl : ∀ i, i < l.length → okSpan (l.getD i (0, 0)) := fun i hi => hok _ (getD_mem l i hi)
  have okset : ∀ o, InS l k o → ∀ x ∈ s.1.set k (o, o), okSpan x := by
    intro o ho x hx
    obtain ⟨i, hi, rfl⟩ := List.getElem_of_mem hx
    have hi' : i < l.length := by rw [List.length_set, h.b] at hi; exact hi
    have e : (s.1.set k (o, o))[i]'hi = (s.1.set k (o, o)).getD i (0, 0) := by rw [List.getD_eq_getElem?_getD, List.getElem?_eq_getElem hi]; rfl
    rw [e, getD_set _ _ _ _ _ (by rw [h.b]; exact hk), h.c i hi']
    obtain ⟨a1, a2, a3⟩ := hl i hi'
    by_cases e1 : i = k
    · subst e1
      rw [if_pos rfl]
      obtain ⟨b1, b2⟩ := ho
      exact ⟨by show _ ≤ o; omega, Int.le_refl _, by show o ≤ _; omega⟩
    · rw [if_neg e1]
      by_cases e2 : i < k
      · rw [if_pos e2]
        obtain ⟨b1, b2⟩ := h.d i e2
        exact ⟨by show _ ≤ s.2.getD i 0; omega, Int.le_refl _, by show s.2.getD i 0 ≤ _; omega⟩
      · rw [if_neg e2]; exact hl i hi'
  have oks : ∀ x ∈ s.1, okSpan x := by
    intro x hx
    obtain ⟨i, hi, rfl⟩ := List.getElem_of_mem hx
    have hi' : i < l.length := by rw [h.b] at hi; exact hi
    have e : s.1[i]'hi = s.1.getD i (0, 0) := by rw [List.getD_eq_getElem?_getD, List.getElem?_eq_getElem hi]; rfl
    rw [e, h.c i hi']
    obtain ⟨a1, a2, a3⟩ := hl i hi'
    by_cases e2 : i < k
    · rw [if_pos e2]
      obtain ⟨b1, b2⟩ := h.d i e2
      exact ⟨by show _ ≤ s.2.getD i 0; omega, Int.le_refl _, by show s.2.getD i 0 ≤ _; omega⟩
    · rw [if_neg e2]; exact hl i hi'
  have hset : ∀ o i, i < l.length → (s.1.set k (o, o)).getD i (0, 0) = if i = k then (o, o) else if i < k then (s.2.getD i 0, s.2.getD i 0) else l.getD i (0, 0) := fun o i hi => by
    rw [getD_set _ _ _ _ _ (by rw [h.b]; exact hk), h.c i hi]
  -- a truth that goes so far with it shows that its next offset will do
  have works : ∀ x, Truth l x → mostL l x ≤ m → (∀ j, j < k → x j = s.2.getD j 0) → canB (s.1.set k (x k, x k)) (upP m) = true := by
    intro x hx hm hj
    refine (canB_most (okset (x k) (hx k hk)) (m := (m : Int)) (by omega)).2 ⟨x, fun i hi => ?_, ?_⟩
    · have hi' : i < l.length := by rw [List.length_set, h.b] at hi; exact hi
      unfold InS
      rw [hset _ i hi']
      by_cases e1 : i = k
      · subst e1; rw [if_pos rfl]; exact ⟨Int.le_refl _, Int.le_refl _⟩
      · rw [if_neg e1]
        by_cases e2 : i < k
        · rw [if_pos e2, hj i e2]; exact ⟨Int.le_refl _, Int.le_refl _⟩
        · rw [if_neg e2]; exact hx i hi'
    · unfold mostL at *
      rw [List.length_set, h.b]
      exact hm
  obtain ⟨y, hy, hym⟩ := (canB_most oks (m := (m : Int)) (by omega)).1 h.e
  have hyt : Truth l y := by
    intro i hi
    have h1 := hy i (by rw [h.b]; exact hi)
    unfold InS at h1
    rw [h.c i hi] at h1
    by_cases e2 : i < k
    · rw [if_pos e2] at h1
      rw [show y i = s.2.getD i 0 from Int.le_antisymm h1.2 h1.1]
      exact h.d i e2
    · rw [if_neg e2] at h1; exact h1
  have hyj : ∀ j, j < k → y j = s.2.getD j 0 := by
    intro j hj
    have h1 := hy j (by rw [h.b]; omega)
    unfold InS at h1
    rw [h.c j (by omega), if_pos hj] at h1
    exact Int.le_antisymm h1.2 h1.1
  have hyl : mostL l y ≤ m := by unfold mostL at *; rw [h.b] at hym; exact hym
  have hw := works y hyt hyl hyj
  have hck : s.1.getD k (0, 0) = l.getD k (0, 0) := by rw [h.c k hk, if_neg (Nat.lt_irrefl _)]
  unfold strStep
  rw [hck]
  obtain ⟨lo, hi, hlh⟩ : ∃ lo hi, l.getD k (0, 0) = (lo, hi) := ⟨_, _, rfl⟩
  rw [hlh]
  cases hf : (spanL (lo, hi)).find? (fun o => canB (s.1.set k (o, o)) (upP m)) with
  | none =>
    have := List.find?_eq_none.1 hf (y k) ((mem_spanL (lo, hi) (y k)).2 (by have := hyt k hk; unfold InS at this; rw [hlh] at this; exact this))
    exact absurd hw this
  | some o =>
    obtain ⟨h1, h2, h3, h4⟩ := find_first lo hi _ o hf
    have hoI : InS l k o := by unfold InS; rw [hlh]; exact ⟨h2, h3⟩
    have happ : ∀ i, i < k → (s.2 ++ [o]).getD i 0 = s.2.getD i 0 := fun i hi => by simp [List.getD_eq_getElem?_getD, h.a, hi, List.getElem?_append]
    have happk : (s.2 ++ [o]).getD k 0 = o := by simp [List.getD_eq_getElem?_getD, h.a, List.getElem?_append]
    refine ⟨by simp [h.a], by simp [h.b], fun i hi => ?_, fun i hi => ?_, h1⟩
    · show (s.1.set k (o, o)).getD i (0, 0) = _
      rw [hset o i hi]
      by_cases e1 : i = k
      · subst e1; rw [if_pos rfl, if_pos (by omega)]; show _ = ((s.2 ++ [o]).getD i 0, (s.2 ++ [o]).getD i 0); rw [happk]
      · rw [if_neg e1]
        by_cases e2 : i < k
        · rw [if_pos e2, if_pos (by omega)]; show _ = ((s.2 ++ [o]).getD i 0, (s.2 ++ [o]).getD i 0); rw [happ i e2]
        · rw [if_neg e2, if_neg (by omega)]
    · show InS l i ((s.2 ++ [o]).getD i 0)
      by_cases e1 : i = k
      · subst e1; rw [happk]; exact hoI
      · rw [happ i (by omega)]; exact h.d i (by omega)
theorem str_inv {l : List (Int × Int)} (hok : ∀ x ∈ l, okSpan x) : ∀ k, k ≤ l.length → StrInv l (leastN l) k (strF (leastN l) l k)
  | 0, _ => ⟨rfl, rfl, fun i hi => by rw [if_neg (by omega)]; rfl, fun i hi => by omega, (leastN_is l hok).1⟩
  | k + 1, hk => by
    rw [strF_succ]
    exact str_step hok (by omega) (str_inv hok k (by omega))
structure StrSpec (l : List (Int × Int)) (o : List Int) : Prop where
  len : o.length = l.length
  tr : Truth l (fnOf o)
  most : mostL l (fnOf o) = leastN l
theorem str_spec {l : List (Int × Int)} (hok : ∀ x ∈ l, okSpan x) : StrSpec l (strF (leastN l) l l.length).2 := by
  have h := str_inv hok l.length (Nat.le_refl _)
  generalize strF (leastN l) l l.length = s at *
  have ht : Truth l (fnOf s.2) := fun i hi => h.d i hi
  refine ⟨h.a, ht, ?_⟩
  have oks : ∀ x ∈ s.1, okSpan x := by
    intro x hx
    obtain ⟨i, hi, rfl⟩ := List.getElem_of_mem hx
    have hi' : i < l.length := by rw [h.b] at hi; exact hi
    have e : s.1[i]'hi = s.1.getD i (0, 0) := by rw [List.getD_eq_getElem?_getD, List.getElem?_eq_getElem hi]; rfl
    rw [e, h.c i hi', if_pos hi']
    obtain ⟨a1, a2, a3⟩ := hok _ (getD_mem l i hi')
    obtain ⟨b1, b2⟩ := h.d i hi'
    exact ⟨by show _ ≤ s.2.getD i 0; omega, Int.le_refl _, by show s.2.getD i 0 ≤ _; omega⟩
  obtain ⟨y, hy, hym⟩ := (canB_most oks (m := ((leastN l : Nat) : Int)) (by omega)).1 h.e
  have hyj : ∀ j, j < l.length → y j = fnOf s.2 j := by
    intro j hj
    have h1 := hy j (by rw [h.b]; exact hj)
    unfold InS at h1
    rw [h.c j hj, if_pos hj] at h1
    exact Int.le_antisymm h1.2 h1.1
  have hle : mostL l (fnOf s.2) ≤ leastN l := by
    refine (mostL_le (by omega)).2 fun n h1 h2 => ?_
    rw [bnd_congr (y := y) (hyj _ (by omega)).symm (hyj _ (by omega)).symm (hyj _ (by omega)).symm]
    exact (mostL_le (l := s.1) (by omega)).1 hym n h1 (by rw [h.b]; exact h2)
  have := (least_spec l hok).2 _ ht
  omega
theorem str_most {F : Fur} (hv : F.va = true) (w : World) (h : F.At w) :
    Calls Try.prog 19 #[F.val] w fun e w' => (∃ A c, (e = .returned (.tuple #[.slice A F.l0.length c, .int .i64 0])) ∧ ∀ W2, Below w'.heap.size w' W2 → Calls Try.prog 33 #[.slice A F.l0.length c] W2 fun e w' => e = .returned (.int .i64 ((leastN F.pl : Nat) : Int)) ∧ Below W2.heap.size W2 w') ∧ Below w.heap.size w w' :=
  (Straightest_c F w h).mono fun e w' ⟨⟨A, c, he, hc, hr⟩, hb⟩ => by
    have hs := str_spec (Fur.okS hv)
    have e1 : strV F.va F.pl = ((strF (leastN F.pl) F.pl F.pl.length).2, 0) := by unfold strV; rw [hv, if_pos rfl]
    rw [e1] at he hc hr
    have h8 := Fur.le8 hv
    clear e1
    generalize (strF (leastN F.pl) F.pl F.pl.length).2 = so at hs he hc hr
    have hl : so.length = F.l0.length := by rw [hs.len, F.pl_len]
    simp only [hl] at he hc
    refine ⟨⟨A, c, he, fun W2 h2 => ?_⟩, hb⟩
    have := most_c (w := W2) (c := c) (hr.below h2) (by rw [hl]; exact hc) (by rw [hl]; omega) (truth_bd (Fur.okS hv) hs.len hs.tr)
    rw [hl] at this
    have e2 := hs.most
    unfold mostL at e2
    rw [F.pl_len] at e2
    rw [e2] at this
    exact this
theorem bend_good {F : Fur} (hv : F.va = true) (w : World) (h : F.At w) :
    Calls Try.prog 15 #[F.val] w fun e w' => e = .returned (.tuple #[.agg #[.int .i64 (bendV F.va F.pl).1.1, .int .i64 (bendV F.va F.pl).1.2], .int .i64 0]) ∧ Below w.heap.size w w' := by
  have h3 := Bend_c F w h
  rwa [show (bendV F.va F.pl).2 = 0 by unfold bendV; rw [hv, if_pos rfl]] at h3
theorem worst_good {F : Fur} (hv : F.va = true) (w : World) (h : F.At w) :
    Calls Try.prog 21 #[F.val] w fun e w' => e = .returned (.tuple #[.int .i64 ((setN (worstS F.pl) (F.l0.length - 1) : Nat) : Int), .int .i64 ((setN (worstC F.pl) (F.l0.length - 1) : Nat) : Int), .int .i64 0]) ∧ Below w.heap.size w w' := by
  have h3 := Worst_c F w h
  have h8 := Fur.le8 hv
  have pl := F.pl_len
  have e : worstV F.va F.pl = (((setN (worstS F.pl) (F.l0.length - 1) : Nat) : Int), ((setN (worstC F.pl) (F.l0.length - 1) : Nat) : Int), 0) := by
    unfold worstV
    rw [hv, if_pos rfl, shM_set _ _ (by omega), shM_set _ _ (by omega), pl]
  rwa [e] at h3
theorem soil_good {F : Fur} (hv : F.va = true) (w : World) (h : F.At w) :
    Calls Try.prog 28 #[F.val] w fun e w' => e = .returned (.tuple #[.agg #[.int .i64 (soilV F.va F).1.1, .int .i64 (soilV F.va F).1.2], .int .i64 0]) ∧ Below w.heap.size w w' := by
  have h3 := Soil_c F w h
  rwa [show (soilV F.va F).2 = 0 by unfold soilV; rw [hv, if_pos rfl]] at h3
end Go.Proofs.Ytafmgmaelnpehaa
end

section
set_option linter.unusedVariables false
set_option linter.unusedSimpArgs false
namespace Go.Proofs.Ytafmgmaelnpehaa
open Go.RowKit Go.TL Go.Shelf Go.Fu
attribute [local go_sem] Oper.semAt_some
open PFurrowAsks Go.Proofs.YtafmgmaelnpehaaW.PrintWords
/-- What Most answers of a list, so long as it is not changed. -/
def MostIs (A : Option Addr) (n c m : Nat) (W : World) : Prop := ∀ W2, Below W.heap.size W W2 → Calls Try.prog 33 #[.slice A n c] W2 fun e w' => e = .returned (.int .i64 (m : Int)) ∧ Below W2.heap.size W2 w'
theorem MostIs.below {A : Option Addr} {n c m : Nat} {W W' : World} (h : MostIs A n c m W) (hb : Below W.heap.size W W') : MostIs A n c m W' := fun W2 h2 => h W2 (hb.trans (h2.mono hb.size))
theorem tu_row {F : Fur} {w W : World} {b4 b9 b10 b11 b12 B : Nat} {x0 y0 z0 z1 z2 : Value} {v : Nat → Value} {l : Nat → List S28} (hT : TuS F w b4 b9 b10 b11 b12 B x0 y0 z0 z1 z2 v l W) (q : Nat) (hq : q < 5) : ∃ A c, v q = .slice A (l q).length c ∧ (l q).length ≤ c ∧ Row W A (l q) := by
  obtain ⟨A, c, e, hc, hR⟩ := Kd.R_reads (own_R28m (hT.own.own q hq))
  exact ⟨A, c, e, hc, hR⟩
theorem tu_furs {F : Fur} {w W : World} {b4 b9 b10 b11 b12 B : Nat} {x0 y0 z0 z1 z2 : Value} {v : Nat → Value} {by_ st_ : Int} (hva : F.va = true) (hF : F.At W) (hT : TuS F w b4 b9 b10 b11 b12 B x0 y0 z0 z1 z2 v (lxs F by_ st_ F.l0.length) W) (most : Int) :
    ∃ QF : Nat → Fur, (∀ i, i < 3 → (QF i).At W) ∧ (∀ i, i < 3 → (QF i).va = true → Told F (QF i) i most) ∧ (v 0 = (QF 0).s0 ∧ F.s1 = (QF 0).s1 ∧ F.s2 = (QF 0).s2) ∧ (v 1 = (QF 1).s0 ∧ F.s1 = (QF 1).s1 ∧ F.s2 = (QF 1).s2) ∧ (v 2 = (QF 2).s0 ∧ v 3 = (QF 2).s1 ∧ v 4 = (QF 2).s2) := by
  obtain ⟨A0, c0, e0, h0, r0⟩ := tu_row hT 0 (by omega)
  obtain ⟨A1, c1, e1, h1, r1⟩ := tu_row hT 1 (by omega)
  obtain ⟨A2, c2, e2, h2, r2⟩ := tu_row hT 2 (by omega)
  obtain ⟨A3, c3, e3, h3, r3⟩ := tu_row hT 3 (by omega)
  obtain ⟨A4, c4, e4, h4, r4⟩ := tu_row hT 4 (by omega)
  obtain ⟨X, hX⟩ : ∃ X : Fur, X = ⟨A0, c0, lxs F by_ st_ F.l0.length 0, F.A1, F.c1, F.l1, F.A2, F.c2, F.l2⟩ := ⟨_, rfl⟩
  obtain ⟨Y, hY⟩ : ∃ X : Fur, X = ⟨A1, c1, lxs F by_ st_ F.l0.length 1, F.A1, F.c1, F.l1, F.A2, F.c2, F.l2⟩ := ⟨_, rfl⟩
  obtain ⟨Z, hZ⟩ : ∃ X : Fur, X = ⟨A2, c2, lxs F by_ st_ F.l0.length 2, A3, c3, lxs F by_ st_ F.l0.length 3, A4, c4, lxs F by_ st_ F.l0.length 4⟩ := ⟨_, rfl⟩
  have aX : X.At W := by rw [hX]; exact ⟨r0, h0, hF.r1, hF.h1, hF.r2, hF.h2⟩
  have aY : Y.At W := by rw [hY]; exact ⟨r1, h1, hF.r1, hF.h1, hF.r2, hF.h2⟩
  have aZ : Z.At W := by rw [hZ]; exact ⟨r2, h2, r3, h3, r4, h4⟩
  have tX : X.va = true → Told F X 0 most := fun hq => told_x (by_ := by_) (st_ := st_) hva hq (by rw [hX]) (by rw [hX]) (by rw [hX])
  have tY : Y.va = true → Told F Y 1 most := fun hq => told_y (by_ := by_) (st_ := st_) hva hq (by rw [hY]) (by rw [hY]) (by rw [hY])
  have tZ : Z.va = true → Told F Z 2 most := fun hq => told_z (by_ := by_) (st_ := st_) hva hq (by rw [hZ]) (by rw [hZ]) (by rw [hZ])
  have sX : v 0 = X.s0 ∧ F.s1 = X.s1 ∧ F.s2 = X.s2 := by rw [hX]; exact ⟨e0, rfl, rfl⟩
  have sY : v 1 = Y.s0 ∧ F.s1 = Y.s1 ∧ F.s2 = Y.s2 := by rw [hY]; exact ⟨e1, rfl, rfl⟩
  have sZ : v 2 = Z.s0 ∧ v 3 = Z.s1 ∧ v 4 = Z.s2 := by rw [hZ]; exact ⟨e2, e3, e4⟩
  clear hX hY hZ
  refine ⟨fun i => if i = 0 then X else if i = 1 then Y else Z, fun i hi => ?_, fun i hi => ?_, sX, sY, sZ⟩
  · match i, hi with
    | 0, _ => exact aX
    | 1, _ => exact aY
    | 2, _ => exact aZ
  · match i, hi with
    | 0, _ => exact tX
    | 1, _ => exact tY
    | 2, _ => exact tZ
set_option maxRecDepth 100000 in
set_option maxHeartbeats 4000000 in
theorem nx_tail {F : Fur} {w V : World} {b9 b10 b11 b12 B c16 : Nat} {ak : Addr} {most by_ st_ : Int} {v : Nat → Value} (h : F.At w) (hva : F.va = true) (hT : TuS F w w.heap.size b9 b10 b11 b12 B (v 0) (v 1) (v 2) (v 3) (v 4) v (lxs F by_ st_ F.l0.length) V) (hR : Row V (some ak) F.l0) (t : Array Value) (hSl : Slots (none :: some (.int .i64 most) :: none :: none :: some (.pointer (some ⟨w.heap.size, 0, none⟩)) :: o4 (some (.pointer (some ⟨b9, 0, none⟩)) :: some (.pointer (some ⟨b10, 0, none⟩)) :: some (.pointer (some ⟨b11, 0, none⟩)) :: some (.pointer (some ⟨b12, 0, none⟩)) :: none :: none :: none :: some (.slice (some ak) F.l0.length c16) :: some (.func (.func 40) #[] #[.pointer (some ⟨b9, 0, none⟩)]) :: o4 (o4 (o4 (o16 (o16 (o64 (o64 (o64 (o64 (o64 []))))))))))) t) :
    Exec Try.prog none (sub (Try.f11.body.getD .skip) [1, 1, 1, 1, 1, 1, 1, 1]) t V (fun e t W => (e = .normal ∨ e = .ret) ∧ ∀ W', Grow w.heap.size W W' → ∃ v, (results Try.f11 t).run Try.prog W' = .ok v W' ∧ v = .bool true ∧ Below w.heap.size w W') := by
  have HV := Lib.hid hva
  clear hva
  have h8 := Fur.le8 HV.out
  obtain ⟨x, hx⟩ := Slots.open_ hSl; simp only [fill, Nat.reduceAdd] at hx; subst hx; clear hSl
  have c0 := hT.f.cell0
  have c1 := hT.f.cell1
  have c2 := hT.f.cell2
  have hF := h.below hT.below
  refine exec_seq (exec_region_o fun ds => ?_)
  gi_wp2_with fail
  refine ⟨trivial, rfl, (callsIn_wide.2 (bend_good HV.out V hF)).mono ?_⟩
  rintro e V1 ⟨rfl, hy⟩
  have hK := Keep.of_below hy
  replace hT := hT.belowed hy
  replace hR : Row V1 (some ak) F.l0 := Kd.C_below hR hy
  clear hy c0 c1 c2 hF
  gi_wp2
  refine eq_mk (hK.alloc _) ?_
  show Exec _ _ _ _ _ _
  have ha := (Below.refl V1.heap.size V1).alloc (Nat.le_refl _) (.cells #[.int .i64 (bendV F.va F.pl).1.1, .int .i64 (bendV F.va F.pl).1.2] 28)
  replace hT := hT.belowed ha
  replace hR : Row (V1.alloc (.cells #[.int .i64 (bendV F.va F.pl).1.1, .int .i64 (bendV F.va F.pl).1.2] 28)) (some ak) F.l0 := Kd.C_below hR ha
  have q18 := Box2.new V1 28 (bendV F.va F.pl).1.1 (bendV F.va F.pl).1.2
  generalize V1.alloc (.cells #[.int .i64 (bendV F.va F.pl).1.1, .int .i64 (bendV F.va F.pl).1.2] 28) = U1 at *
  clear ha hK
  generalize V1.heap.size = a18 at *
  clear V1 V
  have c0 := hT.f.cell0
  have c1 := hT.f.cell1
  have c2 := hT.f.cell2
  have hF := h.below hT.below
  refine exec_seq (exec_region_o fun ds => ?_)
  gi_wp2_with fail
  refine ⟨trivial, rfl, (callsIn_wide.2 (worst_good HV.out U1 hF)).mono ?_⟩
  rintro e V2 ⟨rfl, hy⟩
  have hK := Keep.of_below hy
  replace hT := hT.belowed hy
  replace hR : Row V2 (some ak) F.l0 := Kd.C_below hR hy
  replace q18 := box2_below hy q18
  clear hy c0 c1 c2 hF
  gi_wp2
  refine eq_mk hK ?_
  show Exec _ _ _ _ _ _
  clear hK
  clear U1
  have c0 := hT.f.cell0
  have c1 := hT.f.cell1
  have c2 := hT.f.cell2
  have hF := h.below hT.below
  refine exec_seq (exec_region_o fun ds => ?_)
  gi_wp2_with fail
  refine ⟨trivial, rfl, (callsIn_wide.2 (str_most HV.out V2 hF)).mono ?_⟩
  rintro e V3 ⟨⟨A23, c23, rfl, hM⟩, hy⟩
  have hK := Keep.of_below hy
  replace hT := hT.belowed hy
  replace hR : Row V3 (some ak) F.l0 := Kd.C_below hR hy
  replace q18 := box2_below hy q18
  replace hM : MostIs A23 F.l0.length c23 (leastN F.pl) V3 := hM
  clear hy c0 c1 c2 hF
  gi_wp2
  refine eq_mk hK ?_
  show Exec _ _ _ _ _ _
  clear hK
  clear V2
  have c0 := hT.f.cell0
  have c1 := hT.f.cell1
  have c2 := hT.f.cell2
  have hF := h.below hT.below
  refine exec_seq (exec_region_o fun ds => ?_)
  gi_wp2_with fail
  refine ⟨trivial, rfl, (callsIn_wide.2 (Wrong_c F most V3 hF)).mono ?_⟩
  rintro e V4 ⟨⟨rfl, hwr⟩, hy⟩
  have hK := Keep.of_below hy
  replace hT := hT.belowed hy
  replace hR : Row V4 (some ak) F.l0 := Kd.C_below hR hy
  replace q18 := box2_below hy q18
  replace hM := hM.below hy
  have HWR := Lib.hid hwr
  clear hwr
  clear hy c0 c1 c2 hF
  gi_wp2
  refine eq_mk hK ?_
  show Exec _ _ _ _ _ _
  clear hK
  clear V3
  have c0 := hT.f.cell0
  have c1 := hT.f.cell1
  have c2 := hT.f.cell2
  have hF := h.below hT.below
  refine exec_seq (exec_region_o fun ds => ?_)
  gi_wp2_with fail
  refine ⟨trivial, rfl, (callsIn_wide.2 (soil_good HV.out V4 hF)).mono ?_⟩
  rintro e V5 ⟨rfl, hy⟩
  have hK := Keep.of_below hy
  replace hT := hT.belowed hy
  replace hR : Row V5 (some ak) F.l0 := Kd.C_below hR hy
  replace q18 := box2_below hy q18
  replace hM := hM.below hy
  clear hy c0 c1 c2 hF
  gi_wp2
  refine eq_mk (hK.alloc _) ?_
  show Exec _ _ _ _ _ _
  have ha := (Below.refl V5.heap.size V5).alloc (Nat.le_refl _) (.cells #[.int .i64 (soilV F.va F).1.1, .int .i64 (soilV F.va F).1.2] 28)
  replace hT := hT.belowed ha
  replace hR : Row (V5.alloc (.cells #[.int .i64 (soilV F.va F).1.1, .int .i64 (soilV F.va F).1.2] 28)) (some ak) F.l0 := Kd.C_below hR ha
  replace q18 := box2_below ha q18
  have q27 := Box2.new V5 28 (soilV F.va F).1.1 (soilV F.va F).1.2
  replace hM := hM.below ha
  generalize V5.alloc (.cells #[.int .i64 (soilV F.va F).1.1, .int .i64 (soilV F.va F).1.2] 28) = U5 at *
  clear ha hK
  generalize V5.heap.size = a27 at *
  clear V5 V4
  have c9 := hT.n.cell
  have e20 : decide (((setN (worstS F.pl) (F.l0.length - 1) : Nat) : Int) < 0) = false := decide_eq_false (by omega)
  have e21 : decide (((setN (worstC F.pl) (F.l0.length - 1) : Nat) : Int) < 0) = false := decide_eq_false (by omega)
  refine exec_seq (exec_seq (exec_region_o fun ds => ?_))
  gi_wp2
  refine eq_mk (Keep.refl _) ?_
  show Exec _ _ _ _ _ _
  clear c9 e20 e21
  refine exec_cond (b := false) rfl (fun h => by cases h) (fun _ => exec_skip ?_)
  show Exec _ _ _ _ _ _
  have X0 := hT.x.cell0
  have X1 := hT.x.cell1
  have X2 := hT.x.cell2
  have Y0 := hT.y.cell0
  have Y1 := hT.y.cell1
  have Y2 := hT.y.cell2
  have Z0 := hT.z.cell0
  have Z1 := hT.z.cell1
  have Z2 := hT.z.cell2
  refine exec_seq (exec_seq (exec_region_o fun ds => ?_))
  gi_wp2
  refine eq_mk ((Keep.refl _).alloc (.cells #[v 0, F.s1, F.s2, v 1, F.s1, F.s2, v 2, v 3, v 4] 24)) ?_
  show Exec _ _ _ _ _ _
  clear X0 X1 X2 Y0 Y1 Y2 Z0 Z1 Z2
  obtain ⟨QF, hQ, hTo, ⟨x0, x1, x2⟩, ⟨y0, y1, y2⟩, ⟨z0, z1, z2⟩⟩ := tu_furs HV.out (h.below hT.below) hT most
  have ha := (Below.refl U5.heap.size U5).alloc (Nat.le_refl _) (.cells #[v 0, F.s1, F.s2, v 1, F.s1, F.s2, v 2, v 3, v 4] 24)
  have hnew := new_cells U5 [v 0, F.s1, F.s2, v 1, F.s1, F.s2, v 2, v 3, v 4] 24
  replace hT := hT.belowed ha
  replace hR : Row (U5.alloc (.cells #[v 0, F.s1, F.s2, v 1, F.s1, F.s2, v 2, v 3, v 4] 24)) (some ak) F.l0 := Kd.C_below hR ha
  replace q18 := box2_below ha q18
  replace q27 := box2_below ha q27
  replace hM := hM.below ha
  replace hQ := fun i hi => (hQ i hi).below ha
  clear ha
  have hg : ∀ i, i < 3 → (U5.alloc (.cells #[v 0, F.s1, F.s2, v 1, F.s1, F.s2, v 2, v 3, v 4] 24)).cell? ⟨U5.heap.size, i * 3, none⟩ = some (QF i).s0 ∧ (U5.alloc (.cells #[v 0, F.s1, F.s2, v 1, F.s1, F.s2, v 2, v 3, v 4] 24)).cell? ⟨U5.heap.size, i * 3 + 1, none⟩ = some (QF i).s1 ∧ (U5.alloc (.cells #[v 0, F.s1, F.s2, v 1, F.s1, F.s2, v 2, v 3, v 4] 24)).cell? ⟨U5.heap.size, i * 3 + 2, none⟩ = some (QF i).s2 := fun i hi => by
    match i, hi with
    | 0, _ => exact ⟨hnew 0 _ (congrArg some x0), hnew 1 _ (congrArg some x1), hnew 2 _ (congrArg some x2)⟩
    | 1, _ => exact ⟨hnew 3 _ (congrArg some y0), hnew 4 _ (congrArg some y1), hnew 5 _ (congrArg some y2)⟩
    | 2, _ => exact ⟨hnew 6 _ (congrArg some z0), hnew 7 _ (congrArg some z1), hnew 8 _ (congrArg some z2)⟩
  clear hnew x0 x1 x2 y0 y1 y2 z0 z1 z2
  generalize U5.alloc (.cells #[v 0, F.s1, F.s2, v 1, F.s1, F.s2, v 2, v 3, v 4] 24) = V6 at *
  generalize U5.heap.size = ga at *
  clear U5
  refine (nt_loop (w16 := .slice (some ak) F.l0.length c16) (most := most) (c23 := c23) (A23 := A23) HV.out (h.below hT.below) hQ hT.f hT.n hg q18 q27 rfl rfl (fun Q W hq hv => ?_) (fun W hW => hM W hW) ⟨rfl, rfl⟩ (HWR.out HV.out) hTo _ (by simp only [Slots, Fits, and_self])).mono ?_
  · refine (str_most hv W hq).mono ?_
    rintro e w' ⟨⟨A, c, e1, hm⟩, hb⟩
    exact ⟨⟨A, c, _, e1, hm⟩, hb⟩
  intro e t' W hh
  obtain ⟨rfl, hb, hSl⟩ := only_normal hh
  clear hh q18 q27 hM hQ hg x
  replace hT := hT.belowed hb
  replace hR : Row W (some ak) F.l0 := Kd.C_below hR hb
  clear hb
  clear V6
  obtain ⟨x, hx⟩ := Slots.open_ hSl; simp only [fill, Nat.reduceAdd] at hx; subst hx; clear hSl
  show Exec _ _ _ _ _ _
  refine exec_seq (exec_seq (exec_region_o fun ds => ?_))
  gi_wp2
  refine eq_mk (Keep.refl _) ?_
  show Exec _ _ _ _ _ _
  refine (np_loop (c16 := c16) (h.below hT.below) hT.f hR h8 _ (by simp only [Slots, Fits, and_self])).mono ?_
  intro e t' V hh
  obtain ⟨rfl, hb, hSl⟩ := only_normal hh
  have hB := hT.below.trans (hb.mono hT.below.size)
  clear hh hb hT hR x
  clear W
  obtain ⟨x, hx⟩ := Slots.open_ hSl; simp only [fill, Nat.reduceAdd] at hx; subst hx; clear hSl
  show Exec _ _ _ _ _ _
  refine exec_seq (exec_region_o fun ds => ?_)
  gi_wp2_with fail
  refine ⟨trivial, rfl, (callsIn_wide.2 (alive_any _)).mono ?_⟩
  rintro e Q ⟨rfl, hq⟩
  gi_wp2
  refine eq_mk (Keep.of_below hq) ?_
  show Exec _ _ _ _ _ _
  exact exec_ret ⟨.inr rfl, fun W' hG => ⟨.bool true, by simp [results, Try.f11, go_sem], rfl, (hB.trans (hq.mono hB.size)).trans (hG.below (Nat.le_refl _) (hB.trans (hq.mono hB.size)).size)⟩⟩
end Go.Proofs.Ytafmgmaelnpehaa
end

section
set_option linter.unusedVariables false
set_option linter.unusedSimpArgs false
namespace Go.Proofs.Ytafmgmaelnpehaa
open Go.RowKit Go.TL Go.Shelf Go.Fu
attribute [local go_sem] Oper.semAt_some
open PFurrowAsks Go.Proofs.YtafmgmaelnpehaaW.PrintWords
def u4_0t : It := ⟨(Op.load 24 (Operand.tmp 4)), some 60, 24, true, none⟩
def u4_1t : It := ⟨(Op.load 24 (Operand.tmp 4)), some 61, 24, true, none⟩
def u4_2t : It := ⟨(Op.build 24 #[]), some 62, 24, true, none⟩
def u4_3 : It := ⟨(Op.alloc 24), some 10, 0, false, none⟩
def u4_4 : It := ⟨(Op.alloc 24), some 11, 0, false, none⟩
def u4_5 : It := ⟨(Op.alloc 24), some 12, 0, false, none⟩
def u4_6 : It := ⟨(Op.store 24 (Operand.tmp 10) (Operand.tmp 60)), none, 0, false, none⟩
def u4_7 : It := ⟨(Op.store 24 (Operand.tmp 11) (Operand.tmp 61)), none, 0, false, none⟩
def u4_8 : It := ⟨(Op.store 24 (Operand.tmp 12) (Operand.tmp 62)), none, 0, false, none⟩
set_option maxRecDepth 100000 in
set_option maxHeartbeats 2000000 in
theorem tu_4t {F : Fur} {V X : World} {b4 b9 b10 b11 b12 : Nat} {most by_ st_ : Int} {ds : List Deferred} {Q' : Exit → Act → World → Prop} (hb10 : Box3 X b10 24 (.slice none 0 0) (.slice none 0 0) (.slice none 0 0)) (hb11 : Box3 X b11 24 (.slice none 0 0) (.slice none 0 0) (.slice none 0 0)) (hb12 : Box3 X b12 24 (.slice none 0 0) (.slice none 0 0) (.slice none 0 0))
    (lo10 : V.heap.size ≤ b10) (lo11 : V.heap.size ≤ b11) (lo12 : V.heap.size ≤ b12) (n1 : b10 ≠ b11) (n2 : b10 ≠ b12) (n3 : b11 ≠ b12) (hBV : Below V.heap.size V X) (hS : Box3 X b4 24 F.s0 F.s1 F.s2) (h4 : b4 < V.heap.size) (hKW : Keep V X)
    (hQn : ∀ t W, Keep V W → andThen (fun t' W' => ∃ b10 b11 b12 : Nat, V.heap.size ≤ b10 ∧ V.heap.size ≤ b11 ∧ V.heap.size ≤ b12 ∧ b10 ≠ b11 ∧ b10 ≠ b12 ∧ b11 ≠ b12 ∧ Below V.heap.size V W' ∧ Box3 W' b10 24 F.s0 F.s1 F.s2 ∧ Box3 W' b11 24 F.s0 F.s1 F.s2 ∧ Box3 W' b12 24 (.slice none 0 0) (.slice none 0 0) (.slice none 0 0) ∧ Slots (none :: some (.int .i64 most) :: some (.int .i8 by_) :: some (.int .i8 st_) :: some (.pointer (some ⟨b4, 0, none⟩)) :: o4 (some (.pointer (some ⟨b9, 0, none⟩)) :: some (.pointer (some ⟨b10, 0, none⟩)) :: some (.pointer (some ⟨b11, 0, none⟩)) :: some (.pointer (some ⟨b12, 0, none⟩)) :: none :: o16 (o16 (o16 (o64 (o64 (o64 (o64 (o64 []))))))))) t') (fun _ _ _ => False) .normal t W → Q' .normal { tmps := t, defers := ds } W) (t : Array Value)
    (hSl : Slots (none :: some (.int .i64 most) :: some (.int .i8 by_) :: some (.int .i8 st_) :: some (.pointer (some ⟨b4, 0, none⟩)) :: o4 (some (.pointer (some ⟨b9, 0, none⟩)) :: some (.pointer (some ⟨b10, 0, none⟩)) :: some (.pointer (some ⟨b11, 0, none⟩)) :: some (.pointer (some ⟨b12, 0, none⟩)) :: none :: none :: none :: o4 (o4 (o4 (o16 (o16 (some (.agg #[.slice F.A0 F.l0.length F.c0, .slice F.A1 F.l1.length F.c1, .slice F.A2 F.l2.length F.c2]) :: some (.agg #[.slice F.A0 F.l0.length F.c0, .slice F.A1 F.l1.length F.c1, .slice F.A2 F.l2.length F.c2]) :: some (.agg #[.slice none 0 0, .slice none 0 0, .slice none 0 0]) :: none :: none :: none :: o4 (o4 (o4 (o16 (o16 (o16 (o64 (o64 (o64 (o64 [])))))))))))))))) t) :
    seqT Try.prog (Opq (regOps (sub (Try.f11.body.getD .skip) [1, 1, 1, 0]))) (fun W' => Box3 W' b4 24 F.s0 F.s1 F.s2) Q' (.one 6 false (.one 7 false (.one 8 false (.nil)))) { tmps := t, defers := ds } X := by
  obtain ⟨x, hx⟩ := Slots.open_ hSl; simp only [fill, Nat.reduceAdd] at hx; subst hx; clear hSl
  have hu24 := Try.underlying24
  have hu22 := Try.underlying22
  have c0 := hb10.cell0; have c1 := hb10.cell1; have c2 := hb10.cell2; have z0 := box3_frozen hb10 0; have z1 := box3_frozen hb10 1; have z2 := box3_frozen hb10 2
  refine tr_store u4_6 (((X.setCell ⟨b10, 0, none⟩ (.slice F.A0 F.l0.length F.c0)).setCell ⟨b10, 1, none⟩ (.slice F.A1 F.l1.length F.c1)).setCell ⟨b10, 2, none⟩ (.slice F.A2 F.l2.length F.c2)) (by kernel_rfl) rfl (by first | exact rfl | trivial) (by simp [go_sem, mkO, u4_6, hu24, hu22, c0, c1, c2, z0, z1, z2]) ?_ ?_
  · exact (Below.heap_setCell _ _ _ _ (by show b4 ≠ b10; omega)).trans ((Below.heap_setCell _ _ _ _ (by show b4 ≠ b10; omega)).trans ((Below.heap_setCell _ _ _ _ (by show b4 ≠ b10; omega)).trans hS))
  simp only [u4_6, put_none]
  replace hS : Box3 (((X.setCell ⟨b10, 0, none⟩ (.slice F.A0 F.l0.length F.c0)).setCell ⟨b10, 1, none⟩ (.slice F.A1 F.l1.length F.c1)).setCell ⟨b10, 2, none⟩ (.slice F.A2 F.l2.length F.c2)) b4 24 F.s0 F.s1 F.s2 := (Below.heap_setCell _ _ _ _ (by show b4 ≠ b10; omega)).trans ((Below.heap_setCell _ _ _ _ (by show b4 ≠ b10; omega)).trans ((Below.heap_setCell _ _ _ _ (by show b4 ≠ b10; omega)).trans hS))
  replace hb11 : Box3 (((X.setCell ⟨b10, 0, none⟩ (.slice F.A0 F.l0.length F.c0)).setCell ⟨b10, 1, none⟩ (.slice F.A1 F.l1.length F.c1)).setCell ⟨b10, 2, none⟩ (.slice F.A2 F.l2.length F.c2)) b11 24 (.slice none 0 0) (.slice none 0 0) (.slice none 0 0) := (Below.heap_setCell (X.setCell ⟨b10, 0, none⟩ (.slice F.A0 F.l0.length F.c0) |>.setCell ⟨b10, 1, none⟩ (.slice F.A1 F.l1.length F.c1)) ⟨b10, 2, none⟩ (.slice F.A2 F.l2.length F.c2) _ n1.symm).trans ((Below.heap_setCell (X.setCell ⟨b10, 0, none⟩ (.slice F.A0 F.l0.length F.c0)) ⟨b10, 1, none⟩ (.slice F.A1 F.l1.length F.c1) _ n1.symm).trans ((Below.heap_setCell X ⟨b10, 0, none⟩ (.slice F.A0 F.l0.length F.c0) _ n1.symm).trans hb11))
  replace hb12 : Box3 (((X.setCell ⟨b10, 0, none⟩ (.slice F.A0 F.l0.length F.c0)).setCell ⟨b10, 1, none⟩ (.slice F.A1 F.l1.length F.c1)).setCell ⟨b10, 2, none⟩ (.slice F.A2 F.l2.length F.c2)) b12 24 (.slice none 0 0) (.slice none 0 0) (.slice none 0 0) := (Below.heap_setCell (X.setCell ⟨b10, 0, none⟩ (.slice F.A0 F.l0.length F.c0) |>.setCell ⟨b10, 1, none⟩ (.slice F.A1 F.l1.length F.c1)) ⟨b10, 2, none⟩ (.slice F.A2 F.l2.length F.c2) _ n2.symm).trans ((Below.heap_setCell (X.setCell ⟨b10, 0, none⟩ (.slice F.A0 F.l0.length F.c0)) ⟨b10, 1, none⟩ (.slice F.A1 F.l1.length F.c1) _ n2.symm).trans ((Below.heap_setCell X ⟨b10, 0, none⟩ (.slice F.A0 F.l0.length F.c0) _ n2.symm).trans hb12))
  replace hb10 := box3_set2 (box3_set1 (box3_set0 hb10 (.slice F.A0 F.l0.length F.c0)) (.slice F.A1 F.l1.length F.c1)) (.slice F.A2 F.l2.length F.c2)
  replace hBV := ((hBV.setCell (p := ⟨b10, 0, none⟩) lo10 (.slice F.A0 F.l0.length F.c0)).setCell (p := ⟨b10, 1, none⟩) lo10 (.slice F.A1 F.l1.length F.c1)).setCell (p := ⟨b10, 2, none⟩) lo10 (.slice F.A2 F.l2.length F.c2)
  replace hKW := ((hKW.setCell ⟨b10, 0, none⟩ (.slice F.A0 F.l0.length F.c0)).setCell ⟨b10, 1, none⟩ (.slice F.A1 F.l1.length F.c1)).setCell ⟨b10, 2, none⟩ (.slice F.A2 F.l2.length F.c2)
  clear c0 c1 c2 z0 z1 z2
  generalize (((X.setCell ⟨b10, 0, none⟩ (.slice F.A0 F.l0.length F.c0)).setCell ⟨b10, 1, none⟩ (.slice F.A1 F.l1.length F.c1)).setCell ⟨b10, 2, none⟩ (.slice F.A2 F.l2.length F.c2)) = Y1 at *
  have c0 := hb11.cell0; have c1 := hb11.cell1; have c2 := hb11.cell2; have z0 := box3_frozen hb11 0; have z1 := box3_frozen hb11 1; have z2 := box3_frozen hb11 2
  refine tr_store u4_7 (((Y1.setCell ⟨b11, 0, none⟩ (.slice F.A0 F.l0.length F.c0)).setCell ⟨b11, 1, none⟩ (.slice F.A1 F.l1.length F.c1)).setCell ⟨b11, 2, none⟩ (.slice F.A2 F.l2.length F.c2)) (by kernel_rfl) rfl (by first | exact rfl | trivial) (by simp [go_sem, mkO, u4_7, hu24, hu22, c0, c1, c2, z0, z1, z2]) ?_ ?_
  · exact (Below.heap_setCell _ _ _ _ (by show b4 ≠ b11; omega)).trans ((Below.heap_setCell _ _ _ _ (by show b4 ≠ b11; omega)).trans ((Below.heap_setCell _ _ _ _ (by show b4 ≠ b11; omega)).trans hS))
  simp only [u4_7, put_none]
  replace hS : Box3 (((Y1.setCell ⟨b11, 0, none⟩ (.slice F.A0 F.l0.length F.c0)).setCell ⟨b11, 1, none⟩ (.slice F.A1 F.l1.length F.c1)).setCell ⟨b11, 2, none⟩ (.slice F.A2 F.l2.length F.c2)) b4 24 F.s0 F.s1 F.s2 := (Below.heap_setCell _ _ _ _ (by show b4 ≠ b11; omega)).trans ((Below.heap_setCell _ _ _ _ (by show b4 ≠ b11; omega)).trans ((Below.heap_setCell _ _ _ _ (by show b4 ≠ b11; omega)).trans hS))
  replace hb10 : Box3 (((Y1.setCell ⟨b11, 0, none⟩ (.slice F.A0 F.l0.length F.c0)).setCell ⟨b11, 1, none⟩ (.slice F.A1 F.l1.length F.c1)).setCell ⟨b11, 2, none⟩ (.slice F.A2 F.l2.length F.c2)) b10 24 (.slice F.A0 F.l0.length F.c0) (.slice F.A1 F.l1.length F.c1) (.slice F.A2 F.l2.length F.c2) := (Below.heap_setCell (Y1.setCell ⟨b11, 0, none⟩ (.slice F.A0 F.l0.length F.c0) |>.setCell ⟨b11, 1, none⟩ (.slice F.A1 F.l1.length F.c1)) ⟨b11, 2, none⟩ (.slice F.A2 F.l2.length F.c2) _ n1).trans ((Below.heap_setCell (Y1.setCell ⟨b11, 0, none⟩ (.slice F.A0 F.l0.length F.c0)) ⟨b11, 1, none⟩ (.slice F.A1 F.l1.length F.c1) _ n1).trans ((Below.heap_setCell Y1 ⟨b11, 0, none⟩ (.slice F.A0 F.l0.length F.c0) _ n1).trans hb10))
  replace hb12 : Box3 (((Y1.setCell ⟨b11, 0, none⟩ (.slice F.A0 F.l0.length F.c0)).setCell ⟨b11, 1, none⟩ (.slice F.A1 F.l1.length F.c1)).setCell ⟨b11, 2, none⟩ (.slice F.A2 F.l2.length F.c2)) b12 24 (.slice none 0 0) (.slice none 0 0) (.slice none 0 0) := (Below.heap_setCell (Y1.setCell ⟨b11, 0, none⟩ (.slice F.A0 F.l0.length F.c0) |>.setCell ⟨b11, 1, none⟩ (.slice F.A1 F.l1.length F.c1)) ⟨b11, 2, none⟩ (.slice F.A2 F.l2.length F.c2) _ n3.symm).trans ((Below.heap_setCell (Y1.setCell ⟨b11, 0, none⟩ (.slice F.A0 F.l0.length F.c0)) ⟨b11, 1, none⟩ (.slice F.A1 F.l1.length F.c1) _ n3.symm).trans ((Below.heap_setCell Y1 ⟨b11, 0, none⟩ (.slice F.A0 F.l0.length F.c0) _ n3.symm).trans hb12))
  replace hb11 := box3_set2 (box3_set1 (box3_set0 hb11 (.slice F.A0 F.l0.length F.c0)) (.slice F.A1 F.l1.length F.c1)) (.slice F.A2 F.l2.length F.c2)
  replace hBV := ((hBV.setCell (p := ⟨b11, 0, none⟩) lo11 (.slice F.A0 F.l0.length F.c0)).setCell (p := ⟨b11, 1, none⟩) lo11 (.slice F.A1 F.l1.length F.c1)).setCell (p := ⟨b11, 2, none⟩) lo11 (.slice F.A2 F.l2.length F.c2)
  replace hKW := ((hKW.setCell ⟨b11, 0, none⟩ (.slice F.A0 F.l0.length F.c0)).setCell ⟨b11, 1, none⟩ (.slice F.A1 F.l1.length F.c1)).setCell ⟨b11, 2, none⟩ (.slice F.A2 F.l2.length F.c2)
  clear c0 c1 c2 z0 z1 z2
  generalize (((Y1.setCell ⟨b11, 0, none⟩ (.slice F.A0 F.l0.length F.c0)).setCell ⟨b11, 1, none⟩ (.slice F.A1 F.l1.length F.c1)).setCell ⟨b11, 2, none⟩ (.slice F.A2 F.l2.length F.c2)) = Y2 at *
  have c0 := hb12.cell0; have c1 := hb12.cell1; have c2 := hb12.cell2; have z0 := box3_frozen hb12 0; have z1 := box3_frozen hb12 1; have z2 := box3_frozen hb12 2
  refine tr_store u4_8 (((Y2.setCell ⟨b12, 0, none⟩ (.slice none 0 0)).setCell ⟨b12, 1, none⟩ (.slice none 0 0)).setCell ⟨b12, 2, none⟩ (.slice none 0 0)) (by kernel_rfl) rfl (by first | exact rfl | trivial) (by simp [go_sem, mkO, u4_8, hu24, hu22, c0, c1, c2, z0, z1, z2]) ?_ ?_
  · exact (Below.heap_setCell _ _ _ _ (by show b4 ≠ b12; omega)).trans ((Below.heap_setCell _ _ _ _ (by show b4 ≠ b12; omega)).trans ((Below.heap_setCell _ _ _ _ (by show b4 ≠ b12; omega)).trans hS))
  simp only [u4_8, put_none]
  replace hS : Box3 (((Y2.setCell ⟨b12, 0, none⟩ (.slice none 0 0)).setCell ⟨b12, 1, none⟩ (.slice none 0 0)).setCell ⟨b12, 2, none⟩ (.slice none 0 0)) b4 24 F.s0 F.s1 F.s2 := (Below.heap_setCell _ _ _ _ (by show b4 ≠ b12; omega)).trans ((Below.heap_setCell _ _ _ _ (by show b4 ≠ b12; omega)).trans ((Below.heap_setCell _ _ _ _ (by show b4 ≠ b12; omega)).trans hS))
  replace hb10 : Box3 (((Y2.setCell ⟨b12, 0, none⟩ (.slice none 0 0)).setCell ⟨b12, 1, none⟩ (.slice none 0 0)).setCell ⟨b12, 2, none⟩ (.slice none 0 0)) b10 24 (.slice F.A0 F.l0.length F.c0) (.slice F.A1 F.l1.length F.c1) (.slice F.A2 F.l2.length F.c2) := (Below.heap_setCell (Y2.setCell ⟨b12, 0, none⟩ (.slice none 0 0) |>.setCell ⟨b12, 1, none⟩ (.slice none 0 0)) ⟨b12, 2, none⟩ (.slice none 0 0) _ n2).trans ((Below.heap_setCell (Y2.setCell ⟨b12, 0, none⟩ (.slice none 0 0)) ⟨b12, 1, none⟩ (.slice none 0 0) _ n2).trans ((Below.heap_setCell Y2 ⟨b12, 0, none⟩ (.slice none 0 0) _ n2).trans hb10))
  replace hb11 : Box3 (((Y2.setCell ⟨b12, 0, none⟩ (.slice none 0 0)).setCell ⟨b12, 1, none⟩ (.slice none 0 0)).setCell ⟨b12, 2, none⟩ (.slice none 0 0)) b11 24 (.slice F.A0 F.l0.length F.c0) (.slice F.A1 F.l1.length F.c1) (.slice F.A2 F.l2.length F.c2) := (Below.heap_setCell (Y2.setCell ⟨b12, 0, none⟩ (.slice none 0 0) |>.setCell ⟨b12, 1, none⟩ (.slice none 0 0)) ⟨b12, 2, none⟩ (.slice none 0 0) _ n3).trans ((Below.heap_setCell (Y2.setCell ⟨b12, 0, none⟩ (.slice none 0 0)) ⟨b12, 1, none⟩ (.slice none 0 0) _ n3).trans ((Below.heap_setCell Y2 ⟨b12, 0, none⟩ (.slice none 0 0) _ n3).trans hb11))
  replace hb12 := box3_set2 (box3_set1 (box3_set0 hb12 (.slice none 0 0)) (.slice none 0 0)) (.slice none 0 0)
  replace hBV := ((hBV.setCell (p := ⟨b12, 0, none⟩) lo12 (.slice none 0 0)).setCell (p := ⟨b12, 1, none⟩) lo12 (.slice none 0 0)).setCell (p := ⟨b12, 2, none⟩) lo12 (.slice none 0 0)
  replace hKW := ((hKW.setCell ⟨b12, 0, none⟩ (.slice none 0 0)).setCell ⟨b12, 1, none⟩ (.slice none 0 0)).setCell ⟨b12, 2, none⟩ (.slice none 0 0)
  clear c0 c1 c2 z0 z1 z2
  generalize (((Y2.setCell ⟨b12, 0, none⟩ (.slice none 0 0)).setCell ⟨b12, 1, none⟩ (.slice none 0 0)).setCell ⟨b12, 2, none⟩ (.slice none 0 0)) = Y3 at *
  exact hQn _ _ hKW ⟨b10, b11, b12, lo10, lo11, lo12, n1, n2, n3, hBV, hb10, hb11, hb12, (by simp only [Slots, Fits, and_self])⟩
set_option maxRecDepth 100000 in
set_option maxHeartbeats 4000000 in
theorem tu_4 {F : Fur} {V : World} {b4 b9 : Nat} {most by_ st_ : Int} (hS : Box3 V b4 24 F.s0 F.s1 F.s2) (t : Array Value) (hSl : Slots (none :: some (.int .i64 most) :: some (.int .i8 by_) :: some (.int .i8 st_) :: some (.pointer (some ⟨b4, 0, none⟩)) :: o4 (some (.pointer (some ⟨b9, 0, none⟩)) :: o4 (o16 (o16 (o16 (o64 (o64 (o64 (o64 (o64 [])))))))))) t) :
    Exec Try.prog none (sub (Try.f11.body.getD .skip) [1, 1, 1, 0]) t V (andThen (fun t' W' => ∃ b10 b11 b12 : Nat, V.heap.size ≤ b10 ∧ V.heap.size ≤ b11 ∧ V.heap.size ≤ b12 ∧ b10 ≠ b11 ∧ b10 ≠ b12 ∧ b11 ≠ b12 ∧ Below V.heap.size V W' ∧ Box3 W' b10 24 F.s0 F.s1 F.s2 ∧ Box3 W' b11 24 F.s0 F.s1 F.s2 ∧ Box3 W' b12 24 (.slice none 0 0) (.slice none 0 0) (.slice none 0 0) ∧ Slots (none :: some (.int .i64 most) :: some (.int .i8 by_) :: some (.int .i8 st_) :: some (.pointer (some ⟨b4, 0, none⟩)) :: o4 (some (.pointer (some ⟨b9, 0, none⟩)) :: some (.pointer (some ⟨b10, 0, none⟩)) :: some (.pointer (some ⟨b11, 0, none⟩)) :: some (.pointer (some ⟨b12, 0, none⟩)) :: none :: o16 (o16 (o16 (o64 (o64 (o64 (o64 (o64 []))))))))) t') fun _ _ _ => False) := by
  obtain ⟨x, hx⟩ := Slots.open_ hSl; simp only [fill, Nat.reduceAdd] at hx; subst hx; clear hSl
  have hu24 := Try.underlying24
  have hu22 := Try.underlying22
  have h4 := hS.lt
  have q0 : ∀ W', Box3 W' b4 24 F.s0 F.s1 F.s2 → W'.cell? ⟨b4, 0, none⟩ = some (.slice F.A0 F.l0.length F.c0) := fun W' h => h.cell0
  have q1 : ∀ W', Box3 W' b4 24 F.s0 F.s1 F.s2 → W'.cell? ⟨b4, 1, none⟩ = some (.slice F.A1 F.l1.length F.c1) := fun W' h => h.cell1
  have q2 : ∀ W', Box3 W' b4 24 F.s0 F.s1 F.s2 → W'.cell? ⟨b4, 2, none⟩ = some (.slice F.A2 F.l2.length F.c2) := fun W' h => h.cell2
  have hKW : Keep V V.drew := (Keep.refl V).drew
  have hBV : Below V.heap.size V V.drew := (Below.refl _ V).drew
  replace hS : Box3 V.drew b4 24 F.s0 F.s1 F.s2 := hS
  refine region_tree (c := (sub (Try.f11.body.getD .skip) [1, 1, 1, 0])) (id := 4) (.one 0 true (.one 1 true (.one 2 true (.three 3 4 5 (.two 4 5 (.one 5 false (.one 6 false (.one 7 false (.one 8 false (.nil))))) (.one 4 false (.one 6 false (.one 7 false (.one 8 false (.nil)))))) (.two 3 5 (.one 5 false (.one 6 false (.one 7 false (.one 8 false (.nil))))) (.one 3 false (.one 6 false (.one 7 false (.one 8 false (.nil)))))) (.two 3 4 (.one 4 false (.one 6 false (.one 7 false (.one 8 false (.nil))))) (.one 3 false (.one 6 false (.one 7 false (.one 8 false (.nil)))))))))) (Opq (regOps (sub (Try.f11.body.getD .skip) [1, 1, 1, 0]))) rfl (by kernel_rfl) (by kernel_rfl) (by kernel_rfl) (by kernel_rfl) (by kernel_rfl) (by kernel_rfl) [0, 0, 0, 0, 0, 0, 57, 123, 255] (by kernel_rfl) (by kernel_rfl) (fun W' => Box3 W' b4 24 F.s0 F.s1 F.s2) (fun _ _ _ => False) (fun _ _ _ h => h.elim) (fun _ _ _ _ _ _ _ _ h => h.elim) fun ds Q' hQn hQp => ?_
  generalize V.drew = X0 at *
  refine tr_take u4_0t (.agg #[.slice F.A0 F.l0.length F.c0, .slice F.A1 F.l1.length F.c1, .slice F.A2 F.l2.length F.c2]) (by kernel_rfl) rfl (by first | exact rfl | trivial) (fun wq hq => ?_) (hS) ?_; (focus (simp [go_sem, mkO, u4_0t, q0 wq hq, q1 wq hq, q2 wq hq, hu24]; done)); simp only [u4_0t, put_eq, List.set_cons_succ, List.set_cons_zero]
  refine tr_take u4_1t (.agg #[.slice F.A0 F.l0.length F.c0, .slice F.A1 F.l1.length F.c1, .slice F.A2 F.l2.length F.c2]) (by kernel_rfl) rfl (by first | exact rfl | trivial) (fun wq hq => ?_) (hS) ?_; (focus (simp [go_sem, mkO, u4_1t, q0 wq hq, q1 wq hq, q2 wq hq, hu24]; done)); simp only [u4_1t, put_eq, List.set_cons_succ, List.set_cons_zero]
  refine tr_take u4_2t (.agg #[.slice none 0 0, .slice none 0 0, .slice none 0 0]) (by kernel_rfl) rfl (by first | exact rfl | trivial) (fun wq hq => ?_) (hS) ?_; (focus (simp [go_sem, mkO, u4_2t, hu24, hu22]; done)); simp only [u4_2t, put_eq, List.set_cons_succ, List.set_cons_zero]
  refine ⟨?_, ?_, ?_⟩
  · refine tr_make u4_3 (.pointer (some ⟨X0.heap.size, 0, none⟩)) (X0.alloc (.cells #[.slice none 0 0, .slice none 0 0, .slice none 0 0] 24)) (by kernel_rfl) rfl (by first | exact rfl | trivial) (by simp [go_sem, mkO, u4_3, hu24, hu22]) (box3_below ((Below.refl _ X0).alloc (Nat.le_refl _) (.cells #[.slice none 0 0, .slice none 0 0, .slice none 0 0] 24)) hS) ?_; simp only [u4_3, put_eq, List.set_cons_succ, List.set_cons_zero]
    have hb10 := Box3.new X0 24 (.slice none 0 0) (.slice none 0 0) (.slice none 0 0)
    have lo10 := hBV.size
    replace hBV := hBV.alloc hBV.size (.cells #[.slice none 0 0, .slice none 0 0, .slice none 0 0] 24); replace hS := box3_below ((Below.refl _ X0).alloc (Nat.le_refl _) (.cells #[.slice none 0 0, .slice none 0 0, .slice none 0 0] 24)) hS; replace hKW := hKW.alloc (.cells #[.slice none 0 0, .slice none 0 0, .slice none 0 0] 24)
    generalize X0.alloc (.cells #[.slice none 0 0, .slice none 0 0, .slice none 0 0] 24) = X1 at *; generalize X0.heap.size = b10 at *
    refine ⟨?_, ?_⟩
    · refine tr_make u4_4 (.pointer (some ⟨X1.heap.size, 0, none⟩)) (X1.alloc (.cells #[.slice none 0 0, .slice none 0 0, .slice none 0 0] 24)) (by kernel_rfl) rfl (by first | exact rfl | trivial) (by simp [go_sem, mkO, u4_4, hu24, hu22]) (box3_below ((Below.refl _ X1).alloc (Nat.le_refl _) (.cells #[.slice none 0 0, .slice none 0 0, .slice none 0 0] 24)) hS) ?_; simp only [u4_4, put_eq, List.set_cons_succ, List.set_cons_zero]
      have hb11 := Box3.new X1 24 (.slice none 0 0) (.slice none 0 0) (.slice none 0 0)
      have n10_11 : b10 ≠ X1.heap.size := fun e => by have := hb10.lt; omega
      replace hb10 := box3_below ((Below.refl _ X1).alloc (Nat.le_refl _) (.cells #[.slice none 0 0, .slice none 0 0, .slice none 0 0] 24)) hb10
      have lo11 := hBV.size
      replace hBV := hBV.alloc hBV.size (.cells #[.slice none 0 0, .slice none 0 0, .slice none 0 0] 24); replace hS := box3_below ((Below.refl _ X1).alloc (Nat.le_refl _) (.cells #[.slice none 0 0, .slice none 0 0, .slice none 0 0] 24)) hS; replace hKW := hKW.alloc (.cells #[.slice none 0 0, .slice none 0 0, .slice none 0 0] 24)
      generalize X1.alloc (.cells #[.slice none 0 0, .slice none 0 0, .slice none 0 0] 24) = X2 at *; generalize X1.heap.size = b11 at *
      refine tr_make u4_5 (.pointer (some ⟨X2.heap.size, 0, none⟩)) (X2.alloc (.cells #[.slice none 0 0, .slice none 0 0, .slice none 0 0] 24)) (by kernel_rfl) rfl (by first | exact rfl | trivial) (by simp [go_sem, mkO, u4_5, hu24, hu22]) (box3_below ((Below.refl _ X2).alloc (Nat.le_refl _) (.cells #[.slice none 0 0, .slice none 0 0, .slice none 0 0] 24)) hS) ?_; simp only [u4_5, put_eq, List.set_cons_succ, List.set_cons_zero]
      have hb12 := Box3.new X2 24 (.slice none 0 0) (.slice none 0 0) (.slice none 0 0)
      have n10_12 : b10 ≠ X2.heap.size := fun e => by have := hb10.lt; omega
      replace hb10 := box3_below ((Below.refl _ X2).alloc (Nat.le_refl _) (.cells #[.slice none 0 0, .slice none 0 0, .slice none 0 0] 24)) hb10
      have n11_12 : b11 ≠ X2.heap.size := fun e => by have := hb11.lt; omega
      replace hb11 := box3_below ((Below.refl _ X2).alloc (Nat.le_refl _) (.cells #[.slice none 0 0, .slice none 0 0, .slice none 0 0] 24)) hb11
      have lo12 := hBV.size
      replace hBV := hBV.alloc hBV.size (.cells #[.slice none 0 0, .slice none 0 0, .slice none 0 0] 24); replace hS := box3_below ((Below.refl _ X2).alloc (Nat.le_refl _) (.cells #[.slice none 0 0, .slice none 0 0, .slice none 0 0] 24)) hS; replace hKW := hKW.alloc (.cells #[.slice none 0 0, .slice none 0 0, .slice none 0 0] 24)
      generalize X2.alloc (.cells #[.slice none 0 0, .slice none 0 0, .slice none 0 0] 24) = X3 at *; generalize X2.heap.size = b12 at *
      exact tu_4t (b9 := b9) hb10 hb11 hb12 lo10 lo11 lo12 n10_11 n10_12 n11_12 hBV hS h4 hKW hQn _ (by simp only [Slots, Fits, and_self])
    · refine tr_make u4_5 (.pointer (some ⟨X1.heap.size, 0, none⟩)) (X1.alloc (.cells #[.slice none 0 0, .slice none 0 0, .slice none 0 0] 24)) (by kernel_rfl) rfl (by first | exact rfl | trivial) (by simp [go_sem, mkO, u4_5, hu24, hu22]) (box3_below ((Below.refl _ X1).alloc (Nat.le_refl _) (.cells #[.slice none 0 0, .slice none 0 0, .slice none 0 0] 24)) hS) ?_; simp only [u4_5, put_eq, List.set_cons_succ, List.set_cons_zero]
      have hb12 := Box3.new X1 24 (.slice none 0 0) (.slice none 0 0) (.slice none 0 0)
      have n10_12 : b10 ≠ X1.heap.size := fun e => by have := hb10.lt; omega
      replace hb10 := box3_below ((Below.refl _ X1).alloc (Nat.le_refl _) (.cells #[.slice none 0 0, .slice none 0 0, .slice none 0 0] 24)) hb10
      have lo12 := hBV.size
      replace hBV := hBV.alloc hBV.size (.cells #[.slice none 0 0, .slice none 0 0, .slice none 0 0] 24); replace hS := box3_below ((Below.refl _ X1).alloc (Nat.le_refl _) (.cells #[.slice none 0 0, .slice none 0 0, .slice none 0 0] 24)) hS; replace hKW := hKW.alloc (.cells #[.slice none 0 0, .slice none 0 0, .slice none 0 0] 24)
      generalize X1.alloc (.cells #[.slice none 0 0, .slice none 0 0, .slice none 0 0] 24) = X2 at *; generalize X1.heap.size = b12 at *
      refine tr_make u4_4 (.pointer (some ⟨X2.heap.size, 0, none⟩)) (X2.alloc (.cells #[.slice none 0 0, .slice none 0 0, .slice none 0 0] 24)) (by kernel_rfl) rfl (by first | exact rfl | trivial) (by simp [go_sem, mkO, u4_4, hu24, hu22]) (box3_below ((Below.refl _ X2).alloc (Nat.le_refl _) (.cells #[.slice none 0 0, .slice none 0 0, .slice none 0 0] 24)) hS) ?_; simp only [u4_4, put_eq, List.set_cons_succ, List.set_cons_zero]
      have hb11 := Box3.new X2 24 (.slice none 0 0) (.slice none 0 0) (.slice none 0 0)
      have n10_11 : b10 ≠ X2.heap.size := fun e => by have := hb10.lt; omega
      replace hb10 := box3_below ((Below.refl _ X2).alloc (Nat.le_refl _) (.cells #[.slice none 0 0, .slice none 0 0, .slice none 0 0] 24)) hb10
      have n12_11 : b12 ≠ X2.heap.size := fun e => by have := hb12.lt; omega
      replace hb12 := box3_below ((Below.refl _ X2).alloc (Nat.le_refl _) (.cells #[.slice none 0 0, .slice none 0 0, .slice none 0 0] 24)) hb12
      have lo11 := hBV.size
      replace hBV := hBV.alloc hBV.size (.cells #[.slice none 0 0, .slice none 0 0, .slice none 0 0] 24); replace hS := box3_below ((Below.refl _ X2).alloc (Nat.le_refl _) (.cells #[.slice none 0 0, .slice none 0 0, .slice none 0 0] 24)) hS; replace hKW := hKW.alloc (.cells #[.slice none 0 0, .slice none 0 0, .slice none 0 0] 24)
      generalize X2.alloc (.cells #[.slice none 0 0, .slice none 0 0, .slice none 0 0] 24) = X3 at *; generalize X2.heap.size = b11 at *
      exact tu_4t (b9 := b9) hb10 hb11 hb12 lo10 lo11 lo12 n10_11 n10_12 n12_11.symm hBV hS h4 hKW hQn _ (by simp only [Slots, Fits, and_self])
  · refine tr_make u4_4 (.pointer (some ⟨X0.heap.size, 0, none⟩)) (X0.alloc (.cells #[.slice none 0 0, .slice none 0 0, .slice none 0 0] 24)) (by kernel_rfl) rfl (by first | exact rfl | trivial) (by simp [go_sem, mkO, u4_4, hu24, hu22]) (box3_below ((Below.refl _ X0).alloc (Nat.le_refl _) (.cells #[.slice none 0 0, .slice none 0 0, .slice none 0 0] 24)) hS) ?_; simp only [u4_4, put_eq, List.set_cons_succ, List.set_cons_zero]
    have hb11 := Box3.new X0 24 (.slice none 0 0) (.slice none 0 0) (.slice none 0 0)
    have lo11 := hBV.size
    replace hBV := hBV.alloc hBV.size (.cells #[.slice none 0 0, .slice none 0 0, .slice none 0 0] 24); replace hS := box3_below ((Below.refl _ X0).alloc (Nat.le_refl _) (.cells #[.slice none 0 0, .slice none 0 0, .slice none 0 0] 24)) hS; replace hKW := hKW.alloc (.cells #[.slice none 0 0, .slice none 0 0, .slice none 0 0] 24)
    generalize X0.alloc (.cells #[.slice none 0 0, .slice none 0 0, .slice none 0 0] 24) = X1 at *; generalize X0.heap.size = b11 at *
    refine ⟨?_, ?_⟩
    · refine tr_make u4_3 (.pointer (some ⟨X1.heap.size, 0, none⟩)) (X1.alloc (.cells #[.slice none 0 0, .slice none 0 0, .slice none 0 0] 24)) (by kernel_rfl) rfl (by first | exact rfl | trivial) (by simp [go_sem, mkO, u4_3, hu24, hu22]) (box3_below ((Below.refl _ X1).alloc (Nat.le_refl _) (.cells #[.slice none 0 0, .slice none 0 0, .slice none 0 0] 24)) hS) ?_; simp only [u4_3, put_eq, List.set_cons_succ, List.set_cons_zero]
      have hb10 := Box3.new X1 24 (.slice none 0 0) (.slice none 0 0) (.slice none 0 0)
      have n11_10 : b11 ≠ X1.heap.size := fun e => by have := hb11.lt; omega
      replace hb11 := box3_below ((Below.refl _ X1).alloc (Nat.le_refl _) (.cells #[.slice none 0 0, .slice none 0 0, .slice none 0 0] 24)) hb11
      have lo10 := hBV.size
      replace hBV := hBV.alloc hBV.size (.cells #[.slice none 0 0, .slice none 0 0, .slice none 0 0] 24); replace hS := box3_below ((Below.refl _ X1).alloc (Nat.le_refl _) (.cells #[.slice none 0 0, .slice none 0 0, .slice none 0 0] 24)) hS; replace hKW := hKW.alloc (.cells #[.slice none 0 0, .slice none 0 0, .slice none 0 0] 24)
      generalize X1.alloc (.cells #[.slice none 0 0, .slice none 0 0, .slice none 0 0] 24) = X2 at *; generalize X1.heap.size = b10 at *
      refine tr_make u4_5 (.pointer (some ⟨X2.heap.size, 0, none⟩)) (X2.alloc (.cells #[.slice none 0 0, .slice none 0 0, .slice none 0 0] 24)) (by kernel_rfl) rfl (by first | exact rfl | trivial) (by simp [go_sem, mkO, u4_5, hu24, hu22]) (box3_below ((Below.refl _ X2).alloc (Nat.le_refl _) (.cells #[.slice none 0 0, .slice none 0 0, .slice none 0 0] 24)) hS) ?_; simp only [u4_5, put_eq, List.set_cons_succ, List.set_cons_zero]
      have hb12 := Box3.new X2 24 (.slice none 0 0) (.slice none 0 0) (.slice none 0 0)
      have n11_12 : b11 ≠ X2.heap.size := fun e => by have := hb11.lt; omega
      replace hb11 := box3_below ((Below.refl _ X2).alloc (Nat.le_refl _) (.cells #[.slice none 0 0, .slice none 0 0, .slice none 0 0] 24)) hb11
      have n10_12 : b10 ≠ X2.heap.size := fun e => by have := hb10.lt; omega
      replace hb10 := box3_below ((Below.refl _ X2).alloc (Nat.le_refl _) (.cells #[.slice none 0 0, .slice none 0 0, .slice none 0 0] 24)) hb10
      have lo12 := hBV.size
      replace hBV := hBV.alloc hBV.size (.cells #[.slice none 0 0, .slice none 0 0, .slice none 0 0] 24); replace hS := box3_below ((Below.refl _ X2).alloc (Nat.le_refl _) (.cells #[.slice none 0 0, .slice none 0 0, .slice none 0 0] 24)) hS; replace hKW := hKW.alloc (.cells #[.slice none 0 0, .slice none 0 0, .slice none 0 0] 24)
      generalize X2.alloc (.cells #[.slice none 0 0, .slice none 0 0, .slice none 0 0] 24) = X3 at *; generalize X2.heap.size = b12 at *
      exact tu_4t (b9 := b9) hb10 hb11 hb12 lo10 lo11 lo12 n11_10.symm n10_12 n11_12 hBV hS h4 hKW hQn _ (by simp only [Slots, Fits, and_self])
    · refine tr_make u4_5 (.pointer (some ⟨X1.heap.size, 0, none⟩)) (X1.alloc (.cells #[.slice none 0 0, .slice none 0 0, .slice none 0 0] 24)) (by kernel_rfl) rfl (by first | exact rfl | trivial) (by simp [go_sem, mkO, u4_5, hu24, hu22]) (box3_below ((Below.refl _ X1).alloc (Nat.le_refl _) (.cells #[.slice none 0 0, .slice none 0 0, .slice none 0 0] 24)) hS) ?_; simp only [u4_5, put_eq, List.set_cons_succ, List.set_cons_zero]
      have hb12 := Box3.new X1 24 (.slice none 0 0) (.slice none 0 0) (.slice none 0 0)
      have n11_12 : b11 ≠ X1.heap.size := fun e => by have := hb11.lt; omega
      replace hb11 := box3_below ((Below.refl _ X1).alloc (Nat.le_refl _) (.cells #[.slice none 0 0, .slice none 0 0, .slice none 0 0] 24)) hb11
      have lo12 := hBV.size
      replace hBV := hBV.alloc hBV.size (.cells #[.slice none 0 0, .slice none 0 0, .slice none 0 0] 24); replace hS := box3_below ((Below.refl _ X1).alloc (Nat.le_refl _) (.cells #[.slice none 0 0, .slice none 0 0, .slice none 0 0] 24)) hS; replace hKW := hKW.alloc (.cells #[.slice none 0 0, .slice none 0 0, .slice none 0 0] 24)
      generalize X1.alloc (.cells #[.slice none 0 0, .slice none 0 0, .slice none 0 0] 24) = X2 at *; generalize X1.heap.size = b12 at *
      refine tr_make u4_3 (.pointer (some ⟨X2.heap.size, 0, none⟩)) (X2.alloc (.cells #[.slice none 0 0, .slice none 0 0, .slice none 0 0] 24)) (by kernel_rfl) rfl (by first | exact rfl | trivial) (by simp [go_sem, mkO, u4_3, hu24, hu22]) (box3_below ((Below.refl _ X2).alloc (Nat.le_refl _) (.cells #[.slice none 0 0, .slice none 0 0, .slice none 0 0] 24)) hS) ?_; simp only [u4_3, put_eq, List.set_cons_succ, List.set_cons_zero]
      have hb10 := Box3.new X2 24 (.slice none 0 0) (.slice none 0 0) (.slice none 0 0)
      have n11_10 : b11 ≠ X2.heap.size := fun e => by have := hb11.lt; omega
      replace hb11 := box3_below ((Below.refl _ X2).alloc (Nat.le_refl _) (.cells #[.slice none 0 0, .slice none 0 0, .slice none 0 0] 24)) hb11
      have n12_10 : b12 ≠ X2.heap.size := fun e => by have := hb12.lt; omega
      replace hb12 := box3_below ((Below.refl _ X2).alloc (Nat.le_refl _) (.cells #[.slice none 0 0, .slice none 0 0, .slice none 0 0] 24)) hb12
      have lo10 := hBV.size
      replace hBV := hBV.alloc hBV.size (.cells #[.slice none 0 0, .slice none 0 0, .slice none 0 0] 24); replace hS := box3_below ((Below.refl _ X2).alloc (Nat.le_refl _) (.cells #[.slice none 0 0, .slice none 0 0, .slice none 0 0] 24)) hS; replace hKW := hKW.alloc (.cells #[.slice none 0 0, .slice none 0 0, .slice none 0 0] 24)
      generalize X2.alloc (.cells #[.slice none 0 0, .slice none 0 0, .slice none 0 0] 24) = X3 at *; generalize X2.heap.size = b10 at *
      exact tu_4t (b9 := b9) hb10 hb11 hb12 lo10 lo11 lo12 n11_10.symm n12_10.symm n11_12 hBV hS h4 hKW hQn _ (by simp only [Slots, Fits, and_self])
  · refine tr_make u4_5 (.pointer (some ⟨X0.heap.size, 0, none⟩)) (X0.alloc (.cells #[.slice none 0 0, .slice none 0 0, .slice none 0 0] 24)) (by kernel_rfl) rfl (by first | exact rfl | trivial) (by simp [go_sem, mkO, u4_5, hu24, hu22]) (box3_below ((Below.refl _ X0).alloc (Nat.le_refl _) (.cells #[.slice none 0 0, .slice none 0 0, .slice none 0 0] 24)) hS) ?_; simp only [u4_5, put_eq, List.set_cons_succ, List.set_cons_zero]
    have hb12 := Box3.new X0 24 (.slice none 0 0) (.slice none 0 0) (.slice none 0 0)
    have lo12 := hBV.size
    replace hBV := hBV.alloc hBV.size (.cells #[.slice none 0 0, .slice none 0 0, .slice none 0 0] 24); replace hS := box3_below ((Below.refl _ X0).alloc (Nat.le_refl _) (.cells #[.slice none 0 0, .slice none 0 0, .slice none 0 0] 24)) hS; replace hKW := hKW.alloc (.cells #[.slice none 0 0, .slice none 0 0, .slice none 0 0] 24)
    generalize X0.alloc (.cells #[.slice none 0 0, .slice none 0 0, .slice none 0 0] 24) = X1 at *; generalize X0.heap.size = b12 at *
    refine ⟨?_, ?_⟩
    · refine tr_make u4_3 (.pointer (some ⟨X1.heap.size, 0, none⟩)) (X1.alloc (.cells #[.slice none 0 0, .slice none 0 0, .slice none 0 0] 24)) (by kernel_rfl) rfl (by first | exact rfl | trivial) (by simp [go_sem, mkO, u4_3, hu24, hu22]) (box3_below ((Below.refl _ X1).alloc (Nat.le_refl _) (.cells #[.slice none 0 0, .slice none 0 0, .slice none 0 0] 24)) hS) ?_; simp only [u4_3, put_eq, List.set_cons_succ, List.set_cons_zero]
      have hb10 := Box3.new X1 24 (.slice none 0 0) (.slice none 0 0) (.slice none 0 0)
      have n12_10 : b12 ≠ X1.heap.size := fun e => by have := hb12.lt; omega
      replace hb12 := box3_below ((Below.refl _ X1).alloc (Nat.le_refl _) (.cells #[.slice none 0 0, .slice none 0 0, .slice none 0 0] 24)) hb12
      have lo10 := hBV.size
      replace hBV := hBV.alloc hBV.size (.cells #[.slice none 0 0, .slice none 0 0, .slice none 0 0] 24); replace hS := box3_below ((Below.refl _ X1).alloc (Nat.le_refl _) (.cells #[.slice none 0 0, .slice none 0 0, .slice none 0 0] 24)) hS; replace hKW := hKW.alloc (.cells #[.slice none 0 0, .slice none 0 0, .slice none 0 0] 24)
      generalize X1.alloc (.cells #[.slice none 0 0, .slice none 0 0, .slice none 0 0] 24) = X2 at *; generalize X1.heap.size = b10 at *
      refine tr_make u4_4 (.pointer (some ⟨X2.heap.size, 0, none⟩)) (X2.alloc (.cells #[.slice none 0 0, .slice none 0 0, .slice none 0 0] 24)) (by kernel_rfl) rfl (by first | exact rfl | trivial) (by simp [go_sem, mkO, u4_4, hu24, hu22]) (box3_below ((Below.refl _ X2).alloc (Nat.le_refl _) (.cells #[.slice none 0 0, .slice none 0 0, .slice none 0 0] 24)) hS) ?_; simp only [u4_4, put_eq, List.set_cons_succ, List.set_cons_zero]
      have hb11 := Box3.new X2 24 (.slice none 0 0) (.slice none 0 0) (.slice none 0 0)
      have n12_11 : b12 ≠ X2.heap.size := fun e => by have := hb12.lt; omega
      replace hb12 := box3_below ((Below.refl _ X2).alloc (Nat.le_refl _) (.cells #[.slice none 0 0, .slice none 0 0, .slice none 0 0] 24)) hb12
      have n10_11 : b10 ≠ X2.heap.size := fun e => by have := hb10.lt; omega
      replace hb10 := box3_below ((Below.refl _ X2).alloc (Nat.le_refl _) (.cells #[.slice none 0 0, .slice none 0 0, .slice none 0 0] 24)) hb10
      have lo11 := hBV.size
      replace hBV := hBV.alloc hBV.size (.cells #[.slice none 0 0, .slice none 0 0, .slice none 0 0] 24); replace hS := box3_below ((Below.refl _ X2).alloc (Nat.le_refl _) (.cells #[.slice none 0 0, .slice none 0 0, .slice none 0 0] 24)) hS; replace hKW := hKW.alloc (.cells #[.slice none 0 0, .slice none 0 0, .slice none 0 0] 24)
      generalize X2.alloc (.cells #[.slice none 0 0, .slice none 0 0, .slice none 0 0] 24) = X3 at *; generalize X2.heap.size = b11 at *
      exact tu_4t (b9 := b9) hb10 hb11 hb12 lo10 lo11 lo12 n10_11 n12_10.symm n12_11.symm hBV hS h4 hKW hQn _ (by simp only [Slots, Fits, and_self])
    · refine tr_make u4_4 (.pointer (some ⟨X1.heap.size, 0, none⟩)) (X1.alloc (.cells #[.slice none 0 0, .slice none 0 0, .slice none 0 0] 24)) (by kernel_rfl) rfl (by first | exact rfl | trivial) (by simp [go_sem, mkO, u4_4, hu24, hu22]) (box3_below ((Below.refl _ X1).alloc (Nat.le_refl _) (.cells #[.slice none 0 0, .slice none 0 0, .slice none 0 0] 24)) hS) ?_; simp only [u4_4, put_eq, List.set_cons_succ, List.set_cons_zero]
      have hb11 := Box3.new X1 24 (.slice none 0 0) (.slice none 0 0) (.slice none 0 0)
      have n12_11 : b12 ≠ X1.heap.size := fun e => by have := hb12.lt; omega
      replace hb12 := box3_below ((Below.refl _ X1).alloc (Nat.le_refl _) (.cells #[.slice none 0 0, .slice none 0 0, .slice none 0 0] 24)) hb12
      have lo11 := hBV.size
      replace hBV := hBV.alloc hBV.size (.cells #[.slice none 0 0, .slice none 0 0, .slice none 0 0] 24); replace hS := box3_below ((Below.refl _ X1).alloc (Nat.le_refl _) (.cells #[.slice none 0 0, .slice none 0 0, .slice none 0 0] 24)) hS; replace hKW := hKW.alloc (.cells #[.slice none 0 0, .slice none 0 0, .slice none 0 0] 24)
      generalize X1.alloc (.cells #[.slice none 0 0, .slice none 0 0, .slice none 0 0] 24) = X2 at *; generalize X1.heap.size = b11 at *
      refine tr_make u4_3 (.pointer (some ⟨X2.heap.size, 0, none⟩)) (X2.alloc (.cells #[.slice none 0 0, .slice none 0 0, .slice none 0 0] 24)) (by kernel_rfl) rfl (by first | exact rfl | trivial) (by simp [go_sem, mkO, u4_3, hu24, hu22]) (box3_below ((Below.refl _ X2).alloc (Nat.le_refl _) (.cells #[.slice none 0 0, .slice none 0 0, .slice none 0 0] 24)) hS) ?_; simp only [u4_3, put_eq, List.set_cons_succ, List.set_cons_zero]
      have hb10 := Box3.new X2 24 (.slice none 0 0) (.slice none 0 0) (.slice none 0 0)
      have n12_10 : b12 ≠ X2.heap.size := fun e => by have := hb12.lt; omega
      replace hb12 := box3_below ((Below.refl _ X2).alloc (Nat.le_refl _) (.cells #[.slice none 0 0, .slice none 0 0, .slice none 0 0] 24)) hb12
      have n11_10 : b11 ≠ X2.heap.size := fun e => by have := hb11.lt; omega
      replace hb11 := box3_below ((Below.refl _ X2).alloc (Nat.le_refl _) (.cells #[.slice none 0 0, .slice none 0 0, .slice none 0 0] 24)) hb11
      have lo10 := hBV.size
      replace hBV := hBV.alloc hBV.size (.cells #[.slice none 0 0, .slice none 0 0, .slice none 0 0] 24); replace hS := box3_below ((Below.refl _ X2).alloc (Nat.le_refl _) (.cells #[.slice none 0 0, .slice none 0 0, .slice none 0 0] 24)) hS; replace hKW := hKW.alloc (.cells #[.slice none 0 0, .slice none 0 0, .slice none 0 0] 24)
      generalize X2.alloc (.cells #[.slice none 0 0, .slice none 0 0, .slice none 0 0] 24) = X3 at *; generalize X2.heap.size = b10 at *
      exact tu_4t (b9 := b9) hb10 hb11 hb12 lo10 lo11 lo12 n11_10.symm n12_10.symm n12_11.symm hBV hS h4 hKW hQn _ (by simp only [Slots, Fits, and_self])
end Go.Proofs.Ytafmgmaelnpehaa
end

section
set_option linter.unusedVariables false
set_option linter.unusedSimpArgs false
namespace Go.Proofs.Ytafmgmaelnpehaa
open Go.RowKit Go.TL Go.Shelf Go.Fu
attribute [local go_sem] Oper.semAt_some
open PFurrowAsks Go.Proofs.YtafmgmaelnpehaaW.PrintWords
set_option maxRecDepth 100000 in
set_option maxHeartbeats 2000000 in
theorem turns_any (F : Fur) (most by_ st_ : Int) (w : World) (h : F.At w) (hby : -128 ≤ by_ ∧ by_ ≤ 127) (hst : -128 ≤ st_ ∧ st_ ≤ 127) : Calls Try.prog 11 #[F.val, .int .i64 most, .int .i8 by_, .int .i8 st_] w fun e w' => e = .returned (.bool true) ∧ Below w.heap.size w w' := by
  refine calls_of_exec Try.func11 rfl ?_
  simp only [Try.ntmps11, List.size_toArray, List.length_cons, List.length_nil, Nat.reduceAdd, Nat.reduceSub, Array.replicate_succ, Array.replicate_zero, List.push_toArray, List.append_toArray, List.nil_append, List.cons_append]
  simp only [Fur.val]
  refine exec_seq (exec_region_o fun ds => ?_)
  gi_wp2
  refine eq_mk ((Keep.refl w).alloc _) ?_
  show Exec _ _ _ _ _ _
  have b1 := Box3.new w 24 F.s0 F.s1 F.s2
  have hB := (Below.refl w.heap.size w).alloc (Nat.le_refl _) (.cells #[F.s0, F.s1, F.s2] 24)
  generalize w.alloc (.cells #[F.s0, F.s1, F.s2] 24) = W0 at *
  have hF := h.below hB
  have c0 := b1.cell0
  have c1 := b1.cell1
  have c2 := b1.cell2
  simp only [Fur.s0, Fur.s1, Fur.s2] at c0 c1 c2
  obtain ⟨hv, hhv⟩ : ∃ b, heavyB F.l0 F.l1 F.l2 6 6 = b := ⟨_, rfl⟩
  have hvy := heavy_any F 6 6 W0 hF
  rw [hhv] at hvy
  clear hhv
  refine exec_seq (exec_seq (exec_region_o fun ds => ?_))
  cases hv with
  | true =>
    gi_wp2_with fail
    refine ⟨trivial, rfl, (callsIn_wide.2 hvy).mono ?_⟩
    rintro e X ⟨rfl, hx⟩
    replace hB := hB.trans (hx.mono hB.size)
    have hK := Keep.of_below hx
    clear hx hvy c0 c1 c2 b1 hF h
    gi_wp2_with fail
    refine ⟨trivial, ?_⟩
    gi_wp2
    refine eq_mk hK ?_
    show Exec _ _ _ _ _ _
    refine exec_cond (b := true) rfl (fun _ => ?_) (fun h => by cases h)
    refine exec_seq (exec_region_o fun ds => ?_)
    gi_wp2_with fail
    refine ⟨trivial, rfl, (callsIn_wide.2 (alive_any _)).mono ?_⟩
    rintro e Q ⟨rfl, hq⟩
    gi_wp2
    refine eq_mk (Keep.of_below hq) ?_
    show Exec _ _ _ _ _ _
    exact exec_ret ⟨.inr rfl, fun W' hG => ⟨.bool true, by simp [results, Try.f11, go_sem], rfl, (hB.trans (hq.mono hB.size)).trans (hG.below (Nat.le_refl _) (hB.trans (hq.mono hB.size)).size)⟩⟩
  | false =>
  cases hva : F.va with
  | false =>
    gi_wp2_with fail
    refine ⟨trivial, rfl, (callsIn_wide.2 hvy).mono ?_⟩
    rintro e X ⟨rfl, hx⟩
    replace hF := hF.below hx
    replace hB := hB.trans (hx.mono hB.size)
    replace b1 := box3_below hx b1
    have hK := Keep.of_below hx
    clear hx hvy c0 c1 c2 h
    have c0 := b1.cell0
    have c1 := b1.cell1
    have c2 := b1.cell2
    gi_wp2_with fail
    have hrf := refFurrow_c F X hF
    rw [hva] at hrf
    refine ⟨trivial, rfl, (callsIn_wide.2 hrf).mono ?_⟩
    rintro e Y ⟨rfl, hx⟩
    replace hB := hB.trans (hx.mono hB.size)
    replace hK := hK.trans (Keep.of_below hx)
    clear hx hrf c0 c1 c2 b1 hF
    gi_wp2
    refine eq_mk hK ?_
    show Exec _ _ _ _ _ _
    refine exec_cond (b := true) rfl (fun _ => ?_) (fun h => by cases h)
    refine exec_seq (exec_region_o fun ds => ?_)
    gi_wp2_with fail
    refine ⟨trivial, rfl, (callsIn_wide.2 (alive_any _)).mono ?_⟩
    rintro e Q ⟨rfl, hq⟩
    gi_wp2
    refine eq_mk (Keep.of_below hq) ?_
    show Exec _ _ _ _ _ _
    exact exec_ret ⟨.inr rfl, fun W' hG => ⟨.bool true, by simp [results, Try.f11, go_sem], rfl, (hB.trans (hq.mono hB.size)).trans (hG.below (Nat.le_refl _) (hB.trans (hq.mono hB.size)).size)⟩⟩
  | true =>
  have HV := Lib.hid hva
  clear hva
  gi_wp2_with fail
  refine ⟨trivial, rfl, (callsIn_wide.2 hvy).mono ?_⟩
  rintro e X ⟨rfl, hx⟩
  replace hF := hF.below hx
  replace hB := hB.trans (hx.mono hB.size)
  replace b1 := box3_below hx b1
  have hK := Keep.of_below hx
  clear hx hvy c0 c1 c2
  have c0 := b1.cell0
  have c1 := b1.cell1
  have c2 := b1.cell2
  gi_wp2_with fail
  have hrf := refFurrow_c F X hF
  rw [HV.out] at hrf
  refine ⟨trivial, rfl, (callsIn_wide.2 hrf).mono ?_⟩
  rintro e Y ⟨rfl, hx⟩
  replace hF := hF.below hx
  replace hB := hB.trans (hx.mono hB.size)
  replace b1 := box3_below hx b1
  replace hK := hK.trans (Keep.of_below hx)
  clear hx hrf c0 c1 c2
  gi_wp2
  refine eq_mk hK ?_
  show Exec _ _ _ _ _ _
  clear hK
  clear W0 X
  refine exec_cond (b := false) rfl (fun h => by cases h) (fun _ => exec_skip ?_)
  show Exec _ _ _ _ _ _
  have c0 := b1.cell0
  simp only [Fur.s0] at c0
  refine exec_seq (exec_region_o fun ds => ?_)
  gi_wp2
  refine eq_mk ((Keep.refl _).alloc _) ?_
  show Exec _ _ _ _ _ _
  clear c0
  have h9 := Boxed.new Y 3 (.int .i64 ((F.l0.length : Nat) : Int))
  have ha := (Below.refl Y.heap.size Y).alloc (Nat.le_refl _) (.cells #[.int .i64 ((F.l0.length : Nat) : Int)] 3)
  have h49 : w.heap.size ≠ Y.heap.size := fun e => by have := b1.lt; omega
  have l9 := hB.size
  replace b1 := box3_below ha b1
  replace hB := hB.trans (ha.mono hB.size)
  have hsz : Y.heap.size < (Y.alloc (.cells #[.int .i64 ((F.l0.length : Nat) : Int)] 3)).heap.size := h9.lt
  clear hF ha
  generalize Y.alloc (.cells #[.int .i64 ((F.l0.length : Nat) : Int)] 3) = V at *
  generalize Y.heap.size = b9 at *
  clear Y
  refine exec_seq ((tu_4 (b9 := b9) (most := most) (by_ := by_) (st_ := st_) b1 _ (by simp only [Slots, Fits, and_self])).mono ?_)
  intro e t' X hh
  obtain ⟨rfl, b10, b11, b12, lo10, lo11, lo12, n1, n2, n3, hx, hb10, hb11, hb12, hSl⟩ := only_normal hh
  clear hh
  obtain ⟨x, hx⟩ := Slots.open_ hSl; simp only [fill, Nat.reduceAdd] at hx; subst hx; clear hSl
  show Exec _ _ _ _ _ _
  replace h9 : Boxed X b9 3 (.int .i64 ((F.l0.length : Nat) : Int)) := (hx.block _ hsz).trans h9
  have b4lt := b1.lt
  replace b1 := box3_below hx b1
  replace hB := hB.trans (hx.mono hB.size)
  clear hx
  have x0 := hb10.cell0
  have x1 := box3_frozen hb10 0
  have y0 := hb11.cell0
  have y1 := box3_frozen hb11 0
  have y0' : (X.setCell ⟨b10, 0, none⟩ (.slice none 0 0)).cell? ⟨b11, 0, none⟩ = some F.s0 := (World.cell?_of_block (Below.heap_setCell X _ _ _ (by show b11 ≠ b10; omega))).trans y0
  have y1' : (X.setCell ⟨b10, 0, none⟩ (.slice none 0 0)).frozen? ⟨b11, 0, none⟩ = false := (World.frozen?_of_block (Below.heap_setCell X _ _ _ (by show b11 ≠ b10; omega))).trans y1
  refine exec_seq (exec_region_o fun ds => ?_)
  gi_wp2
  refine eq_mk (((Keep.refl _).setCell _ _).setCell _ _) ?_
  show Exec _ _ _ _ _ _
  clear x0 x1 y0 y1 y0' y1'
  have hC : TuC w w.heap.size b9 b10 b11 b12 X.heap.size := ⟨⟨Nat.le_refl _, l9, by omega, by omega, by omega⟩, ⟨by have := b1.lt; omega, h9.lt, hb10.lt, hb11.lt, hb12.lt⟩, ⟨h49, by omega, by omega, by omega, by omega, by omega, by omega, n1, n2, n3⟩⟩
  have hT0 : TuS F w w.heap.size b9 b10 b11 b12 X.heap.size F.s0 F.s0 (.slice none 0 0) (.slice none 0 0) (.slice none 0 0) (fun _ => .slice none 0 0) (lxs F by_ st_ 0) X :=
    ⟨hB, b1, h9, hb10, hb11, hb12, (RowsQ.start X X.heap.size 5).congr (fun q hq => by match q, hq with | 0, _ => rfl | 1, _ => rfl | 2, _ => rfl | 3, _ => rfl | 4, _ => rfl), Nat.le_refl _⟩
  have hT := (hT0.setx hC (.slice none 0 0)).sety hC (.slice none 0 0)
  clear hT0 hB b1 h9 hb10 hb11 hb12 lo10 lo11 lo12 n1 n2 n3 hsz l9 h49 b4lt
  obtain ⟨B, hBe⟩ : ∃ B, X.heap.size = B := ⟨_, rfl⟩
  rw [hBe] at hC hT
  clear hBe
  generalize (X.setCell ⟨b10, 0, none⟩ (.slice none 0 0)).setCell ⟨b11, 0, none⟩ (.slice none 0 0) = Z at *
  clear X
  clear V
  have c0 := hT.f.cell0
  simp only [Fur.s0] at c0
  refine exec_seq (exec_seq (exec_region_o fun ds => ?_))
  gi_wp2
  refine eq_mk (Keep.refl _) ?_
  show Exec _ _ _ _ _ _
  clear c0
  refine (ng_loop (v0 := fun _ => .slice none 0 0) (most := most) (by_ := by_) (st_ := st_) hC h HV.out hby hst hT _ (by simp only [Slots, Fits, and_self])).mono ?_
  intro e t' Y hh
  obtain ⟨rfl, v, hT2, hSl⟩ := only_normal hh
  clear hh hT x
  clear Z
  obtain ⟨x, hx⟩ := Slots.open_ hSl; simp only [fill, Nat.reduceAdd] at hx; subst hx; clear hSl
  show Exec _ _ _ _ _ _
  have hT := hT2
  clear hT2
  have c0 := hT.f.cell0
  simp only [Fur.s0] at c0
  have h8 := Fur.le8 HV.out
  refine exec_cut (fun t' W' => Below Y.heap.size Y W' ∧ ∃ ak c16, Row W' (some ak) F.l0 ∧ Slots (none :: some (.int .i64 most) :: none :: none :: some (.pointer (some ⟨w.heap.size, 0, none⟩)) :: o4 (some (.pointer (some ⟨b9, 0, none⟩)) :: some (.pointer (some ⟨b10, 0, none⟩)) :: some (.pointer (some ⟨b11, 0, none⟩)) :: some (.pointer (some ⟨b12, 0, none⟩)) :: none :: none :: none :: some (.slice (some ak) F.l0.length c16) :: none :: o4 (o4 (o4 (o16 (o16 (o64 (o64 (o64 (o64 (o64 []))))))))))) t') ?_ ?_
  · have hFY := h.below hT.below
    cases hA : F.A0 with
    | none =>
      have hn1 : F.l0 = [] := by
        rcases Nat.eq_zero_or_pos F.l0.length with e | e
        · exact List.length_eq_zero_iff.1 e
        · obtain ⟨ad, ha, _⟩ := at_T28 h.r0 0 (by omega) (by omega)
          rw [hA] at ha
          cases ha
      have hn0 : F.l0.length = 0 := by rw [hn1]; rfl
      rw [hA, hn0] at c0
      rw [hn0]
      have k0 := (Grow.alloc 0 Y (.cells #[] 28)).cell c0
      refine exec_region_o fun ds => ?_
      gi_wp2
      have hown : (Y.alloc (.cells #[] 28)).ownsRow Y.heap.size 28 2 (.slice (some ⟨Y.heap.size, 0, none⟩) 0 0) 0 [] := World.ownsRow_made Y #[] 0 (Nat.le_refl _) (by unfold maxLen; omega) rfl
      obtain ⟨A', c', e, _, hR⟩ := Kd.R_reads (own_R28m (l := []) hown)
      cases e
      rw [hn1]
      exact eq_mk ((Keep.refl _).alloc _) ⟨(Below.refl _ Y).alloc (Nat.le_refl _) _, _, 0, hR, (by simp only [Slots, Fits, and_self])⟩
    | some ad =>
      rw [hA] at c0
      have k0 := (Grow.alloc 0 Y (.cells #[] 28)).cell c0
      obtain ⟨ak, c16, W', hr, hR, hb, hk⟩ := keep_app hFY hA h8
      refine exec_region_o fun ds => ?_
      gi_wp2_with (gi_at_builtin; refine wpListIn_app rfl _ _ 22 rfl rfl rfl hr ?_)
      exact eq_mk hk ⟨hb, ak, c16, hR, (by simp only [Slots, Fits, and_self])⟩
  rintro t' W' ⟨hb, ak, c16, hR, hSl⟩
  clear x c0
  have hT := hT.belowed hb
  clear hb
  obtain ⟨x, hx⟩ := Slots.open_ hSl; simp only [fill, Nat.reduceAdd] at hx; subst hx; clear hSl
  show Exec _ _ _ _ _ _
  refine exec_seq (exec_region_o fun ds => ?_)
  gi_wp2
  refine eq_mk (Keep.refl _) ?_
  show Exec _ _ _ _ _ _
  refine nx_tail (by_ := by_) (st_ := st_) (most := most) (c16 := c16) h HV.out hT hR _ ?_
  exact (by simp only [Slots, Fits, and_self])
end Go.Proofs.Ytafmgmaelnpehaa
end

section
set_option linter.unusedVariables false
namespace Go.Proofs.Ytafmgmaelnpehaa
open Go.ChangeShapes Go.WideShapes Go.RowKit Go.Joins Go.Deep PFurrowAsks Go.Proofs.YtafmgmaelnpehaaW.PrintWords
section
variable {H : Type} {enc : TypeId × Value → H} {w : World}
theorem row_open {n : Nat} {v : Value} {y : DataW H × List MemPlace} (h : DataW.trod enc Try.prog w 0 (fun _ => true) true n 22 [v] = some y) : ∃ A c l, v = .slice A (l : List S28).length c ∧ l.length ≤ c ∧ Row w A l := by
  rcases open_slice_pairs Try.underlying22 Try.underlying28 (by kernel_rfl) rfl rfl (by kernel_rfl) (by kernel_rfl) h with ⟨hcs, _⟩ | ⟨a, len, cap, m, n', V0, V1, D0, D1, P0, P1, hcs, _, hl, hm, hmm, _, hi⟩
  · simp only [List.cons.injEq, and_true] at hcs
    exact ⟨none, 0, [], hcs, Nat.le_refl _, rfl, by simp, fun hp => by simp at hp⟩
  · simp only [List.cons.injEq, and_true] at hcs
    have hlm : len ≤ m := by rw [hmm]; split <;> omega
    have each : ∀ i, i < len → ∃ x : S28, w.cell? (a.add (i * 2)) = some (.int .i64 x.f0) ∧ w.cell? (a.add (i * 2 + 1)) = some (.int .i64 x.f1) := by
      intro i hi'
      obtain ⟨c0, c1, t0, t1⟩ := hi i (by omega)
      obtain ⟨x, e0, _, _⟩ := DataW.trod_int Try.underlying3 t0
      obtain ⟨z, e1, _, _⟩ := DataW.trod_int Try.underlying3 t1
      simp only [List.cons.injEq, and_true] at e0 e1
      exact ⟨⟨x, z⟩, by rw [c0, e0], by rw [c1, e1]⟩
    have hex : ∃ l : List S28, l.length = len ∧ ∀ i p, l[i]? = some p → w.cell? (a.add (i * 2)) = some (.int .i64 p.f0) ∧ w.cell? (a.add (i * 2 + 1)) = some (.int .i64 p.f1) := by
      have go : ∀ k, k ≤ len → ∃ l : List S28, l.length = k ∧ ∀ i p, l[i]? = some p → w.cell? (a.add (i * 2)) = some (.int .i64 p.f0) ∧ w.cell? (a.add (i * 2 + 1)) = some (.int .i64 p.f1) := by
        intro k
        induction k with
        | zero => exact fun _ => ⟨[], rfl, fun i p hp => by simp at hp⟩
        | succ k ih =>
          intro hk
          obtain ⟨l, hl1, hl2⟩ := ih (by omega)
          obtain ⟨x, h1, h2⟩ := each k (by omega)
          refine ⟨l ++ [x], by simp [hl1], fun i p hp => ?_⟩
          rcases Nat.lt_or_ge i l.length with hlt | hge
          · rw [List.getElem?_append_left hlt] at hp
            exact hl2 i p hp
          · rw [List.getElem?_append_right hge] at hp
            have hi0 : i - l.length = 0 := by
              rcases Nat.eq_zero_or_pos (i - l.length) with h0 | h0
              · exact h0
              · obtain ⟨q, hq⟩ : ∃ q, i - l.length = q + 1 := ⟨i - l.length - 1, by omega⟩
                rw [hq] at hp
                simp at hp
            rw [hi0] at hp
            simp only [List.getElem?_cons_zero, Option.some.injEq] at hp
            subst hp
            obtain rfl : i = k := by omega
            exact ⟨h1, h2⟩
      exact go len (Nat.le_refl _)
    obtain ⟨l, hl1, hl2⟩ := hex
    refine ⟨some a, cap, l, by rw [hcs, hl1], by omega, rfl, by unfold maxLen at hm; omega, fun hp => ⟨a, rfl, fun j p hp => ?_⟩⟩
    obtain ⟨h1, h2⟩ := hl2 j p hp
    refine ⟨[.int .i64 p.f0, .int .i64 p.f1], rfl, k28_mk w p, fun i u hu => ?_⟩
    match i, hu with
    | 0, hu => simp at hu; subst hu; exact h1
    | 1, hu => simp at hu; subst hu; exact h2
    | i + 2, hu => simp at hu
set_option maxRecDepth 100000 in
theorem fur_open {r : Reach} {b0 : Nat} {v : Value} {d : DataW H} {p : List MemPlace} (hv : Value.okWide Try.prog w r b0 24 v) (h : DataW.Trod enc Try.prog w 0 (fun _ => true) true 24 v d p) : ∃ F : Fur, v = F.val ∧ F.At w := by
  obtain ⟨v0, v1, v2, y0, y1, y2, n, rfl, _, _, h0, h1, h2⟩ := open_agg3 Try.underlying24 (by kernel_rfl) (by kernel_rfl) hv h
  obtain ⟨A0, c0, l0, rfl, g0, r0⟩ := row_open h0
  obtain ⟨A1, c1, l1, rfl, g1, r1⟩ := row_open h1
  obtain ⟨A2, c2, l2, rfl, g2, r2⟩ := row_open h2
  exact ⟨⟨A0, c0, l0, A1, c1, l1, A2, c2, l2⟩, rfl, ⟨r0, g0, r1, g1, r2, g2⟩⟩
end
end Go.Proofs.Ytafmgmaelnpehaa
end

section
namespace Go.Proofs.Ytafmgmaelnpehaa
open Go.RowKit Go.TL Go.Fu PFurrowAsks Go.Proofs.YtafmgmaelnpehaaW.PrintWords in
theorem turned_row (F : Fur) (most bt st : Int) (w : World) (h : F.At w) (hb : (Lit.int .i8 bt).wf = true) (hs : (Lit.int .i8 st).wf = true) :
    Calls Try.prog 11 #[F.val, .int .i64 most, .int .i8 bt, .int .i8 st] w fun e w' => e = .returned (.bool true) ∧ Below w.heap.size w w' := turns_any F most bt st w h (bounds_i8 hb) (bounds_i8 hs)
end Go.Proofs.Ytafmgmaelnpehaa
namespace Go.Proofs.Ytafmgmaelnpehaa.furrowTurned
open Go.ChangeShapes Go.WideShapes Go.ChangeAt Go.RowKit
open Go.ChangeMaps (open_string shut_string)
set_option linter.unusedVariables false
theorem own : ownKnob Try.prog.godebug = none := by kernel_rfl
theorem laidOut : laidOutB Try.prog = true := by kernel_rfl
set_option maxRecDepth 100000 in
theorem lifted (os : Os) (started : os.Started) (H : Type) (enc : TypeId × Value → H) :
    ReturnsInHanded {} Try.checked os 11 .any (Rows.furrowTurnedSpec.pre6 enc Try.prog Try.f11 Rows.furrowTurnedRow.domain false) (Rows.furrowTurnedSpec.post enc Try.prog Try.f11 false true false false) := by
  refine returnsInHanded_of_change_sized (C := Try.checked) own started (by kernel_rfl) Try.func11
    (ChangeSpec.witness6 (enc := enc) (C := Try.checked) false ⟨#[], #[.agg #[.slice none 0 0, .slice none 0 0, .slice none 0 0], .int .i64 0, .int .i8 0, .int .i8 0], []⟩ 8 (by kernel_rfl) (by kernel_rfl) (by kernel_rfl) (by kernel_rfl)) ?_
  intro W base args ds gs before hval0 hW hcnd hsz0 _
  have hsz : (DataW.weightsEach Try.prog (Try.f11.params.toList ++ Rows.furrowTurnedSpec.plain.varTypes Try.prog) (ds ++ gs)).all (· ≤ reachBytes) = true := hsz0
  have hval : ∀ (j : Nat) t v, Try.f11.params[j]? = some t → args[j]? = some v → Value.okWide Try.prog W .any base t v := hval0
  have hW' := hW
  obtain ⟨p, q, hA0, hV, rfl, hfz, hnd⟩ := hW
  have hA : DataW.TrodAll enc Try.prog W 0 (fun _ => true) true Try.f11.params.toList args.toList ds p := hA0
  rw [Try.params11] at hA hval hsz
  obtain ⟨v0, vs0, d0, ds0, p0, q0, hargs, rfl, rfl, h0, r0⟩ := trodAll_cons hA
  obtain ⟨v1, vs1, d1, ds1, p1, q1, rfl, rfl, rfl, h1, r1⟩ := trodAll_cons r0
  obtain ⟨v2, vs2, d2, ds2, p2, q2, rfl, rfl, rfl, h2, r2⟩ := trodAll_cons r1
  obtain ⟨v3, vs3, d3, ds3, p3, q3, rfl, rfl, rfl, h3, r3⟩ := trodAll_cons r2
  obtain ⟨rfl, rfl, rfl⟩ := trodAll_nil r3
  obtain rfl : args = #[v0, v1, v2, v3] := by cases args; simp_all
  obtain ⟨rfl, rfl⟩ := trodVars_none hV
  have k0 := h0
  have lt0 : ∀ x ∈ p0, x.block < W.heap.size := by obtain ⟨m, hm⟩ := k0; exact DataW.trod_lt m _ _ _ hm
  obtain ⟨F0, rfl, hF0⟩ := fur_open (hval 0 24 v0 rfl rfl) h0
  obtain ⟨a1, rfl, rfl, rfl, w1⟩ := open_int Try.underlying3 (hval 1 3 v1 rfl rfl) h1
  obtain ⟨a2, rfl, rfl, rfl, w2⟩ := open_int Try.underlying61 (hval 2 61 v2 rfl rfl) h2
  obtain ⟨a3, rfl, rfl, rfl, w3⟩ := open_int Try.underlying61 (hval 3 61 v3 rfl rfl) h3
  clear hA0 hval0 hsz0 hsz
  refine (turned_row F0 a1 a2 a3 W hF0 w2 w3).mono fun e W' ⟨he, bel⟩ => ?_
  subst he
  exact ⟨_, rfl, _, _, _, [], _, [], hW', trodAll_mk1 (shut_bool Try.underlying4 _), (trodAll_cons_mk (Below.trod laidOut (by kernel_rfl) (of_decide_eq_true (by kernel_rfl)) k0 bel lt0) (trodAll_cons_mk (shut_int Try.underlying3 w1) (trodAll_cons_mk (shut_int Try.underlying61 w2) (trodAll_cons_mk (shut_int Try.underlying61 w3) trodAll_mk0)))), rfl, bel.frame _, fun h => by cases h⟩
theorem over : Rows.furrowTurnedRow.holds Try.pinned (OpenSpec.ofChange Rows.furrowTurnedSpec) :=
  OpenClaim.holds_of_wide 11 Try.f11 rfl rfl rfl rfl rfl rfl rfl ⟨rfl, rfl, rfl, rfl, rfl⟩ rfl rfl rfl rfl rfl (by kernel_rfl) Try.func11 (by kernel_rfl)
    (of_decide_eq_true (by kernel_rfl)) (by unfold Func.isWrapper; first | (rw [if_pos (by decide +kernel)]; kernel_rfl) | (rw [if_neg (by decide +kernel)]; exact ⟨rfl, rfl⟩))
    (fun os started H enc _ => lifted os started H enc)
theorem proved : Rows.FurrowTurnedSaid := over
#print axioms proved
end Go.Proofs.Ytafmgmaelnpehaa.furrowTurned
namespace Go.Proofs.Ytafmgmaelnpehaa
/-- The row, under a short name, for the claim. -/
theorem furrowTurned_holds : Rows.FurrowTurnedSaid := furrowTurned.proved
end Go.Proofs.Ytafmgmaelnpehaa
end
