/- Parts of the proof: Panels: one entry is counted on. Panels: the ways are gone through. Panels: plot by plot the ways are counted. Panels: all ways are added up. Panels: how many seatings there are. Panels: two rows are compared. Panels: the chapter's examples. Panels: the examples hold. Panels: small things of the document. Panels: whether panels are valid, by the document. Panels: too much to be gone through. Panels: kin and size, by the document. Panels: the document: powers, sets. Panels: blocks that are kept in view; rows that are copied by append. Panels: pairs that are left out, by the law. Panels: whether there is a seating with pairs left out; the least set. Panels: what must be waived: the law's walk. Panels: some plots alone, by the law. Panels: what the plots that go short are. Panels: what a seating must be like. Panels: what must be waived: the law. Panels: numbered otherwise: the plain law. P -/
import Derived.Test.YtbdmmikflkpmpaaProg
import Derived.Test.YtbdmmikflkpmpaaFI1
import Derived.Test.YtbdmmikflkpmpaaFI3
import Derived.Maps.AppendAt
import Derived.Test.YtbdmmikflkpmpaaFI2
import Derived.WalkKit
import Derived.WalkSpells
import Derived.WalkLawsBesides
import Derived.Outline
import Derived.OwnWalkIn
import Derived.TacticsInMore
import Derived.LoopNIn
import Derived.LoopIn
import Derived.Shelf.RegionOpen
import Derived.Deep.QuietTactic
import Derived.BigQuiet
import Derived.Lib.Hide
import Derived.Deep.Upon
import Derived.ArgAppend
set_option linter.unusedVariables false
set_option linter.unusedSimpArgs false
section
namespace Go.Proofs.Ytbdmmikflkpmpaa
open Go.RowKit Go.TL Go.Shelf Go.Pn
attribute [local go_sem] Oper.semAt_some
attribute [local go_sem] run_store_func
noncomputable abbrev centry : Code := sub ccode [1, 1, 1, 1, 1, 1, 1, 0, 1, 0, 0, 1, 1, 0, 0, 1, 1, 0, 1, 0, 0, 1, 1, 0]
theorem grown_iter {W W' : World} {it bw bn : Nat} {l : List (A6 × Value)} (h : IterR encA W it bw l) (hg : W.grownBy W' (some bn)) (h1 : it ≠ bn) (h2 : bw ≠ bn) : IterR encA W' it bw l := by
  obtain ⟨es, clock, since, seen, c0, a, b, _⟩ := id h
  exact h.kept (hg.block _ (heap_lt a) (fun e => h2 (Option.some.inj e))) (hg.block _ (heap_lt b) (fun e => h1 (Option.some.inj e)))
def CsI (V2 : World) (bn : Nat) (kdf f : Nat) (x : A6) (ln : LW) (pp b10 i kd m N : Nat) (u1 u2 u3 u6 u30 u31 u39 : Value) (n : Nat) (t : Array Value) (W : World) : Prop :=
  ∃ s : Nat, s ≤ N ∧ n = N - s ∧ V2.grownBy W (some bn) ∧ MapR encA okA W bn (lwV (setsTo kd f x m ln s)) ∧ Slots (none :: some (u1) :: some (u2) :: some (u3) :: some (.pointer (some ⟨pp, 0, none⟩)) :: none :: some (u6) :: some (iv i) :: some (iv kd) :: some (.map (some bn)) :: some (.pointer (some ⟨b10, 0, none⟩)) :: some (iv m) :: none :: none :: o16 (some (u30) :: some (u31) :: some (iv i) :: none :: none :: o4 (some (u39) :: o4 (o4 (some (u64 N) :: some (u64 s) :: none :: o4 (o4 (o4 (o16 (o16 []))))))))) t
def CsE (V2 : World) (bn : Nat) (f : Nat) (x : A6) (ln : LW) (pp i kd m N : Nat) (u1 u2 u3 u6 u30 u31 u39 : Value) (t : Array Value) (W : World) : Prop :=
  V2.grownBy W (some bn) ∧ MapR encA okA W bn (lwV (setsTo kd f x m ln N)) ∧ Slots (none :: some (u1) :: some (u2) :: some (u3) :: some (.pointer (some ⟨pp, 0, none⟩)) :: none :: some (u6) :: some (iv i) :: some (iv kd) :: some (.map (some bn)) :: o4 (o16 (some (u30) :: some (u31) :: some (iv i) :: none :: none :: o4 (some (u39) :: none :: none :: none :: o4 (o16 (o16 (o16 []))))))) t
set_option maxRecDepth 100000 in
set_option maxHeartbeats 2000000 in
theorem cnt_sets {V0 : World} {pp : Nat} {P : Pnl} {mm : PM} (hP : PnlAt V0 pp P mm) {V2 : World} (hV : Below V0.heap.size V0 V2) {bn b10 : Nat} (hbn : V0.heap.size ≤ bn) {xk : A6} (hx : okA xk) (h10 : V2.heap[b10]? = some (.cells (xk.1.map iv).toArray 88 (0, 0))) (hne : b10 ≠ bn) {ln : LW} (hM : MapR encA okA V2 bn (lwV ln)) {i kd m N : Nat} (hi : i < P.needs.length) (hN : N ≤ 64) (hb : wsum (fun _ => 1) ln + 65 * m < 2 ^ 59)
    {u1 u2 u3 u6 u30 u31 u39 : Value} {t : Array Value} {s : Nat} (hs0 : s = 0) (hSl : Slots (none :: some (u1) :: some (u2) :: some (u3) :: some (.pointer (some ⟨pp, 0, none⟩)) :: none :: some (u6) :: some (iv i) :: some (iv kd) :: some (.map (some bn)) :: some (.pointer (some ⟨b10, 0, none⟩)) :: some (iv m) :: none :: none :: o16 (some (u30) :: some (u31) :: some (iv i) :: none :: none :: o4 (some (u39) :: o4 (o4 (some (u64 N) :: some (u64 s) :: none :: o4 (o4 (o4 (o16 (o16 []))))))))) t) :
    Exec Try.prog none (sub centry [1, 1]) t V2 (andThen (CsE V2 bn (P.fit.getD i 0) xk ln pp i kd m N u1 u2 u3 u6 u30 u31 u39) fun _ _ _ => False) := by
  subst hs0
  obtain ⟨f, hfe⟩ : ∃ f, P.fit.getD i 0 = f := ⟨_, rfl⟩
  rw [hfe]
  have hn := map_nodup hM
  show Exec _ _ (Code.block _ _) _ _ _
  refine exec_block ?_
  refine exec_loop (CsI V2 bn kd f xk ln pp b10 i kd m N u1 u2 u3 u6 u30 u31 u39) N ⟨0, by omega, rfl, ⟨rfl, rfl, rfl, Nat.le_refl _, fun _ _ _ => rfl⟩, hM, hSl⟩ ?_
  clear hSl hM t
  rintro n t W ⟨s, hsN, hnn, hg, hM, hSl⟩
  have hle := setsTo_le (k := kd) (f := f) (x := xk) (m := m) hn s
  have hsm : s * m ≤ 64 * m := Nat.mul_le_mul_right m (by omega)
  have hsucc : setsTo kd f xk m ln (s + 1) = cntS kd f xk m (setsTo kd f xk m ln s) s := rfl
  have hend : s = N → setsTo kd f xk m ln s = setsTo kd f xk m ln N := fun e => by rw [e]
  have hbe : Below V0.heap.size V0 W := hV.grown hg hV.size (fun q e => by cases e; exact hbn)
  have h10W : W.heap[b10]? = some (.cells (xk.1.map iv).toArray 88 (0, 0)) := (hg.block _ (heap_lt h10) (fun e => hne (Option.some.inj e))).trans h10
  obtain ⟨x, hx⟩ := Slots.open_ hSl; simp only [fill, Nat.reduceAdd] at hx; subst hx; clear hSl
  show Exec _ _ (Code.seq _ (Code.seq _ _)) _ _ _
  refine exec_seq (exec_region_o fun ds => ?_)
  gi_wp2
  refine eq_mk (Keep.refl _) ?_
  show Exec _ _ (Code.seq (Code.cond _ _ _) _) _ _ _
  refine exec_seq (exec_cond (b := decide (s < N)) (by first | rfl | (show Value.bool _ = _; congr 1; exact decide_eq_decide.2 (by omega))) (fun hp => exec_skip ?_) (fun hp => exec_exit ?_))
  · have hsl : s < N := by have := of_decide_eq_true hp; omega
    show Exec _ _ (Code.seq (Code.block _ _) _) _ _ _
    refine exec_seq (exec_block ?_)
    show Exec _ _ cround _ _ _
    refine cnt_round (x := xk) (b10 := b10) (ln := setsTo kd f xk m ln s) (m := m) (kd := kd) (N := N) (s := s) (i := i) (u1 := u1) (u2 := u2) (u3 := u3) (u6 := u6) (u30 := u30) (u31 := u31) (u39 := u39) hP hbe hbn hx h10W hne hM hi (by omega) (by omega) (by simp [Slots, Fits]) ?_
    rintro e t W' he hg' hM' hSl'
    rw [hfe, ← hsucc] at hM'
    have hgA := hg.trans hg'
    have hfin : ∀ t' : Array Value, Slots (none :: some (u1) :: some (u2) :: some (u3) :: some (.pointer (some ⟨pp, 0, none⟩)) :: none :: some (u6) :: some (iv i) :: some (iv kd) :: some (.map (some bn)) :: some (.pointer (some ⟨b10, 0, none⟩)) :: some (iv m) :: none :: none :: o16 (some (u30) :: some (u31) :: some (iv i) :: none :: none :: o4 (some (u39) :: o4 (o4 (some (u64 N) :: some (u64 s) :: none :: o4 (o4 (o4 (o16 (o16 []))))))))) t' → Exec Try.prog none (sub ccode [1, 1, 1, 1, 1, 1, 1, 0, 1, 0, 0, 1, 1, 0, 0, 1, 1, 0, 1, 0, 0, 1, 1, 0, 1, 1, 0, 0, 1, 1, 1]) t' W' (andThen (fun t' W' => ∃ m_1, m_1 < N - s ∧ CsI V2 bn kd f xk ln pp b10 i kd m N u1 u2 u3 u6 u30 u31 u39 m_1 t' W') (inBlk 4 (andThen (CsE V2 bn f xk ln pp i kd m N u1 u2 u3 u6 u30 u31 u39) fun _ _ _ => False))) := fun t' hS' => by
      have hH := Lib.hid hM'
      clear hM' hM hsucc hend hle
      obtain ⟨x, hx⟩ := Slots.open_ hS'; simp only [fill, Nat.reduceAdd] at hx; subst hx; clear hS'
      have hw : IntKind.u64.wrap ((s : Int) + 1) = ((s + 1 : Nat) : Int) := by rw [wrapu _ (by omega) (by omega)]; norm_cast
      show Exec _ _ (Code.region _ _ _) _ _ _
      refine exec_region_o fun ds => ?_
      gi_wp2
      exact eq_mk (Keep.refl _) ⟨N - s - 1, by omega, s + 1, by omega, by omega, hgA, hH.out, by simp only [Slots, Fits, and_self]; simp⟩
    rcases he with rfl | rfl
    · exact hfin _ hSl'
    · exact hfin _ hSl'
  · have hsl : s = N := by have := of_decide_eq_false hp; omega
    rw [hend hsl] at hM
    exact ⟨hg, hM, by simp [Slots, Fits]⟩
end Go.Proofs.Ytbdmmikflkpmpaa
end

section
namespace Go.Proofs.Ytbdmmikflkpmpaa
open Go.RowKit Go.TL Go.Shelf Go.Pn
attribute [local go_sem] Oper.semAt_some
attribute [local go_sem] run_store_func
set_option maxRecDepth 100000 in
set_option maxHeartbeats 2000000 in
theorem cnt_entry {V0 : World} {pp : Nat} {P : Pnl} {mm : PM} (hP : PnlAt V0 pp P mm) {W : World} (hV : Below V0.heap.size V0 W) {bn it b nL cL : Nat} {AL : Option Addr} (hbn : V0.heap.size ≤ bn) (hcL : W.cell? ⟨b, 0, none⟩ = some (.slice AL nL cL)) (hnL : nL ≤ 6) {xk : A6} (hx : okA xk) {ln : LW} (hM : MapR encA okA W bn (lwV ln)) {i kd m : Nat} (hi : i < P.needs.length) (hb : wsum (fun _ => 1) ln + 65 * m < 2 ^ 59)
    (hen : (Instr.entry (.pointer (some ⟨it, 0, none⟩))).run Try.prog W = .ok (.tuple #[encA xk, iv m]) W) {u2 u3 u6 u30 u31 : Value} {t : Array Value} (hSl : Slots (none :: some (.pointer (some ⟨b, 0, none⟩)) :: some (u2) :: some (u3) :: some (.pointer (some ⟨pp, 0, none⟩)) :: none :: some (u6) :: some (iv i) :: some (iv kd) :: some (.map (some bn)) :: o4 (o16 (some (u30) :: some (u31) :: some (iv i) :: none :: none :: o4 (some (.pointer (some ⟨it, 0, none⟩)) :: none :: none :: none :: o4 (o16 (o16 (o16 []))))))) t) :
    Exec Try.prog none centry t W (andThen (CsE W bn (P.fit.getD i 0) xk ln pp i kd m (2 ^ nL) (.pointer (some ⟨b, 0, none⟩)) u2 u3 u6 u30 u31 (.pointer (some ⟨it, 0, none⟩))) fun _ _ _ => False) := by
  have hu25 := Try.underlying25
  have hu88 := Try.underlying88
  obtain ⟨l, hl⟩ := xk
  obtain ⟨x0, x1, x2, x3, x4, x5, rfl⟩ := six hl
  obtain ⟨X6, hX6⟩ : ∃ X6 : A6, X6 = ⟨[x0, x1, x2, x3, x4, x5], hl⟩ := ⟨_, rfl⟩
  have hval : X6.1 = [x0, x1, x2, x3, x4, x5] := by rw [hX6]
  rw [← hX6] at hx ⊢
  replace hen : (Instr.entry (.pointer (some ⟨it, 0, none⟩))).run Try.prog W = .ok (.tuple #[.agg #[iv x0, iv x1, iv x2, iv x3, iv x4, iv x5], iv m]) W := hen
  clear hX6
  obtain ⟨f, hfe⟩ : ∃ f, P.fit.getD i 0 = f := ⟨_, rfl⟩
  obtain ⟨Q, hQ⟩ : ∃ Q, (andThen (CsE W bn (P.fit.getD i 0) X6 ln pp i kd m (2 ^ nL) (.pointer (some ⟨b, 0, none⟩)) u2 u3 u6 u30 u31 (.pointer (some ⟨it, 0, none⟩))) fun _ _ _ => False) = Q := ⟨_, rfl⟩
  rw [hQ]
  have HQ := Lib.hid hQ
  clear hQ hfe
  obtain ⟨x, hx⟩ := Slots.open_ hSl; simp only [fill, Nat.reduceAdd] at hx; subst hx; clear hSl
  show Exec _ _ (Code.seq _ (Code.seq _ _)) _ _ _
  refine exec_seq (exec_region_o fun ds => ?_)
  gi_wp2
  refine eq_mk ((Keep.refl _).alloc _) ?_
  show Exec _ _ (Code.seq _ _) _ (W.alloc (.cells #[iv x0, iv x1, iv x2, iv x3, iv x4, iv x5] 88)) _
  have hal := (Below.refl W.heap.size W).alloc (Nat.le_refl _) (.cells #[iv x0, iv x1, iv x2, iv x3, iv x4, iv x5] 88)
  have h10 : (W.alloc (.cells #[iv x0, iv x1, iv x2, iv x3, iv x4, iv x5] 88)).heap[W.heap.size]? = some (.cells #[iv x0, iv x1, iv x2, iv x3, iv x4, iv x5] 88 (0, 0)) := World.alloc_heap_new _ _
  have hMX : MapR encA okA (W.alloc (.cells #[iv x0, iv x1, iv x2, iv x3, iv x4, iv x5] 88)) bn (lwV ln) := hM.kept (hal.block _ hM.lt)
  have hVX := hV.trans (hal.mono hV.size)
  have hcX := (Grow.of_below (B := 0) hal).cell hcL
  have hgX : W.grownBy (W.alloc (.cells #[iv x0, iv x1, iv x2, iv x3, iv x4, iv x5] 88)) (some bn) := grownBy_below hal
  have hbl := hM.lt
  clear hal hM hcL hen hV
  generalize W.alloc (.cells #[iv x0, iv x1, iv x2, iv x3, iv x4, iv x5] 88) = X at *
  have hsh := shl_u nL (by omega)
  obtain ⟨N, hN⟩ : ∃ N, 2 ^ nL = N := ⟨_, rfl⟩
  have hN64 : N ≤ 64 := by rw [← hN]; exact Nat.pow_le_pow_right (n := 2) (by omega) hnL
  refine exec_seq (exec_region_o fun ds => ?_)
  gi_wp2
  refine eq_mk (Keep.refl _) ?_
  show Exec _ _ (sub centry [1, 1]) _ _ _
  have hNI : (2 : Int) ^ nL = (N : Int) := by rw [pow_cast, hN]
  refine (cnt_sets (b10 := W.heap.size) (ln := ln) (m := m) (i := i) (kd := kd) (N := N) (s := 0) (u1 := .pointer (some ⟨b, 0, none⟩)) (u2 := u2) (u3 := u3) (u6 := u6) (u30 := u30) (u31 := u31) (u39 := .pointer (some ⟨it, 0, none⟩)) hP hVX hbn hx (by rw [hval]; exact h10) (by omega) hMX hi hN64 hb rfl (by simp [Slots, Fits, hNI])).mono ?_
  intro e t Z hh
  obtain ⟨rfl, hg, hM', hSl'⟩ := only_normal hh
  rw [← HQ.out, hN]
  exact ⟨hgX.trans hg, hM', hSl'⟩
def CrE (V0 : World) (bn : Nat) (G G' : A6 → Nat) (lw : LW) (pp b i kd bw : Nat) (u2 u3 u30 u31 : Value) (t : Array Value) (W : World) : Prop :=
  ∃ ln, Below V0.heap.size V0 W ∧ MapR encA okA W bn (lwV ln) ∧ wsum G' ln = wsum G lw ∧ wsum (fun _ => 1) ln ≤ 64 * wsum (fun _ => 1) lw ∧ Slots (none :: some (.pointer (some ⟨b, 0, none⟩)) :: some (u2) :: some (u3) :: some (.pointer (some ⟨pp, 0, none⟩)) :: none :: some (.map (some bw)) :: some (iv i) :: some (iv kd) :: some (.map (some bn)) :: o4 (o16 (some (u30) :: some (u31) :: some (iv i) :: none :: none :: o4 (o4 (o4 (o16 (o16 (o16 [])))))))) t
def CrI (V0 : World) (bn it : Nat) (G G' : A6 → Nat) (lw : LW) (pp b i kd bw : Nat) (u2 u3 u30 u31 : Value) (n : Nat) (t : Array Value) (W : World) : Prop :=
  ∃ rem ln, n = rem.length ∧ Below V0.heap.size V0 W ∧ MapR encA okA W bn (lwV ln) ∧ IterR encA W it bw (lwV rem) ∧ (∀ p ∈ rem, okA p.1) ∧ wsum G' ln + wsum G rem = wsum G lw ∧ wsum (fun _ => 1) ln + 64 * wsum (fun _ => 1) rem ≤ 64 * wsum (fun _ => 1) lw ∧ Slots (none :: some (.pointer (some ⟨b, 0, none⟩)) :: some (u2) :: some (u3) :: some (.pointer (some ⟨pp, 0, none⟩)) :: none :: some (.map (some bw)) :: some (iv i) :: some (iv kd) :: some (.map (some bn)) :: o4 (o16 (some (u30) :: some (u31) :: some (iv i) :: none :: none :: o4 (some (.pointer (some ⟨it, 0, none⟩)) :: none :: none :: none :: o4 (o16 (o16 (o16 []))))))) t
set_option maxRecDepth 100000 in
set_option maxHeartbeats 2000000 in
theorem cnt_range {V0 : World} {pp : Nat} {P : Pnl} {mm : PM} (hP : PnlAt V0 pp P mm) {W : World} (hV : Below V0.heap.size V0 W) {bn bw b nL cL : Nat} {AL : Option Addr} (hbn : V0.heap.size ≤ bn) (hb0 : ∀ X, Below V0.heap.size V0 X → X.cell? ⟨b, 0, none⟩ = some (.slice AL nL cL)) (hnL : nL ≤ 6) {lw : LW} (hw : MapR encA okA W bw (lwV lw)) (hM : MapR encA okA W bn (lwV [])) (hne : bw ≠ bn) {i kd : Nat} {r : List (Nat × Nat)} (hi : i < P.needs.length) (hb : wsum (fun _ => 1) lw ≤ 2 ^ 40)
    {u2 u3 u30 u31 : Value} {t : Array Value} (hSl : Slots (none :: some (.pointer (some ⟨b, 0, none⟩)) :: some (u2) :: some (u3) :: some (.pointer (some ⟨pp, 0, none⟩)) :: none :: some (.map (some bw)) :: some (iv i) :: some (iv kd) :: some (.map (some bn)) :: o4 (o16 (some (u30) :: some (u31) :: some (iv i) :: none :: none :: o4 (o4 (o4 (o16 (o16 (o16 [])))))))) t) :
    Exec Try.prog none (sub ccode [1, 1, 1, 1, 1, 1, 1, 0, 1, 0, 0, 1, 1, 0, 0, 1, 1, 0]) t W (andThen (CrE V0 bn (fun y => ways nL ((kd, P.fit.getD i 0) :: r) y.1) (fun y => ways nL r y.1) lw pp b i kd bw u2 u3 u30 u31) fun _ _ _ => False) := by
  obtain ⟨G, hG⟩ : ∃ G : A6 → Nat, (fun y : A6 => ways nL ((kd, P.fit.getD i 0) :: r) y.1) = G := ⟨_, rfl⟩
  obtain ⟨G', hG'⟩ : ∃ G' : A6 → Nat, (fun y : A6 => ways nL r y.1) = G' := ⟨_, rfl⟩
  have hstep : ∀ (x : A6) (m : Nat) (ln : LW), (keysW ln).Nodup → wsum G' (setsTo kd (P.fit.getD i 0) x m ln (2 ^ nL)) = wsum G' ln + G x * m := fun x m ln hn => by
    rw [← hG, ← hG']
    exact setsTo_ways hn
  rw [hG, hG']
  have HG := Lib.hid hstep
  clear hG hG' hstep
  have hok : ∀ p ∈ lw, okA p.1 := by
    obtain ⟨es, c, _, R⟩ := hw
    intro p hp
    exact R.ok (p.1, iv p.2) (List.mem_map.2 ⟨p, hp, rfl⟩)
  obtain ⟨x, hx⟩ := Slots.open_ hSl; simp only [fill, Nat.reduceAdd] at hx; subst hx; clear hSl
  show Exec _ _ (Code.seq _ (Code.block _ _)) _ _ _
  refine exec_seq (exec_region_o fun ds => ?_)
  gi_wp2_with (gi_at_range; refine walk_range rfl rfl rfl hw Try.underlying89 ?_; intro since hit)
  refine eq_mk ((Keep.refl _).alloc _) ?_
  show Exec _ _ (Code.block _ _) _ _ _
  have hal := (Below.refl W.heap.size W).alloc (Nat.le_refl _) (.mapIter (some bw) since #[] since)
  have hVX := hV.trans (hal.mono hV.size)
  have hMX : MapR encA okA (W.alloc (.mapIter (some bw) since #[] since)) bn (lwV []) := hM.kept (hal.block _ hM.lt)
  have hitw : W.heap.size ≠ bw := by have := hw.lt; omega
  have hitn : W.heap.size ≠ bn := by have := hM.lt; omega
  have hVit := hV.size
  clear hal hM hw hV
  generalize W.alloc (.mapIter (some bw) since #[] since) = X at *
  generalize W.heap.size = it at *
  clear W
  refine exec_block ?_
  refine exec_loop (CrI V0 bn it G G' lw pp b i kd bw u2 u3 u30 u31) lw.length ⟨lw, [], rfl, hVX, hMX, hit, hok, by simp [wsum], by simp [wsum], by simp [Slots, Fits]⟩ ?_
  clear hVX hMX hit x
  clear X
  rintro n t W ⟨rem, ln, hn, hV, hM, hit, hok, hsum, hbnd, hSl⟩
  have HN := Lib.hid hn
  clear hn
  obtain ⟨x, hx⟩ := Slots.open_ hSl; simp only [fill, Nat.reduceAdd] at hx; subst hx; clear hSl
  show Exec _ _ (Code.seq _ (Code.seq _ _)) _ _ _
  refine exec_seq (exec_region_o fun ds => ?_)
  gi_wp2_with (gi_at_next; refine walk_next rfl rfl rfl hit hitw (fun hnil => ?_) (fun pq pre post W' hl' hit' hgr hen => ?_))
  · refine eq_mk (Keep.refl _) ?_
    show Exec _ _ (Code.seq (Code.cond _ _ _) _) _ _ _
    refine exec_seq (exec_cond (b := false) rfl (fun h => by cases h) (fun _ => ?_))
    have hr : rem = [] := by simpa [lwV] using hnil
    subst hr
    refine exec_exit ⟨ln, hV, hM, by simpa [wsum] using hsum, by simpa [wsum] using hbnd, by simp [Slots, Fits]⟩
  · skip
    have hli : it < W.heap.size := by
      obtain ⟨_, _, _, _, _, _, hi, _⟩ := hit
      exact heap_lt hi
    obtain ⟨ob, hob⟩ : ∃ ob, W.heap[it]? = some ob ∧ book ob = false := by
      obtain ⟨_, _, _, _, _, _, hi, _⟩ := hit
      exact ⟨_, hi, rfl⟩
    refine eq_mk ((Keep.refl _).grown hgr fun j o e ho => by cases e; rw [hob.1] at ho; cases ho; exact hob.2) ?_
    show Exec _ _ (Code.seq (Code.cond _ _ _) _) _ _ _
    obtain ⟨pre', post', y, rfl, rfl, rfl, rfl⟩ : ∃ pre' post' y, rem = pre' ++ y :: post' ∧ pre = lwV pre' ∧ post = lwV post' ∧ pq = (y.1, iv y.2) := by
      obtain ⟨a, b, e1, e2, e3⟩ := List.map_eq_append_iff.1 hl'
      obtain ⟨y, b', e4, e5, e6⟩ := List.map_eq_cons_iff.1 e3
      exact ⟨a, b', y, by rw [e1, e4], e2.symm, e6.symm, e5.symm⟩
    clear hl' hob
    obtain ⟨xk, m⟩ := y
    have hlen : (pre' ++ (xk, m) :: post').length = (pre' ++ post').length + 1 := by simp only [List.length_append, List.length_cons]; omega
    have hit2 : IterR encA W' it bw (lwV (pre' ++ post')) := by
      have : lwV (pre' ++ post') = lwV pre' ++ lwV post' := by simp [lwV]
      rw [this]
      exact hit'
    have hok2 : ∀ p ∈ pre' ++ post', okA p.1 := fun p hp => hok p (by
      rcases List.mem_append.1 hp with h | h
      · exact List.mem_append.2 (.inl h)
      · exact List.mem_append.2 (.inr (List.mem_cons_of_mem _ h)))
    have hxk : okA xk := hok (xk, m) (by simp)
    have hs1 := wsum_split G pre' post' (xk, m)
    have hs2 := wsum_split (fun _ => 1) pre' post' (xk, m)
    simp only [Nat.one_mul] at hs1 hs2
    have hV' : Below V0.heap.size V0 W' := hV.grown hgr hV.size (fun q e => by cases e; exact hVit)
    have hM' : MapR encA okA W' bn (lwV ln) := hM.kept (hgr.block _ hM.lt (fun e => hitn (Option.some.inj e).symm))
    have hlt' : it < W'.heap.size := Nat.lt_of_lt_of_le hli hgr.size
    have hen' : (Instr.entry (.pointer (some ⟨it, 0, none⟩))).run Try.prog W' = .ok (.tuple #[encA xk, iv m]) W' := hen
    have HL := Lib.hid hlen
    clear hit hgr hit' hV hM hok hlen hen hli
    clear W
    refine exec_seq (exec_cond (b := true) rfl (fun _ => exec_skip ?_) (fun h => by cases h))
    show Exec _ _ (Code.block 3 centry) _ _ _
    refine exec_block ((cnt_entry (nL := nL) (xk := xk) (m := m) (ln := ln) (i := i) (kd := kd) (b := b) (it := it) (bn := bn) (u2 := u2) (u3 := u3) (u6 := .map (some bw)) (u30 := u30) (u31 := u31) hP hV' hbn (hb0 W' hV') hnL hxk hM' hi (by omega) hen' (by simp [Slots, Fits])).mono ?_)
    intro e t Z hh
    obtain ⟨rfl, hg, hMZ, hSl'⟩ := only_normal hh
    clear hh
    have hst := HG.out xk m ln (map_nodup hM')
    have hle := setsTo_le (k := kd) (f := P.fit.getD i 0) (x := xk) (m := m) (map_nodup hM') (2 ^ nL)
    have hN64 : 2 ^ nL * m ≤ 64 * m := Nat.mul_le_mul_right m (Nat.pow_le_pow_right (n := 2) (by omega) hnL)
    have hVZ : Below V0.heap.size V0 Z := hV'.grown hg hV'.size (fun q e => by cases e; exact hbn)
    have hitZ : IterR encA Z it bw (lwV (pre' ++ post')) := grown_iter hit2 hg hitn hne
    refine ⟨(pre' ++ post').length, by rw [HN.out, HL.out]; omega, pre' ++ post', _, rfl, hVZ, hMZ, hitZ, hok2, ?_, ?_, ?_⟩
    · rw [hst]
      omega
    · omega
    · obtain ⟨x, hx⟩ := Slots.open_ hSl'; simp only [fill, Nat.reduceAdd] at hx; subst hx; clear hSl'
      simp [Slots, Fits]
end Go.Proofs.Ytbdmmikflkpmpaa
end

section
namespace Go.Proofs.Ytbdmmikflkpmpaa
open Go.RowKit Go.TL Go.Shelf Go.Pn
attribute [local go_sem] Oper.semAt_some
attribute [local go_sem] run_store_func
theorem nf_drop {P : Pnl} (h : PFit P) {i : Nat} (hi : i < P.needs.length) : (nf P).drop i = (P.needs.getD i 0, P.fit.getD i 0) :: (nf P).drop (i + 1) := by
  have hl : i < (nf P).length := by rw [nf_len h]; exact hi
  rw [List.drop_eq_getElem_cons hl]
  congr 1
  have := nf_get h hi
  rw [List.getElem?_eq_getElem hl] at this
  exact Option.some.inj this
def ClI (V0 : World) (a : XP) (b pp T n0 : Nat) (n : Nat) (t : Array Value) (W : World) : Prop :=
  ∃ i bw lw, i ≤ a.N.length ∧ n = a.N.length - i ∧ Below V0.heap.size V0 W ∧ MapR encA okA W bw (lwV lw) ∧ wsum (fun y => ways n0 ((nf (toP a.s3)).drop i) y.1) lw = T ∧ wsum (fun _ => 1) lw ≤ 64 ^ i ∧ Slots (none :: some (.pointer (some ⟨b, 0, none⟩)) :: some (iv 0) :: some (.pointer (some ⟨b + 1, 0, none⟩)) :: some (.pointer (some ⟨pp, 0, none⟩)) :: none :: some (.map (some bw)) :: none :: none :: none :: o4 (o16 (some (.slice a.AN a.N.length a.cN) :: some (iv a.N.length) :: some (iv i) :: none :: none :: o4 (o4 (o4 (o16 (o16 (o16 [])))))))) t
def ClE (V0 : World) (b T : Nat) (t : Array Value) (W : World) : Prop :=
  ∃ bw lw, Below V0.heap.size V0 W ∧ MapR encA okA W bw (lwV lw) ∧ wsum (fun _ => 1) lw = T ∧ T ≤ 2 ^ 36 ∧ Slots (none :: some (.pointer (some ⟨b, 0, none⟩)) :: some (iv 0) :: some (.pointer (some ⟨b + 1, 0, none⟩)) :: none :: none :: some (.map (some bw)) :: o4 (o4 (o16 (o64 [])))) t
set_option maxRecDepth 100000 in
set_option maxHeartbeats 2000000 in
theorem cnt_plots {w : World} {a : XP} {b : Nat} (hf : a.Fine) {V0 : World} (hS : SpB w a b V0) {pp : Nat} {mm : PM} (hP : PnlAt V0 pp (toP a.s3) mm) {bw : Nat} {lw : LW} (hw : MapR encA okA V0 bw (lwV lw)) (hb : wsum (fun _ => 1) lw ≤ 1) {t : Array Value} (hSl : Slots (none :: some (.pointer (some ⟨b, 0, none⟩)) :: some (iv 0) :: some (.pointer (some ⟨b + 1, 0, none⟩)) :: some (.pointer (some ⟨pp, 0, none⟩)) :: none :: some (.map (some bw)) :: o4 (o4 (o16 (o64 [])))) t) :
    Exec Try.prog none (sub ccode [1, 1, 1, 1, 1, 1, 1, 0]) t V0 (andThen (ClE V0 b (wsum (fun y => ways a.L.length (nf (toP a.s3)) y.1) lw)) fun _ _ _ => False) := by
  have hu25 := Try.underlying25
  have hu22 := Try.underlying22
  have h6 := hf.j
  have hn6 := hf.p
  have hfit := toP_Fit (XP.good hf)
  have hnl : (toP a.s3).needs.length = a.N.length := by simp [toP, XP.s3]
  have hnfl : (nf (toP a.s3)).length = a.N.length := by rw [nf_len hfit, hnl]
  obtain ⟨T, hT⟩ : ∃ T, wsum (fun y : A6 => ways a.L.length (nf (toP a.s3)) y.1) lw = T := ⟨_, rfl⟩
  rw [hT]
  obtain ⟨x, hx⟩ := Slots.open_ hSl; simp only [fill, Nat.reduceAdd] at hx; subst hx; clear hSl
  have hh := hS.p.heap
  simp only [XP.sN] at hh
  have c1 := cells_get (cs := [_, _, _]) (k := 1) hh rfl
  clear hh
  show Exec _ _ (Code.seq _ (Code.block _ _)) _ _ _
  refine exec_seq (exec_region_o fun ds => ?_)
  gi_wp2
  refine eq_mk (Keep.refl _) ?_
  show Exec _ _ (Code.block _ _) _ _ _
  refine exec_block ?_
  refine exec_loop (ClI V0 a b pp T a.L.length) a.N.length ⟨0, bw, lw, by omega, rfl, Below.refl _ _, hw, by rw [List.drop_zero]; exact hT, by simpa using hb, by simp [Slots, Fits]⟩ ?_
  clear c1 hT hw hb x
  clear bw lw
  rintro n t W ⟨i, bw, lw, hi, hn, hV, hw, hsum, hle, hSl⟩
  have HN := Lib.hid hn
  have HT := Lib.hid hsum
  clear hn hsum
  obtain ⟨x, hx⟩ := Slots.open_ hSl; simp only [fill, Nat.reduceAdd] at hx; subst hx; clear hSl
  show Exec _ _ (Code.seq _ (Code.seq _ _)) _ _ _
  refine exec_seq (exec_region_o fun ds => ?_)
  gi_wp2
  refine eq_mk (Keep.refl _) ?_
  show Exec _ _ (Code.seq (Code.cond _ _ _) _) _ _ _
  have hpow : 64 ^ i ≤ 64 ^ 6 := Nat.pow_le_pow_right (by omega) (by omega)
  refine exec_seq (exec_cond (b := decide (i < a.N.length)) (by first | rfl | (show Value.bool _ = _; congr 1; exact decide_eq_decide.2 (by omega))) (fun hp => exec_skip ?_) (fun hp => exec_exit ?_))
  · have hil : i < a.N.length := by have := of_decide_eq_true hp; omega
    show Exec _ _ (Code.seq (Code.block _ _) _) _ _ _
    have hSW : SpB w a b W := ⟨⟨(hV.block _ (heap_lt hS.p.heap)).trans hS.p.heap, hS.p.at_.below hV⟩, (hV.block _ hS.e.lt).trans hS.e, hS.below.trans (hV.mono hS.below.size)⟩
    obtain ⟨ad, hA, hcN⟩ := hSW.p.at_.n i (vi (a.N.getD i 0)) (by rw [List.getElem?_map, List.getElem?_eq_getElem hil, List.getD_eq_getElem?_getD, List.getElem?_eq_getElem hil]; rfl)
    have hN0 : 0 ≤ a.N.getD i 0 := by
      rw [List.getD_eq_getElem?_getD, List.getElem?_eq_getElem hil]
      exact (hf.nb _ (List.getElem_mem hil)).1
    obtain ⟨kd, hkd⟩ : ∃ kd : Nat, a.N.getD i 0 = kd := ⟨(a.N.getD i 0).toNat, by omega⟩
    have hneed : (toP a.s3).needs.getD i 0 = kd := by
      show (a.N.map Int.toNat).getD i 0 = kd
      rw [List.getD_eq_getElem?_getD, List.getElem?_map, List.getElem?_eq_getElem hil]
      rw [List.getD_eq_getElem?_getD, List.getElem?_eq_getElem hil] at hkd
      simp only [Option.map_some, Option.getD_some] at hkd ⊢
      omega
    rw [hkd] at hcN
    have hdrop := nf_drop hfit (by rw [hnl]; exact hil)
    rw [hneed] at hdrop
    have HD := Lib.hid hdrop
    clear hkd hN0 hneed hdrop
    have hiI : (i : Int) < a.N.length := by omega
    simp only [hA]
    refine exec_cut (fun t' W' => ∃ bn ln, Below V0.heap.size V0 W' ∧ MapR encA okA W' bn (lwV ln) ∧ wsum (fun y => ways a.L.length ((nf (toP a.s3)).drop (i + 1)) y.1) ln = T ∧ wsum (fun _ => 1) ln ≤ 64 ^ (i + 1) ∧ Slots (none :: some (.pointer (some ⟨b, 0, none⟩)) :: some (iv 0) :: some (.pointer (some ⟨b + 1, 0, none⟩)) :: some (.pointer (some ⟨pp, 0, none⟩)) :: none :: some (.map (some bn)) :: none :: none :: none :: o4 (o16 (some (.slice a.AN a.N.length a.cN) :: some (iv a.N.length) :: some (iv i) :: none :: none :: o4 (o4 (o4 (o16 (o16 (o16 [])))))))) t') (exec_block ?_) ?_
    · show Exec _ _ (Code.seq _ (Code.seq _ _)) _ _ _
      refine exec_seq (exec_region_o fun ds => ?_)
      gi_wp2
      refine eq_mk (Keep.refl _) ?_
      show Exec _ _ (Code.seq _ _) _ _ _
      have hmm := @run_makeMap Try.prog
      refine exec_seq (exec_region_o fun ds => ?_)
      gi_wp2
      clear hmm
      refine eq_mk ((Keep.refl _).alloc _) ?_
      show Exec _ _ (Code.seq (sub ccode [1, 1, 1, 1, 1, 1, 1, 0, 1, 0, 0, 1, 1, 0, 0, 1, 1, 0]) _) _ _ _
      have hal := (Below.refl W.heap.size W).alloc (Nat.le_refl _) (.map #[] 0)
      have hVX := hV.trans (hal.mono hV.size)
      have hMn : MapR encA okA (W.alloc (.map #[] 0)) W.heap.size (lwV []) := MapR.new encA okA W
      have hMw : MapR encA okA (W.alloc (.map #[] 0)) bw (lwV lw) := hw.kept (hal.block _ hw.lt)
      have hne : bw ≠ W.heap.size := by have := hw.lt; omega
      have hbn := hV.size
      clear hal hcN hSW
      generalize W.alloc (.map #[] 0) = X at *
      generalize W.heap.size = bn at *
      have hb0 : ∀ Y, Below V0.heap.size V0 Y → Y.cell? ⟨b, 0, none⟩ = some (.slice a.AL a.L.length a.cL) := fun Y hY => cells_get (cs := [_, _, _]) ((hY.block _ (heap_lt hS.p.heap)).trans hS.p.heap) rfl
      rw [← hA]
      refine exec_seq ((cnt_range (b := b) (kd := kd) (i := i) (lw := lw) (bw := bw) (bn := bn) (r := (nf (toP a.s3)).drop (i + 1)) (u2 := iv 0) (u3 := .pointer (some ⟨b + 1, 0, none⟩)) (u30 := .slice a.AN a.N.length a.cN) (u31 := iv a.N.length) hP hVX hbn hb0 h6 hMw hMn hne (by rw [hnl]; exact hil) (by omega) (by simp [Slots, Fits, hA])).mono ?_)
      intro e t Z hh
      obtain ⟨rfl, ln, hVZ, hMZ, hsZ, hlZ, hSl'⟩ := only_normal hh
      clear hh x
      rw [← HD.out, HT.out] at hsZ
      have HZ := Lib.hid hsZ
      clear hsZ
      have hlZ2 : wsum (fun _ => 1) ln ≤ 64 ^ (i + 1) := by rw [Nat.pow_succ]; omega
      have HL := Lib.hid hlZ2
      clear hlZ hlZ2
      obtain ⟨x, hx⟩ := Slots.open_ hSl'; simp only [fill, Nat.reduceAdd] at hx; subst hx; clear hSl'
      show Exec _ _ _ _ _ _
      refine exec_region_o fun ds => ?_
      gi_wp2
      exact eq_mk (Keep.refl _) ⟨bn, ln, hVZ, hMZ, HZ.out, HL.out, by simp [Slots, Fits]⟩
    · clear hV hw hSW hcN hle x HT
      rintro t' Z ⟨bn, ln, hV, hw, hsum, hle, hSl⟩
      have HZ := Lib.hid hsum
      have HL := Lib.hid hle
      clear hsum hle
      obtain ⟨x, hx⟩ := Slots.open_ hSl; simp only [fill, Nat.reduceAdd] at hx; subst hx; clear hSl
      have hwp : IntKind.i64.wrap ((i : Int) + 1) = ((i + 1 : Nat) : Int) := by rw [IntWalk.i64_in _ (by omega)]; norm_cast
      refine exec_region_o fun ds => ?_
      gi_wp2
      exact eq_mk (Keep.refl _) ⟨n - 1, by rw [HN.out]; omega, i + 1, bn, ln, by omega, by rw [HN.out]; omega, hV, hw, HZ.out, HL.out, by simp only [Slots, Fits, and_self]; simp⟩
  · have hil : i = a.N.length := by have := of_decide_eq_false hp; omega
    have hsum := HT.out
    have hd : (nf (toP a.s3)).drop i = [] := List.drop_eq_nil_of_le (by rw [hnfl]; omega)
    rw [hd] at hsum
    have hs1 : wsum (fun _ => 1) lw = T := hsum
    have h36 : (64 : Nat) ^ 6 = 2 ^ 36 := by decide
    exact ⟨bw, lw, hV, hw, hs1, by omega, by simp [Slots, Fits]⟩
end Go.Proofs.Ytbdmmikflkpmpaa
end

section
namespace Go.Proofs.Ytbdmmikflkpmpaa
open Go.RowKit Go.TL Go.Shelf Go.Pn
attribute [local go_sem] Oper.semAt_some
attribute [local go_sem] run_store_func
def FsI (V0 : World) (b bw it T : Nat) (n : Nat) (t : Array Value) (W : World) : Prop :=
  ∃ rem acc, n = rem.length ∧ Below V0.heap.size V0 W ∧ IterR encA W it bw (lwV rem) ∧ acc + wsum (fun _ => 1) rem = T ∧ Slots (none :: none :: some (iv acc) :: some (.pointer (some ⟨b + 1, 0, none⟩)) :: none :: none :: o16 (o64 (some (.pointer (some ⟨it, 0, none⟩)) :: o4 (o4 [])))) t
def FsE (V0 : World) (b T : Nat) (t : Array Value) (W : World) : Prop :=
  Below V0.heap.size V0 W ∧ Slots (none :: none :: some (iv T) :: some (.pointer (some ⟨b + 1, 0, none⟩)) :: none :: none :: none :: o4 (o4 (o16 (o64 [])))) t
set_option maxRecDepth 100000 in
set_option maxHeartbeats 2000000 in
theorem cnt_sum {V0 : World} {b T : Nat} {W : World} {t : Array Value} (h : ClE V0 b T t W) : Exec Try.prog none (sub ccode [1, 1, 1, 1, 1, 1, 1, 1, 0]) t W (andThen (FsE V0 b T) fun _ _ _ => False) := by
  obtain ⟨bw, lw, hV, hw, hsum, hT, hSl⟩ := h
  have HS := Lib.hid hsum
  clear hsum
  obtain ⟨x, hx⟩ := Slots.open_ hSl; simp only [fill, Nat.reduceAdd] at hx; subst hx; clear hSl
  show Exec _ _ (Code.seq _ (Code.block _ _)) _ _ _
  refine exec_seq (exec_region_o fun ds => ?_)
  gi_wp2_with (gi_at_range; refine walk_range rfl rfl rfl hw Try.underlying89 ?_; intro since hit)
  refine eq_mk ((Keep.refl _).alloc _) ?_
  show Exec _ _ (Code.block _ _) _ _ _
  have hal := (Below.refl W.heap.size W).alloc (Nat.le_refl _) (.mapIter (some bw) since #[] since)
  have hVX := hV.trans (hal.mono hV.size)
  have hitw : W.heap.size ≠ bw := by have := hw.lt; omega
  have hVit := hV.size
  clear hal hw hV
  generalize W.alloc (.mapIter (some bw) since #[] since) = X at *
  generalize W.heap.size = it at *
  clear W
  refine exec_block ?_
  refine exec_loop (FsI V0 b bw it T) lw.length ⟨lw, 0, rfl, hVX, hit, by rw [HS.out]; omega, by simp [Slots, Fits]⟩ ?_
  clear hVX hit x
  clear X
  rintro n t W ⟨rem, acc, hn, hV, hit, hacc, hSl⟩
  have HN := Lib.hid hn
  clear hn
  obtain ⟨x, hx⟩ := Slots.open_ hSl; simp only [fill, Nat.reduceAdd] at hx; subst hx; clear hSl
  show Exec _ _ (Code.seq _ (Code.seq _ _)) _ _ _
  refine exec_seq (exec_region_o fun ds => ?_)
  gi_wp2_with (gi_at_next; refine walk_next rfl rfl rfl hit hitw (fun hnil => ?_) (fun pq pre post W' hl' hit' hgr hen => ?_))
  · refine eq_mk (Keep.refl _) ?_
    show Exec _ _ (Code.seq (Code.cond _ _ _) _) _ _ _
    refine exec_seq (exec_cond (b := false) rfl (fun h => by cases h) (fun _ => ?_))
    have hr : rem = [] := by simpa [lwV] using hnil
    subst hr
    have : acc = T := by simpa [wsum] using hacc
    subst this
    exact exec_exit ⟨hV, by simp [Slots, Fits]⟩
  · skip
    have hli : it < W.heap.size := by
      obtain ⟨_, _, _, _, _, _, hi, _⟩ := hit
      exact heap_lt hi
    obtain ⟨ob, hob⟩ : ∃ ob, W.heap[it]? = some ob ∧ book ob = false := by
      obtain ⟨_, _, _, _, _, _, hi, _⟩ := hit
      exact ⟨_, hi, rfl⟩
    refine eq_mk ((Keep.refl _).grown hgr fun j o e ho => by cases e; rw [hob.1] at ho; cases ho; exact hob.2) ?_
    show Exec _ _ (Code.seq (Code.cond _ _ _) _) _ _ _
    obtain ⟨pre', post', y, rfl, rfl, rfl, rfl⟩ : ∃ pre' post' y, rem = pre' ++ y :: post' ∧ pre = lwV pre' ∧ post = lwV post' ∧ pq = (y.1, iv y.2) := by
      obtain ⟨a, b, e1, e2, e3⟩ := List.map_eq_append_iff.1 hl'
      obtain ⟨y, b', e4, e5, e6⟩ := List.map_eq_cons_iff.1 e3
      exact ⟨a, b', y, by rw [e1, e4], e2.symm, e6.symm, e5.symm⟩
    clear hl' hob
    obtain ⟨xk, m⟩ := y
    have hlen : (pre' ++ (xk, m) :: post').length = (pre' ++ post').length + 1 := by simp only [List.length_append, List.length_cons]; omega
    have hit2 : IterR encA W' it bw (lwV (pre' ++ post')) := by
      have : lwV (pre' ++ post') = lwV pre' ++ lwV post' := by simp [lwV]
      rw [this]
      exact hit'
    have hs2 := wsum_split (fun _ => 1) pre' post' (xk, m)
    simp only [Nat.one_mul] at hs2
    have hV' : Below V0.heap.size V0 W' := hV.grown hgr hV.size (fun q e => by cases e; exact hVit)
    have hen' : (Instr.entry (.pointer (some ⟨it, 0, none⟩))).run Try.prog W' = .ok (.tuple #[encA xk, iv m]) W' := hen
    have hacc2 : acc + m + wsum (fun _ => 1) (pre' ++ post') = T := by omega
    have HL := Lib.hid hlen
    have HA := Lib.hid hacc2
    have hm : acc + m ≤ T := by omega
    clear hit hgr hit' hV hlen hen hli hs2 hacc hacc2
    clear W
    refine exec_seq (exec_cond (b := true) rfl (fun _ => exec_skip ?_) (fun h => by cases h))
    show Exec _ _ (Code.block _ (Code.seq _ _)) _ _ _
    refine exec_block (exec_seq (exec_region_o fun ds => ?_))
    gi_wp2
    refine eq_mk (Keep.refl _) ?_
    show Exec _ _ (Code.region _ _ _) _ _ _
    clear hen'
    have hwp : IntKind.i64.wrap ((acc : Int) + m) = ((acc + m : Nat) : Int) := by rw [IntWalk.i64_in _ (by omega)]; norm_cast
    refine exec_region_o fun ds => ?_
    gi_wp2
    exact eq_mk (Keep.refl _) ⟨(pre' ++ post').length, by rw [HN.out, HL.out]; omega, pre' ++ post', acc + m, rfl, hV', hit2, HA.out, by simp only [Slots, Fits, and_self]; simp⟩
theorem run_copy6 (W : World) (ty : TypeId) (g n c : Nat) (A : Option Addr) (l : List Nat) (hl : l.length = n) (hn : n ≤ 6) (hg : W.heap[g]? = some (.cells #[iv 0, iv 0, iv 0, iv 0, iv 0, iv 0] 88 (0, 0))) (hsrc : RowV W A (l.map iv)) :
    ∃ W', (Builtin.copy_ #[22, 22] ty #[.slice (some ⟨g, 0, none⟩) 6 6, .slice A n c]).run Try.prog W = .ok (iv n) W' ∧ W'.heap[g]? = some (.cells ((l ++ List.replicate (6 - n) 0).map iv).toArray 88 (0, 0)) ∧ W.grownBy W' (some g) := by
  obtain ⟨i0, hi0, hz, hsz, hby⟩ := info3q
  have hst := run_storeCells_at Try.prog g 0 88 (l.map iv) 0 #[iv 0, iv 0, iv 0, iv 0, iv 0, iv 0] W hg (by simp [hl]; omega) (by intro x hx; obtain ⟨y, _, rfl⟩ := List.mem_map.1 hx; rfl)
  have hcur : (#[iv 0, iv 0, iv 0, iv 0, iv 0, iv 0] : Array Value).toList.drop n = (List.replicate (6 - n) 0).map iv := by
    have : ∀ k, k ≤ 6 → ([iv 0, iv 0, iv 0, iv 0, iv 0, iv 0] : List Value).drop k = (List.replicate (6 - k) 0).map iv := by
      intro k hk
      match k, hk with
      | 0, _ => rfl
      | 1, _ => rfl
      | 2, _ => rfl
      | 3, _ => rfl
      | 4, _ => rfl
      | 5, _ => rfl
      | 6, _ => rfl
    exact this n hn
  simp only [Nat.zero_add, Nat.add_zero, List.take_zero, List.nil_append, List.length_map, hl, hcur] at hst
  rw [← List.map_append] at hst
  refine ⟨W.setRow g ((l ++ List.replicate (6 - n) 0).map iv).toArray, ?_, setRow_heap W g _ _ 88 _ hg, ⟨rfl, rfl, rfl, by simp, fun k _ hk => setRow_other W g k _ (fun e => hk (by rw [e]))⟩⟩
  have hmin : min 6 n = n := by omega
  have hmin2 : n.min 6 = n := by show min n 6 = n; omega
  have hst2 := hst
  simp only [List.map_append, List.map_replicate] at hst2
  cases A with
  | some a =>
    have hlo := run_loadCells_list (P := Try.prog) W a (l.map iv) (fun j v hv => by
      obtain ⟨a', e, hc⟩ := hsrc j v hv
      cases e
      exact hc)
    rw [List.length_map, hl] at hlo
    simp [Builtin.copy_, run_underlying Try.underlying22, Builtin.lenOf, Builtin.firstCells, sizeOf, typeInfo, hi0, hsz, hlo, hst2, goInt, hmin, hmin2]
  | none =>
    have hl0 : l = [] := by
      cases l with
      | nil => rfl
      | cons x r =>
        obtain ⟨a', e, _⟩ := hsrc 0 _ rfl
        cases e
    subst hl0
    have hn0 : n = 0 := by simpa using hl.symm
    subst hn0
    simp at hst
    simp [Builtin.copy_, run_underlying Try.underlying22, Builtin.lenOf, Builtin.firstCells, sizeOf, typeInfo, hi0, hsz, hst, goInt]
end Go.Proofs.Ytbdmmikflkpmpaa
end

section
namespace Go.Proofs.Ytbdmmikflkpmpaa
open Go.RowKit Go.TL Go.Shelf Go.Pn
attribute [local go_sem] Oper.semAt_some
attribute [local go_sem] run_store_func
theorem exec_copy {P : Program} {a : Act} {w w' : World} {v u v' : Value} {o : Oper} (d s : Operand) (t : TypeId) (ho : o.op = .call { callee := .builtin .copy, args := #[d, s], argTypes := #[t, t] }) (hd : a.eval d = v) (hs : a.eval s = u)
    (hr : (Builtin.copy_ #[t, t] o.type #[v, u]).run P w = .ok v' w') : (execOp a.eval o).run P w = .ok (.value v') w' := by
  unfold execOp
  simp only [ho, resolve, invoke, builtin, Sem.run_bind, Sem.run_pure, Result.andThen_ok, List.map_toArray, List.map_cons, List.map_nil, hd, hs, hr]
def padL (l : List Nat) : List Nat := l ++ List.replicate (6 - l.length) 0
def countF (a : XP) : Nat := ways a.L.length (nf (toP a.s3)) (padL a.s3.1)
def countA (a : XP) : Int × Int := if a.isP then ((countF a : Nat), 0) else (0, 1)
set_option maxRecDepth 100000 in
set_option maxHeartbeats 600000 in
theorem Count_any (a : XP) (w : World) (h : a.At w) : Calls Try.prog 17 #[a.val] w fun e w' => e = .returned (.tuple #[vi (countA a).1, vi (countA a).2]) ∧ Below w.heap.size w w' := by
  have hmf : ∀ fn first cap w, (Instr.makeFunc fn first cap).run Try.prog w = .ok (.func fn first cap) w := fun _ _ _ _ => rfl
  have hu25 := Try.underlying25
  obtain ⟨A, hA⟩ : ∃ A, countA a = A := ⟨_, rfl⟩
  rw [hA]
  have HA := Lib.hid hA
  clear hA
  refine (callsIn_wide (n := 0)).1 (callsIn_of_wp_marks Try.func17 rfl trivial ?_)
  simp only [Try.ntmps17, List.size_toArray, List.length_cons, List.length_nil, Nat.reduceAdd, Nat.reduceSub, Array.replicate_succ, Array.replicate_zero, List.push_toArray, List.append_toArray, List.nil_append, List.cons_append]
  simp only [XP.val]
  refine split_rest fun rest hR => ?_
  gi_wp2
  have hB := ((Below.refl w.heap.size w).alloc (Nat.le_refl _) (.cells #[a.sL, a.sN, a.sK] 25)).alloc (by simp) (.cells #[.int .i64 0] 28)
  have b1 : PBx ((w.alloc (.cells #[a.sL, a.sN, a.sK] 25)).alloc (.cells #[.int .i64 0] 28)) w.heap.size a := ⟨heap_next (World.alloc_heap_new _ _) _, h.below hB⟩
  have b3 : Boxed ((w.alloc (.cells #[a.sL, a.sN, a.sK] 25)).alloc (.cells #[.int .i64 0] 28)) (w.heap.size + 1) 28 (.int .i64 0) := by (simp only [Boxed, Box2, heap_alloc_at, heap_set_at, World.size_alloc, World.size_setCell]; repeat (first | rfl | rw [if_pos (by omega)] | rw [if_neg (by omega)]))
  refine guard_rest (lo := w.heap.size) (T := 133) (b := w.heap.size + 1) catches63 ⟨_, _, rfl⟩ (fun W => by simp [go_sem]) hB.size ?_
  subst hR
  generalize (w.alloc (.cells #[a.sL, a.sN, a.sK] 25)).alloc (.cells #[.int .i64 0] 28) = V at *
  clear hmf
  have c0 := cells_get (cs := [_, _, _]) (k := 0) b1.heap rfl
  have c1 := cells_get (cs := [_, _, _]) (k := 1) b1.heap rfl
  have c2 := cells_get (cs := [_, _, _]) (k := 2) b1.heap rfl
  refine exec_seq (exec_region_o fun ds => ?_)
  gi_wp2_with fail
  cases hp : a.isP with
  | false =>
    refine ⟨trivial, rfl, (callsIn_wide.2 (checked_no a V b1.at_ hp)).mono ?_⟩
    rintro e W2 ⟨rfl, hw2⟩
    refine eq_mk (Keep.of_below hw2) (.inr ⟨1, 28, 0, rfl, (hw2.block _ b3.lt).trans b3, ?_⟩)
    rintro W' W'' hG rfl
    have hB2 := hB.trans (hw2.mono hB.size)
    have d3 := hG.boxed (show Boxed W2 (w.heap.size + 1) 28 (.int .i64 0) from (hw2.block _ b3.lt).trans b3)
    exact ⟨_, results_num rfl rfl rfl (boxed_set d3 _), by rw [← HA.out]; simp [countA, hp], (hB2.trans (hG.below (Nat.le_refl _) hB2.size)).setCell (by show w.heap.size ≤ w.heap.size + 1; omega) _⟩
  | true =>
    refine ⟨trivial, rfl, (callsIn_wide.2 (checked_yes a V b1.at_ hp)).mono ?_⟩
    rintro e W2 ⟨rfl, hw2⟩
    have hA : A = (((countF a : Nat) : Int), 0) := by rw [← HA.out]; simp [countA, hp]
    have hf := a.fine hp
    have HA := Lib.hid hA
    clear hp hA
    gi_wp2
    refine eq_mk (Keep.of_below hw2) ?_
    show Exec _ _ _ _ _ _
    have hB2 := hB.trans (hw2.mono hB.size)
    have b2 := b1.keep hw2
    have d3 : Boxed W2 (w.heap.size + 1) 28 (.int .i64 0) := (hw2.block _ b3.lt).trans b3
    clear b1 b3 c0 c1 c2 hB hw2
    clear V
    have c0 := cells_get (cs := [_, _, _]) (k := 0) b2.heap rfl
    have c1 := cells_get (cs := [_, _, _]) (k := 1) b2.heap rfl
    have c2 := cells_get (cs := [_, _, _]) (k := 2) b2.heap rfl
    have hS2 : SpB w a w.heap.size W2 := ⟨b2, d3, hB2⟩
    have h6 := hf.j
    refine exec_seq (exec_region_o fun ds => ?_)
    gi_wp2_with fail
    refine ⟨trivial, rfl, (callsIn_wide.2 (open_plain a hf W2 b2.at_)).mono ?_⟩
    rintro e Y ⟨pp, mm, rfl, hpp, hy, hP⟩
    have hSY := hS2.keep hy
    gi_wp2
    refine eq_mk (Keep.of_below hy) ?_
    show Exec _ _ (Code.seq _ (Code.seq _ _)) _ _ _
    clear c0 c1 c2 b2 d3 hB2 hS2 hy hpp
    refine exec_seq (exec_region_o fun ds => ?_)
    gi_wp2
    refine eq_mk ((Keep.refl _).alloc _) ?_
    show Exec _ _ (Code.seq _ (Code.seq _ _)) _ (Y.alloc (.cells #[iv 0, iv 0, iv 0, iv 0, iv 0, iv 0] 88)) _
    have hal := (Below.refl Y.heap.size Y).alloc (Nat.le_refl _) (.cells #[iv 0, iv 0, iv 0, iv 0, iv 0, iv 0] 88)
    have h5 : (Y.alloc (.cells #[iv 0, iv 0, iv 0, iv 0, iv 0, iv 0] 88)).heap[Y.heap.size]? = some (.cells #[iv 0, iv 0, iv 0, iv 0, iv 0, iv 0] 88 (0, 0)) := World.alloc_heap_new _ _
    have hSX := hSY.keep hal
    have hYe := hSY.e.lt
    clear W2
    generalize Y.alloc (.cells #[iv 0, iv 0, iv 0, iv 0, iv 0, iv 0] 88) = X at *
    have hlen : a.s3.1.length = a.L.length := by simp [XP.s3]
    have hrow : ∀ Z, Below X.heap.size X Z → RowV Z a.AL (a.s3.1.map iv) := fun Z hZ => by
      rw [show a.s3.1.map iv = a.L.map vi from map_iv fun y hy => (hf.lb y hy).1]
      exact (hSX.keep hZ).p.at_.l
    have hu88 := Try.underlying88
    have hu89 := Try.underlying89
    have hu22 := Try.underlying22
    have hd : Below X.heap.size X X.drew := (Below.refl _ X).drew
    have h5d : X.drew.heap[Y.heap.size]? = some (.cells #[iv 0, iv 0, iv 0, iv 0, iv 0, iv 0] 88 (0, 0)) := (hd.block _ (heap_lt h5)).trans h5
    obtain ⟨Z, hcp, hZ5, hZg⟩ := run_copy6 X.drew 3 Y.heap.size a.L.length a.cL a.AL a.s3.1 hlen h6 h5d (hrow _ hd)
    have hpad : a.s3.1 ++ List.replicate (6 - a.L.length) 0 = padL a.s3.1 := by unfold padL; rw [hlen]
    rw [hpad] at hZ5
    have hp6 : (padL a.s3.1).length = 6 := by unfold padL; rw [List.length_append, List.length_replicate, hlen]; omega
    have hpok : ∀ n ∈ padL a.s3.1, n ≤ 1000000 := fun n hn => by
      rcases List.mem_append.1 hn with h | h
      · obtain ⟨y, hy, rfl⟩ := List.mem_map.1 (show n ∈ a.L.map Int.toNat from h)
        have := hf.lb y hy
        omega
      · have := (List.mem_replicate.1 h).2
        omega
    have HF : countF a = ways a.L.length (nf (toP a.s3)) (padL a.s3.1) := rfl
    have HF := Lib.hid HF
    generalize padL a.s3.1 = pl at *
    have hYZ : Below Y.heap.size Y Z := (hal.trans (hd.mono hal.size)).grown hZg (Nat.le_trans hal.size hd.size) (fun q e => by cases e; exact Nat.le_refl _)
    have hSZ := hSY.keep hYZ
    have hPZ := hP.below hYZ
    have hc0X : X.drew.cell? ⟨w.heap.size, 0, none⟩ = some (.slice a.AL a.L.length a.cL) := cells_get (cs := [_, _, _]) ((hSX.keep hd).p.heap) rfl
    have hc0Z : Z.cell? ⟨w.heap.size, 0, none⟩ = some (.slice a.AL a.L.length a.cL) := cells_get (cs := [_, _, _]) hSZ.p.heap rfl
    have hKZ : Keep X Z := (Keep.of_below hd).grown hZg (fun j o hj ho => by cases hj; rw [h5d] at ho; cases ho; rfl)
    have hZl := heap_lt hZ5
    refine exec_seq (region_of_tail 4 (by kernel_rfl) (by kernel_rfl) (by kernel_rfl) (fun V => V.cell? ⟨w.heap.size, 0, none⟩ = some (.slice a.AL a.L.length a.cL)) (fun _ _ _ => False) (fun _ _ _ h => h.elim) fun ds => ?_)
    have hS := hc0X
    refine held_take 0 (.slice (some ⟨Y.heap.size, 0, none⟩) 6 6) rfl (by kernel_rfl) (by kernel_rfl) (by kernel_rfl) (by intro _ _ _ h; first | exact h | (simpa [behind, Act.put] using h)) rfl (by first | exact hS | assumption) (fun wq hq => ?_) ?_; (focus (simp [go_sem, hu88]; done)); simp only [Act.put, Array.getInternal_eq_getElem, List.take_succ_cons, List.take_zero, List.take_nil, List.getElem_toArray, List.getElem_cons_succ, List.getElem_cons_zero, List.setIfInBounds_toArray, List.set_cons_succ, List.set_cons_zero]
    refine held_take 1 (.pointer (some ⟨w.heap.size, 0, none⟩)) rfl (by kernel_rfl) (by kernel_rfl) (by kernel_rfl) (by intro _ _ _ h; first | exact h | (simpa [behind, Act.put] using h)) rfl (by first | exact hS | assumption) (fun wq hq => ?_) ?_; (focus (simp [go_sem, hu25]; done)); simp only [Act.put, Array.getInternal_eq_getElem, List.take_succ_cons, List.take_zero, List.take_nil, List.getElem_toArray, List.getElem_cons_succ, List.getElem_cons_zero, List.setIfInBounds_toArray, List.set_cons_succ, List.set_cons_zero]
    refine held_take 2 (.slice a.AL a.L.length a.cL) rfl (by kernel_rfl) (by kernel_rfl) (by kernel_rfl) (by intro _ _ _ h; first | exact h | (simpa [behind, Act.put] using h)) rfl (by first | exact hS | assumption) (fun wq hq => ?_) ?_; (focus (simp [go_sem, hq]; done)); simp only [Act.put, Array.getInternal_eq_getElem, List.take_succ_cons, List.take_zero, List.take_nil, List.getElem_toArray, List.getElem_cons_succ, List.getElem_cons_zero, List.setIfInBounds_toArray, List.set_cons_succ, List.set_cons_zero]
    refine held_mk 3 (iv a.L.length) Z rfl (by kernel_rfl) rfl ?_ hc0Z ?_
    · exact exec_copy _ _ 22 rfl rfl rfl hcp
    simp only [Act.put, Array.getInternal_eq_getElem, List.take_succ_cons, List.take_zero, List.take_nil, List.getElem_toArray, List.getElem_cons_succ, List.getElem_cons_zero, List.setIfInBounds_toArray, List.set_cons_succ, List.set_cons_zero]
    refine held_done (by kernel_rfl) ?_
    refine any_done (by kernel_rfl) ⟨rfl, hKZ, ?_⟩
    show Exec _ _ (Code.seq _ (Code.seq _ _)) _ _ _
    clear hS hc0X hc0Z hcp hrow hSX hSY hP hd h5d h5 hal hZg hKZ hYZ hpad
    clear X
    generalize hb5 : Y.heap.size = b5 at *
    clear hb5
    clear Y
    obtain ⟨m0, m1, m2, m3, m4, m5, rfl⟩ := six hp6
    have hMn : MapR encA okA (Z.alloc (.map #[] 0)) Z.heap.size [] := MapR.new encA okA Z
    have hal := (Below.refl Z.heap.size Z).alloc (Nat.le_refl _) (.map #[] 0)
    obtain ⟨V, hrun, hMV, hgV⟩ := hMn.update (P := Try.prog) keyA hu89 (x := ⟨[m0, m1, m2, m3, m4, m5], hp6⟩) hpok (iv 1)
    have hrun' : (Instr.mapUpdate 89 (.map (some Z.heap.size)) (.agg #[iv m0, iv m1, iv m2, iv m3, iv m4, iv m5]) (.int .i64 1)).run Try.prog (Z.alloc (.map #[] 0)) = .ok () V := hrun
    clear hrun
    obtain ⟨e0, e1, e2, e3, e4, e5⟩ := six_get ((hal.block _ hZl).trans hZ5)
    have hVB : Below Z.heap.size Z V := hal.grown hgV hal.size (fun q e => by cases e; exact Nat.le_refl _)
    have hKV : Keep Z V := ((Keep.refl Z).alloc _).grown hgV (map_book hMn)
    have hmm := @run_makeMap Try.prog
    refine exec_seq (exec_region_o fun ds => ?_)
    gi_wp2
    clear hmm hrun' e0 e1 e2 e3 e4 e5
    refine eq_mk hKV ?_
    have hSV := hSZ.keep hVB
    have hPV := hPZ.below hVB
    have hlw : (put [] (⟨[m0, m1, m2, m3, m4, m5], hp6⟩ : A6) (iv 1)) = lwV [(⟨[m0, m1, m2, m3, m4, m5], hp6⟩, 1)] := rfl
    rw [hlw] at hMV
    clear hMn hal hgV hSZ hPZ hVB hKV hZ5 hZl
    generalize Z.heap.size = bw at *
    clear Z
    show Exec _ _ (Code.seq (sub ccode [1, 1, 1, 1, 1, 1, 1, 0]) (Code.seq (sub ccode [1, 1, 1, 1, 1, 1, 1, 1, 0]) _)) _ _ _
    refine exec_seq ((cnt_plots (bw := bw) (pp := pp) hf hSV hPV hMV (by simp [wsum]) (by simp [Slots, Fits])).mono ?_)
    intro e t Z hh
    obtain ⟨rfl, hE⟩ := only_normal hh
    clear hh
    have hT : wsum (fun y => ways a.L.length (nf (toP a.s3)) y.1) [((⟨[m0, m1, m2, m3, m4, m5], hp6⟩ : A6), 1)] = countF a := by
      rw [HF.out]
      simp [wsum]
    rw [hT] at hE
    refine exec_seq ((cnt_sum hE).mono ?_)
    clear hE
    intro e t Z hh
    obtain ⟨rfl, hZB, hSl⟩ := only_normal hh
    clear hh
    have hSZ : SpB w a w.heap.size Z := ⟨⟨(hZB.block _ (heap_lt hSV.p.heap)).trans hSV.p.heap, hSV.p.at_.below hZB⟩, (hZB.block _ hSV.e.lt).trans hSV.e, hSV.below.trans (hZB.mono hSV.below.size)⟩
    clear hSV hPV hMV hZB
    obtain ⟨x, hx⟩ := Slots.open_ hSl; simp only [fill, Nat.reduceAdd] at hx; subst hx; clear hSl
    have e1 := hSZ.e.cell
    have e2 := hSZ.e.frozen
    show Exec _ _ (Code.seq _ _) _ _ _
    obtain ⟨T, hTe⟩ : ∃ T, countF a = T := ⟨_, rfl⟩
    rw [hTe] at HA
    simp only [hTe]
    refine exec_seq (exec_region_o fun ds => ?_)
    gi_wp2
    refine eq_mk ((Keep.refl _).setCell _ _) ?_
    show Exec _ _ _ _ _ _
    have g7 := boxed_set hSZ.e (.int .i64 0)
    have hB5 : Below w.heap.size w (Z.setCell ⟨w.heap.size + 1, 0, none⟩ (.int .i64 0)) := hSZ.below.setCell (by show w.heap.size ≤ w.heap.size + 1; omega) _
    exact exec_ret (.inl ⟨.inr rfl, g7.lt, fun W' hG => ⟨_, results_num rfl rfl rfl (hG.boxed g7), by rw [HA.out], hB5.trans (hG.below (Nat.le_refl _) hB5.size)⟩⟩)
end Go.Proofs.Ytbdmmikflkpmpaa
end

section
namespace Go.Proofs.Ytbdmmikflkpmpaa
open Go.RowKit Go.TL Go.Shelf Go.Pn
attribute [local go_sem] Oper.semAt_some
attribute [local go_sem] run_store_func
theorem row_int {W : World} {A : Option Addr} {l : List Int} (h : RowV W A (l.map vi)) {i : Nat} (hi : i < l.length) : ∃ ad, A = some ad ∧ W.cell? (ad.add i) = some (vi (l[i])) :=
  h i _ (by rw [List.getElem?_map, List.getElem?_eq_getElem hi]; rfl)
def InI (w : World) (A B : Option Addr) (c d : Nat) (l m : List Int) (n : Nat) (t : Array Value) (W : World) : Prop :=
  ∃ k : Nat, k ≤ l.length ∧ n = l.length - k ∧ l.take k = m.take k ∧ Below w.heap.size w W ∧ Slots (some (.slice A l.length c) :: some (.slice B m.length d) :: none :: none :: none :: some (iv k) :: o4 (o16 [])) t
set_option maxRecDepth 100000 in
set_option maxHeartbeats 1000000 in
theorem ints21 (A B : Option Addr) (c d : Nat) (l m : List Int) (hl : l.length ≤ 1000000) (hm : m.length ≤ 1000000) (w : World) (hA : RowV w A (l.map vi)) (hB : RowV w B (m.map vi)) : Calls Try.prog 21 #[.slice A l.length c, .slice B m.length d] w fun e w' => e = .returned (.bool (decide (l = m))) ∧ Below w.heap.size w w' := by
  have hu22 := Try.underlying22
  obtain ⟨R, hR⟩ : ∃ R, decide (l = m) = R := ⟨_, rfl⟩
  rw [hR]
  have HR := Lib.hid hR
  clear hR
  refine calls_of_exec Try.func21 rfl ?_
  simp only [Try.ntmps21, List.size_toArray, List.length_cons, List.length_nil, Nat.reduceAdd, Nat.reduceSub, Array.replicate_succ, Array.replicate_zero, List.push_toArray, List.append_toArray, List.nil_append, List.cons_append]
  refine exec_seq (exec_region_o fun ds => ?_)
  gi_wp2
  refine eq_mk (Keep.refl _) ?_
  show Exec _ _ (Code.seq (Code.seq _ _) _) _ _ _
  refine exec_seq (exec_seq (exec_region_o fun ds => ?_))
  gi_wp2
  refine eq_mk (Keep.refl _) ?_
  show Exec _ _ (Code.cond _ _ _) _ _ _
  by_cases hlm : l.length = m.length
  · refine exec_cond (b := false) (by first | rfl | (show Value.bool (decide _) = _; simp [hlm]; done) | (show Value.bool (!decide _) = _; simp [hlm]; done)) (fun h => by cases h) (fun _ => exec_skip ?_)
    show Exec _ _ (Code.seq (Code.seq _ _) _) _ _ _
    refine exec_seq (exec_seq (exec_region_o fun ds => ?_))
    gi_wp2
    refine eq_mk (Keep.refl _) ?_
    show Exec _ _ (Code.block _ _) _ _ _
    refine exec_block ?_
    refine exec_loop (InI w A B c d l m) l.length ⟨0, by omega, rfl, rfl, Below.refl _ _, by simp [Slots, Fits, hlm]⟩ ?_
    rintro n t W ⟨k, hk, hn, htk, hV, hSl⟩
    have HT := Lib.hid htk
    clear htk
    have HL := Lib.hid hlm
    clear hlm
    obtain ⟨x, hx⟩ := Slots.open_ hSl; simp only [fill, Nat.reduceAdd] at hx; subst hx; clear hSl
    show Exec _ _ (Code.seq (Code.seq _ _) _) _ _ _
    refine exec_seq (exec_seq (exec_region_o fun ds => ?_))
    gi_wp2
    refine eq_mk (Keep.refl _) ?_
    show Exec _ _ (Code.cond _ _ _) _ _ _
    refine (exec_cond (b := decide (k < l.length)) (by first | rfl | (show Value.bool _ = _; congr 1; exact decide_eq_decide.2 (by omega))) (fun hp => exec_skip ?_) (fun hp => exec_exit ?_))
    · have hkl : k < l.length := by have := of_decide_eq_true hp; omega
      have hkm : k < m.length := by have := HL.out; omega
      show Exec _ _ (Code.seq (Code.block _ _) _) _ _ _
      obtain ⟨a1, e1, h1⟩ := row_int (hA.below hV) hkl
      obtain ⟨a2, e2, h2⟩ := row_int (hB.below hV) hkm
      obtain ⟨y1, hy1⟩ : ∃ y, l[k] = y := ⟨_, rfl⟩
      obtain ⟨y2, hy2⟩ : ∃ y, m[k] = y := ⟨_, rfl⟩
      rw [hy1] at h1
      rw [hy2] at h2
      have HY : y1 = y2 → l.take (k + 1) = m.take (k + 1) := fun e => by
        rw [List.take_succ_eq_append_getElem hkl, List.take_succ_eq_append_getElem hkm, HT.out, hy1, hy2, e]
      have HN : y1 ≠ y2 → l ≠ m := fun e c => e (by rw [← hy1, ← hy2]; simp only [c])
      have HY := Lib.hid HY
      have HN := Lib.hid HN
      clear hy1 hy2
      have hkI : (k : Int) < l.length := by omega
      have hkJ : (k : Int) < m.length := by omega
      simp only [e1, e2]
      have E1 := Lib.hid e1
      have E2 := Lib.hid e2
      clear e1 e2
      refine exec_cut (fun t' Y => y1 = y2 ∧ Below w.heap.size w Y ∧ Slots (some (.slice A l.length c) :: some (.slice B m.length d) :: none :: none :: none :: some (iv k) :: o4 (o16 [])) t') (exec_block ?_) ?_
      · have hd : Below W.heap.size W W.drew := (Below.refl _ W).drew
        show Exec _ _ (Code.seq _ _) _ _ _
        refine exec_seq (region_of_tail 9 (by kernel_rfl) (by kernel_rfl) (by kernel_rfl) (fun Y => Y.cell? (a1.add k) = some (vi y1) ∧ Y.cell? (a2.add k) = some (vi y2)) (fun _ _ _ => False) (fun _ _ _ h => h.elim) fun ds => ?_)
        have hS : W.drew.cell? (a1.add k) = some (vi y1) ∧ W.drew.cell? (a2.add k) = some (vi y2) := ⟨(Grow.of_below (B := 0) hd).cell h1, (Grow.of_below (B := 0) hd).cell h2⟩
        refine held_take 0 (.slice (some a1) l.length c) rfl (by kernel_rfl) (by kernel_rfl) (by kernel_rfl) (by intro _ _ _ h; first | exact h | (simpa [behind, Act.put] using h)) rfl (by first | exact hS | assumption) (fun wq hq => ?_) ?_; (focus (first | rfl | (simp [go_sem]; done))); simp only [Act.put, Array.getInternal_eq_getElem, List.take_succ_cons, List.take_zero, List.take_nil, List.getElem_toArray, List.getElem_cons_succ, List.getElem_cons_zero, List.setIfInBounds_toArray, List.set_cons_succ, List.set_cons_zero]
        refine held_take 1 (iv k) rfl (by kernel_rfl) (by kernel_rfl) (by kernel_rfl) (by intro _ _ _ h; first | exact h | (simpa [behind, Act.put] using h)) rfl (by first | exact hS | assumption) (fun wq hq => ?_) ?_; (focus (first | rfl | (simp [go_sem]; done))); simp only [Act.put, Array.getInternal_eq_getElem, List.take_succ_cons, List.take_zero, List.take_nil, List.getElem_toArray, List.getElem_cons_succ, List.getElem_cons_zero, List.setIfInBounds_toArray, List.set_cons_succ, List.set_cons_zero]
        refine held_take 2 (.pointer (some (a1.add k))) rfl (by kernel_rfl) (by kernel_rfl) (by kernel_rfl) (by intro _ _ _ h; first | exact h | (simpa [behind, Act.put] using h)) rfl (by first | exact hS | assumption) (fun wq hq => ?_) ?_; (focus (simp [go_sem, hu22, hkI]; done)); simp only [Act.put, Array.getInternal_eq_getElem, List.take_succ_cons, List.take_zero, List.take_nil, List.getElem_toArray, List.getElem_cons_succ, List.getElem_cons_zero, List.setIfInBounds_toArray, List.set_cons_succ, List.set_cons_zero]
        refine held_take 3 (vi y1) rfl (by kernel_rfl) (by kernel_rfl) (by kernel_rfl) (by intro _ _ _ h; first | exact h | (simpa [behind, Act.put] using h)) rfl (by first | exact hS | assumption) (fun wq hq => ?_) ?_; (focus (simp [go_sem, hq.1]; done)); simp only [Act.put, Array.getInternal_eq_getElem, List.take_succ_cons, List.take_zero, List.take_nil, List.getElem_toArray, List.getElem_cons_succ, List.getElem_cons_zero, List.setIfInBounds_toArray, List.set_cons_succ, List.set_cons_zero]
        refine held_take 4 (.slice (some a2) m.length d) rfl (by kernel_rfl) (by kernel_rfl) (by kernel_rfl) (by intro _ _ _ h; first | exact h | (simpa [behind, Act.put] using h)) rfl (by first | exact hS | assumption) (fun wq hq => ?_) ?_; (focus (first | rfl | (simp [go_sem]; done))); simp only [Act.put, Array.getInternal_eq_getElem, List.take_succ_cons, List.take_zero, List.take_nil, List.getElem_toArray, List.getElem_cons_succ, List.getElem_cons_zero, List.setIfInBounds_toArray, List.set_cons_succ, List.set_cons_zero]
        refine held_take 5 (iv k) rfl (by kernel_rfl) (by kernel_rfl) (by kernel_rfl) (by intro _ _ _ h; first | exact h | (simpa [behind, Act.put] using h)) rfl (by first | exact hS | assumption) (fun wq hq => ?_) ?_; (focus (first | rfl | (simp [go_sem]; done))); simp only [Act.put, Array.getInternal_eq_getElem, List.take_succ_cons, List.take_zero, List.take_nil, List.getElem_toArray, List.getElem_cons_succ, List.getElem_cons_zero, List.setIfInBounds_toArray, List.set_cons_succ, List.set_cons_zero]
        refine held_take 6 (.pointer (some (a2.add k))) rfl (by kernel_rfl) (by kernel_rfl) (by kernel_rfl) (by intro _ _ _ h; first | exact h | (simpa [behind, Act.put] using h)) rfl (by first | exact hS | assumption) (fun wq hq => ?_) ?_; (focus (simp [go_sem, hu22, hkJ]; done)); simp only [Act.put, Array.getInternal_eq_getElem, List.take_succ_cons, List.take_zero, List.take_nil, List.getElem_toArray, List.getElem_cons_succ, List.getElem_cons_zero, List.setIfInBounds_toArray, List.set_cons_succ, List.set_cons_zero]
        refine held_take 7 (vi y2) rfl (by kernel_rfl) (by kernel_rfl) (by kernel_rfl) (by intro _ _ _ h; first | exact h | (simpa [behind, Act.put] using h)) rfl (by first | exact hS | assumption) (fun wq hq => ?_) ?_; (focus (simp [go_sem, hq.2]; done)); simp only [Act.put, Array.getInternal_eq_getElem, List.take_succ_cons, List.take_zero, List.take_nil, List.getElem_toArray, List.getElem_cons_succ, List.getElem_cons_zero, List.setIfInBounds_toArray, List.set_cons_succ, List.set_cons_zero]
        refine held_take 8 (.bool (y1 != y2)) rfl (by kernel_rfl) (by kernel_rfl) (by kernel_rfl) (by intro _ _ _ h; first | exact h | (simpa [behind, Act.put] using h)) rfl (by first | exact hS | assumption) (fun wq hq => ?_) ?_; (focus (simp [go_sem]; done)); simp only [Act.put, Array.getInternal_eq_getElem, List.take_succ_cons, List.take_zero, List.take_nil, List.getElem_toArray, List.getElem_cons_succ, List.getElem_cons_zero, List.setIfInBounds_toArray, List.set_cons_succ, List.set_cons_zero]
        refine held_done (by kernel_rfl) ?_
        refine any_done (by kernel_rfl) ⟨rfl, Keep.of_below hd, ?_⟩
        show Exec _ _ (Code.cond _ _ _) _ _ _
        have hBd := hV.trans (hd.mono hV.size)
        by_cases hy : y1 = y2
        · refine exec_cond (b := false) (by show Value.bool (y1 != y2) = _; simp [hy]) (fun h => by cases h) (fun _ => exec_skip ?_)
          exact ⟨hy, hBd, by simp [Slots, Fits, E1.out, E2.out]⟩
        · refine exec_cond (b := true) (by show Value.bool (y1 != y2) = _; simp [hy]) (fun _ => ?_) (fun h => by cases h)
          refine exec_seq (exec_region_o fun ds => ?_)
          gi_wp2
          refine eq_mk (Keep.refl _) ?_
          show Exec _ _ _ _ _ _
          refine exec_ret ⟨.inr rfl, fun W' hG => ⟨.bool false, by simp [results, Try.f21, go_sem], ?_, hBd.trans (hG.below (Nat.le_refl _) hBd.size)⟩⟩
          rw [← HR.out, decide_eq_false (HN.out hy)]
      · clear hV h1 h2 x
        clear W
        rintro t' Y ⟨hy, hV, hSl⟩
        have hT2 := HY.out hy
        have HT2 := Lib.hid hT2
        clear hT2 hy
        obtain ⟨x, hx⟩ := Slots.open_ hSl; simp only [fill, Nat.reduceAdd] at hx; subst hx; clear hSl
        have hw : IntKind.i64.wrap ((k : Int) + 1) = ((k + 1 : Nat) : Int) := by rw [IntWalk.i64_in _ (by omega)]; norm_cast
        refine exec_region_o fun ds => ?_
        gi_wp2
        exact eq_mk (Keep.refl _) ⟨n - 1, by omega, k + 1, by omega, by omega, HT2.out, hV, by simp only [Slots, Fits, and_self]; simp [E1.out, E2.out]⟩
    · have hkl : k = l.length := by have := of_decide_eq_false hp; omega
      have htk := HT.out
      rw [hkl, List.take_length, List.take_of_length_le (by have := HL.out; omega)] at htk
      have hr : R = true := by rw [← HR.out]; exact decide_eq_true htk
      subst hr
      show Exec _ _ (Code.seq _ _) _ _ _
      refine exec_seq (exec_region_o fun ds => ?_)
      gi_wp2
      refine eq_mk (Keep.refl _) ?_
      show Exec _ _ _ _ _ _
      exact exec_ret ⟨.inr rfl, fun W' hG => ⟨.bool true, by simp [results, Try.f21, go_sem], rfl, hV.trans (hG.below (Nat.le_refl _) hV.size)⟩⟩
  · have hlI : ¬ ((l.length : Int) = m.length) := by omega
    refine exec_cond (b := true) (by first | rfl | (show Value.bool (decide _) = _; simp [hlI]; done) | (show Value.bool (!decide _) = _; simp [hlI]; done)) (fun _ => ?_) (fun h => by cases h)
    refine exec_seq (exec_region_o fun ds => ?_)
    gi_wp2
    refine eq_mk (Keep.refl _) ?_
    show Exec _ _ _ _ _ _
    refine exec_ret ⟨.inr rfl, fun W' hG => ⟨.bool false, by simp [results, Try.f21, go_sem], ?_, hG.below (Nat.le_refl _) (Nat.le_refl _)⟩⟩
    rw [← HR.out, decide_eq_false (fun c => hlm (by rw [c]))]
end Go.Proofs.Ytbdmmikflkpmpaa
end

section
namespace Go.Proofs.Ytbdmmikflkpmpaa
open Go.RowKit Go.TL Go.Shelf Go.Pn
attribute [local go_sem] Oper.semAt_some
attribute [local go_sem] run_store_func
def smK (b : Bool) : List (Int × Int) := if b then [(0, 2), (2, 1), (0, 1)] else [(0, 2), (2, 1)]
def SmX (b : Bool) (a : XP) : Prop := a.L = [2, 2, 1] ∧ a.N = [2, 1, 2] ∧ a.K = smK b
def smN (b : Bool) : List (Nat × Nat) := if b then [(0, 2), (2, 1), (0, 1)] else [(0, 2), (2, 1)]
theorem rowKI_of {W : World} {A : Option Addr} {K : List (Nat × Nat)} (h : RowK W A K) : RowKI W A (K.map fun k => ((k.1 : Int), (k.2 : Int))) := by
  intro i k hk
  rw [List.getElem?_map] at hk
  obtain ⟨y, hy, rfl⟩ := Option.map_eq_some_iff.1 hk
  exact h i y hy
theorem smN_K (b : Bool) : (smN b).map (fun k => ((k.1 : Int), (k.2 : Int))) = smK b := by cases b <;> rfl
structure SmW (w : World) (q : Nat) (A : Option Addr) (c : Nat) (K : List (Nat × Nat)) (X : World) : Prop where
  h0 : X.heap[q]? = some (.cells #[.slice none 0 0, .slice none 0 0, .slice none 0 0] 25 (0, 0))
  h1 : X.heap[q + 1]? = some (.cells #[vi 2, vi 2, vi 1] 3 (0, 0))
  h2 : X.heap[q + 1 + 1]? = some (.cells #[vi 2, vi 1, vi 2] 3 (0, 0))
  h4 : X.heap[q + 1 + 1 + 1 + 1]? = some (.cells #[.slice (some ⟨q + 1, 0, none⟩) 3 3, .slice (some ⟨q + 1 + 1, 0, none⟩) 3 3, .slice A K.length c] 25 (0, 0))
  rk : RowK X A K
  ra : ∀ ad, A = some ad → q < ad.block
  below : Below w.heap.size w X
theorem row3 {W : World} {q : Nat} {a b c : Int} (h : W.heap[q]? = some (.cells #[vi a, vi b, vi c] 3 (0, 0))) : RowV W (some ⟨q, 0, none⟩) ([a, b, c].map vi) := row_of_cells (vs := [vi a, vi b, vi c]) h
set_option maxRecDepth 100000 in
set_option maxHeartbeats 1000000 in
theorem sm_end {w : World} {b : Bool} {A : Option Addr} {c : Nat} {X : World} (h : SmW w w.heap.size A c (smN b) X) (t : Array Value) (hSl : Slots (none :: none :: some (.pointer (some ⟨w.heap.size, 0, none⟩)) :: some (.pointer (some ⟨w.heap.size + 1 + 1 + 1 + 1, 0, none⟩)) :: none :: none :: o4 (o4 (o4 []))) t) :
    Exec Try.prog none (sub (Try.f46.body.getD .skip) [1, 1, 1]) t X fun e t W => (e = .normal ∨ e = .ret) ∧ ∀ W', Grow w.heap.size W W' → ∃ v, (results Try.f46 t).run Try.prog W' = .ok v W' ∧ ∃ a : XP, Ending.returned v = .returned a.val ∧ SmX b a ∧ a.At W' ∧ Below w.heap.size w W' := by
  have hu25 := Try.underlying25
  obtain ⟨x, hx⟩ := Slots.open_ hSl; simp only [fill, Nat.reduceAdd] at hx; subst hx; clear hSl
  have c0 := cells_get (cs := [_, _, _]) (k := 0) h.h4 rfl
  have c1 := cells_get (cs := [_, _, _]) (k := 1) h.h4 rfl
  have c2 := cells_get (cs := [_, _, _]) (k := 2) h.h4 rfl
  have d0 := cells_get (cs := [_, _, _]) (k := 0) h.h0 rfl
  have d1 := cells_get (cs := [_, _, _]) (k := 1) h.h0 rfl
  have d2 := cells_get (cs := [_, _, _]) (k := 2) h.h0 rfl
  have df : ∀ o, X.frozen? ⟨w.heap.size, o, none⟩ = false := fun o => frozen_cells h.h0
  have hlen : (smN b).length ≤ 3 := by cases b <;> decide
  have e0 := box_set _ w.heap.size 0 [.slice none 0 0, .slice none 0 0, .slice none 0 0] 25 (.slice (some ⟨w.heap.size + 1, 0, none⟩) 3 3) h.h0
  have e1 := box_set _ w.heap.size 1 [.slice (some ⟨w.heap.size + 1, 0, none⟩) 3 3, .slice none 0 0, .slice none 0 0] 25 (.slice (some ⟨w.heap.size + 1 + 1, 0, none⟩) 3 3) e0
  have e2 := box_set _ w.heap.size 2 [.slice (some ⟨w.heap.size + 1, 0, none⟩) 3 3, .slice (some ⟨w.heap.size + 1 + 1, 0, none⟩) 3 3, .slice none 0 0] 25 (.slice A (smN b).length c) e1
  have hB := ((h.below.setCell (p := ⟨w.heap.size, 0, none⟩) (Nat.le_refl _) (.slice (some ⟨w.heap.size + 1, 0, none⟩) 3 3)).setCell (p := ⟨w.heap.size, 1, none⟩) (Nat.le_refl _) (.slice (some ⟨w.heap.size + 1 + 1, 0, none⟩) 3 3)).setCell (p := ⟨w.heap.size, 2, none⟩) (Nat.le_refl _) (.slice A (smN b).length c)
  have far : ∀ k o, k ≠ w.heap.size → X.heap[k]? = some o → (((X.setCell ⟨w.heap.size, 0, none⟩ (.slice (some ⟨w.heap.size + 1, 0, none⟩) 3 3)).setCell ⟨w.heap.size, 1, none⟩ (.slice (some ⟨w.heap.size + 1 + 1, 0, none⟩) 3 3)).setCell ⟨w.heap.size, 2, none⟩ (.slice A (smN b).length c)).heap[k]? = some o := fun k o hk ho => box_far _ _ _ _ _ _ (box_far _ _ _ _ _ _ (box_far _ _ _ _ _ _ ho hk) hk) hk
  have f1 := far _ _ (by omega) h.h1
  have f2 := far _ _ (by omega) h.h2
  have fk : RowK (((X.setCell ⟨w.heap.size, 0, none⟩ (.slice (some ⟨w.heap.size + 1, 0, none⟩) 3 3)).setCell ⟨w.heap.size, 1, none⟩ (.slice (some ⟨w.heap.size + 1 + 1, 0, none⟩) 3 3)).setCell ⟨w.heap.size, 2, none⟩ (.slice A (smN b).length c)) A (smN b) :=
    ((h.rk.far (fun _ ad e => by have := h.ra ad e; omega) _).far (fun _ ad e => by have := h.ra ad e; omega) _).far (fun _ ad e => by have := h.ra ad e; omega) _
  show Exec _ _ (Code.seq _ _) _ _ _
  refine exec_seq (exec_region_o fun ds => ?_)
  gi_wp2
  refine eq_mk ((((Keep.refl _).setCell _ _).setCell _ _).setCell _ _) ?_
  show Exec _ _ _ _ _ _
  refine exec_ret ⟨.inr rfl, fun W' hG => ?_⟩
  have g2 := hG.same _ _ e2 (.inr rfl)
  have k0 := cells_get (cs := [_, _, _]) (k := 0) g2 rfl
  have k1 := cells_get (cs := [_, _, _]) (k := 1) g2 rfl
  have k2 := cells_get (cs := [_, _, _]) (k := 2) g2 rfl
  refine ⟨.agg #[.slice (some ⟨w.heap.size + 1, 0, none⟩) 3 3, .slice (some ⟨w.heap.size + 1 + 1, 0, none⟩) 3 3, .slice A (smN b).length c], by simp [results, Try.f46, go_sem, hu25, k0, k1, k2], ⟨some ⟨w.heap.size + 1, 0, none⟩, 3, [2, 2, 1], some ⟨w.heap.size + 1 + 1, 0, none⟩, 3, [2, 1, 2], A, c, smK b⟩, ?_, ⟨rfl, rfl, rfl⟩, ⟨row3 (hG.same _ _ f1 (.inr rfl)), row3 (hG.same _ _ f2 (.inr rfl)), ?_, by simp, by simp, ?_⟩, hB.trans (hG.below (Nat.le_refl _) hB.size)⟩
  · simp only [XP.val, XP.sL, XP.sN, XP.sK]
    rw [← smN_K, List.length_map]
    rfl
  · rw [← smN_K]
    exact rowKI_of (fk.grow hG)
  · rw [← smN_K, List.length_map]
    omega
set_option maxRecDepth 100000 in
set_option maxHeartbeats 1000000 in
theorem sample46 (b : Bool) (w : World) : Calls Try.prog 46 #[.bool b] w fun e w' => ∃ a : XP, e = .returned a.val ∧ SmX b a ∧ a.At w' ∧ Below w.heap.size w w' := by
  have hu25 := Try.underlying25
  have hu22 := Try.underlying22
  have hu23 := Try.underlying23
  have hu50 := Try.underlying50
  refine calls_of_exec Try.func46 rfl ?_
  simp only [Try.ntmps46, List.size_toArray, List.length_cons, List.length_nil, Nat.reduceAdd, Nat.reduceSub, Array.replicate_succ, Array.replicate_zero, List.push_toArray, List.append_toArray, List.nil_append, List.cons_append]
  refine exec_seq (exec_region_o fun ds => ?_)
  gi_wp2
  refine eq_mk ((Keep.refl _).alloc _) ?_
  show Exec _ _ (Code.seq _ _) _ _ _
  refine exec_seq (exec_region_o fun ds => ?_)
  gi_wp2
  refine eq_mk (((((Keep.refl _).alloc _).alloc _).alloc _).alloc _) ?_
  show Exec _ _ (Code.seq (Code.seq _ _) _) _ (((((w.alloc (.cells #[.slice none 0 0, .slice none 0 0, .slice none 0 0] 25)).alloc (.cells #[vi 2, vi 2, vi 1] 3)).alloc (.cells #[vi 2, vi 1, vi 2] 3)).alloc (.cells #[iv 0, iv 2, iv 2, iv 1] 50)).alloc (.cells #[.slice (some ⟨w.heap.size + 1, 0, none⟩) 3 3, .slice (some ⟨w.heap.size + 1 + 1, 0, none⟩) 3 3, .slice (some ⟨w.heap.size + 1 + 1 + 1, 0, none⟩) 2 2] 25)) _
  have hB : Below w.heap.size w (((((w.alloc (.cells #[.slice none 0 0, .slice none 0 0, .slice none 0 0] 25)).alloc (.cells #[vi 2, vi 2, vi 1] 3)).alloc (.cells #[vi 2, vi 1, vi 2] 3)).alloc (.cells #[iv 0, iv 2, iv 2, iv 1] 50)).alloc (.cells #[.slice (some ⟨w.heap.size + 1, 0, none⟩) 3 3, .slice (some ⟨w.heap.size + 1 + 1, 0, none⟩) 3 3, .slice (some ⟨w.heap.size + 1 + 1 + 1, 0, none⟩) 2 2] 25)) := (((((Below.refl _ w).alloc (Nat.le_refl _) _).alloc (by simp) _).alloc (by simp; omega) _).alloc (by simp; omega) _).alloc (by simp; omega) _
  have o3 : (((((w.alloc (.cells #[.slice none 0 0, .slice none 0 0, .slice none 0 0] 25)).alloc (.cells #[vi 2, vi 2, vi 1] 3)).alloc (.cells #[vi 2, vi 1, vi 2] 3)).alloc (.cells #[iv 0, iv 2, iv 2, iv 1] 50)).alloc (.cells #[.slice (some ⟨w.heap.size + 1, 0, none⟩) 3 3, .slice (some ⟨w.heap.size + 1 + 1, 0, none⟩) 3 3, .slice (some ⟨w.heap.size + 1 + 1 + 1, 0, none⟩) 2 2] 25)).ownsRow (w.heap.size + 1) 50 2 (.slice (some ⟨w.heap.size + 1 + 1 + 1, 0, none⟩) 2 2) 2 (flatV (smN false)) := by
    have h := World.ownsRow_lit (base := w.heap.size + 1) (e := 50) (size := 2) (((w.alloc (.cells #[.slice none 0 0, .slice none 0 0, .slice none 0 0] 25)).alloc (.cells #[vi 2, vi 2, vi 1] 3)).alloc (.cells #[vi 2, vi 1, vi 2] 3)) #[iv 0, iv 2, iv 2, iv 1] 2 (by simp) (by unfold maxLen; omega) rfl
    simp only [World.size_alloc] at h
    exact h.alloc _
  have g0 : (((((w.alloc (.cells #[.slice none 0 0, .slice none 0 0, .slice none 0 0] 25)).alloc (.cells #[vi 2, vi 2, vi 1] 3)).alloc (.cells #[vi 2, vi 1, vi 2] 3)).alloc (.cells #[iv 0, iv 2, iv 2, iv 1] 50)).alloc (.cells #[.slice (some ⟨w.heap.size + 1, 0, none⟩) 3 3, .slice (some ⟨w.heap.size + 1 + 1, 0, none⟩) 3 3, .slice (some ⟨w.heap.size + 1 + 1 + 1, 0, none⟩) 2 2] 25)).heap[w.heap.size]? = some (.cells #[.slice none 0 0, .slice none 0 0, .slice none 0 0] 25 (0, 0)) := heap_next (heap_next (heap_next (heap_next (World.alloc_heap_new _ _) _) _) _) _
  have g1 : (((((w.alloc (.cells #[.slice none 0 0, .slice none 0 0, .slice none 0 0] 25)).alloc (.cells #[vi 2, vi 2, vi 1] 3)).alloc (.cells #[vi 2, vi 1, vi 2] 3)).alloc (.cells #[iv 0, iv 2, iv 2, iv 1] 50)).alloc (.cells #[.slice (some ⟨w.heap.size + 1, 0, none⟩) 3 3, .slice (some ⟨w.heap.size + 1 + 1, 0, none⟩) 3 3, .slice (some ⟨w.heap.size + 1 + 1 + 1, 0, none⟩) 2 2] 25)).heap[w.heap.size + 1]? = some (.cells #[vi 2, vi 2, vi 1] 3 (0, 0)) := by
    have := World.alloc_heap_new (w.alloc (.cells #[.slice none 0 0, .slice none 0 0, .slice none 0 0] 25)) (.cells #[vi 2, vi 2, vi 1] 3)
    simp only [World.size_alloc] at this
    exact heap_next (heap_next (heap_next this _) _) _
  have g2 : (((((w.alloc (.cells #[.slice none 0 0, .slice none 0 0, .slice none 0 0] 25)).alloc (.cells #[vi 2, vi 2, vi 1] 3)).alloc (.cells #[vi 2, vi 1, vi 2] 3)).alloc (.cells #[iv 0, iv 2, iv 2, iv 1] 50)).alloc (.cells #[.slice (some ⟨w.heap.size + 1, 0, none⟩) 3 3, .slice (some ⟨w.heap.size + 1 + 1, 0, none⟩) 3 3, .slice (some ⟨w.heap.size + 1 + 1 + 1, 0, none⟩) 2 2] 25)).heap[w.heap.size + 1 + 1]? = some (.cells #[vi 2, vi 1, vi 2] 3 (0, 0)) := by
    have := World.alloc_heap_new ((w.alloc (.cells #[.slice none 0 0, .slice none 0 0, .slice none 0 0] 25)).alloc (.cells #[vi 2, vi 2, vi 1] 3)) (.cells #[vi 2, vi 1, vi 2] 3)
    simp only [World.size_alloc] at this
    exact heap_next (heap_next this _) _
  have g4 := World.alloc_heap_new ((((w.alloc (.cells #[.slice none 0 0, .slice none 0 0, .slice none 0 0] 25)).alloc (.cells #[vi 2, vi 2, vi 1] 3)).alloc (.cells #[vi 2, vi 1, vi 2] 3)).alloc (.cells #[iv 0, iv 2, iv 2, iv 1] 50)) (.cells #[.slice (some ⟨w.heap.size + 1, 0, none⟩) 3 3, .slice (some ⟨w.heap.size + 1 + 1, 0, none⟩) 3 3, .slice (some ⟨w.heap.size + 1 + 1 + 1, 0, none⟩) 2 2] 25)
  simp only [World.size_alloc] at g4
  generalize ((((w.alloc (.cells #[.slice none 0 0, .slice none 0 0, .slice none 0 0] 25)).alloc (.cells #[vi 2, vi 2, vi 1] 3)).alloc (.cells #[vi 2, vi 1, vi 2] 3)).alloc (.cells #[iv 0, iv 2, iv 2, iv 1] 50)).alloc (.cells #[.slice (some ⟨w.heap.size + 1, 0, none⟩) 3 3, .slice (some ⟨w.heap.size + 1 + 1, 0, none⟩) 3 3, .slice (some ⟨w.heap.size + 1 + 1 + 1, 0, none⟩) 2 2] 25) = X at *
  have hr0 : RowK X (some ⟨w.heap.size + 1 + 1 + 1, 0, none⟩) (smN false) := by
    obtain ⟨A0, c0, ev, hr0, ha0⟩ := row_own_pairs o3 rfl
    simp only [Value.slice.injEq] at ev
    rw [ev.1]
    exact hr0
  have hlt4 := heap_lt g4
  refine exec_seq (exec_seq (exec_region_o fun ds => ?_))
  gi_wp2
  refine eq_mk (Keep.refl _) ?_
  show Exec _ _ (Code.cond _ _ _) _ _ _
  cases b with
  | false =>
    refine exec_cond (b := false) rfl (fun h => by cases h) (fun _ => exec_skip ?_)
    refine sm_end (b := false) (A := some ⟨w.heap.size + 1 + 1 + 1, 0, none⟩) (c := 2) ⟨g0, g1, g2, g4, hr0, fun ad e => by cases e; show w.heap.size < w.heap.size + 1 + 1 + 1; omega, hB⟩ _ (by simp [Slots, Fits])
  | true =>
    refine exec_cond (b := true) rfl (fun _ => ?_) (fun h => by cases h)
    have k2 := cells_get (cs := [_, _, _]) (k := 2) g4 rfl
    obtain ⟨i0, z, hi0, hz0, hz3, hz1, hz2⟩ := info50
    have hsz := hB.size
    refine exec_region_o fun ds => ?_
    gi_wp2_with (gi_at_builtin; refine wpListIn_append_own _ rfl _ _ 23 rfl (w.heap.size + 1) 50 i0 z 2 16 Try.underlying23 hi0 hz0 hz1 hz2 hz3 (by decide) (.slice (some ⟨w.heap.size + 1 + 1 + 1, 0, none⟩) 2 2) 2 (flatV (smN false)) rfl (o3.alloc _) ⟨X.heap.size, 0, none⟩ 1 1 [iv 0, iv 1] rfl rfl (cell_pair _ _ _ _) (by simp [Value.oneCell']) (by unfold maxLen; omega) (by omega) (by simp; omega) ?_; intro v' w' hown2 hgr _; obtain ⟨A1, c1, rfl, hr1, ha1⟩ := row_own_pairs (K := smN true) hown2 rfl; have hblk : ∀ k o, X.heap[k]? = some o → k ≠ w.heap.size + 1 + 1 + 1 → w'.heap[k]? = some o := (fun k o hk hne => (hgr.block k (by rw [World.size_alloc]; have := heap_lt hk; omega) (fun e => hne (by have := Option.some.inj e; exact this))).trans (heap_next hk _)); have hb4 := hblk _ _ g4 (by omega); have k2' := cells_get (cs := [_, _, _]) (k := 2) hb4 rfl; have kf := (frozen_cells hb4 : w'.frozen? ⟨w.heap.size + 1 + 1 + 1 + 1, 2, none⟩ = false))
    have hbk : ∀ j o, (Value.slice (some ⟨w.heap.size + 1 + 1 + 1, 0, none⟩) 2 2).ownBlock = some j → (X.alloc (.cells #[iv 0, iv 1] 50)).heap[j]? = some o → book o = false := by
      intro j o hv ho
      rcases (o3.alloc (.cells #[iv 0, iv 1] 50)).2 with ⟨h, _⟩ | ⟨g', cap', cur, h, _, hg', _⟩
      · cases h
      · rw [h] at hv
        simp only [Value.ownBlock, Option.some.injEq] at hv
        subst hv
        rw [hg'] at ho
        cases ho
        rfl
    have hB3 : Below w.heap.size w w' := (hB.alloc hsz (.cells #[iv 0, iv 1] 50)).grown hgr (by simp; omega) (fun q e => by simp only [Value.ownBlock, Option.some.injEq] at e; omega)
    refine eq_mk ((((Keep.refl _).alloc _).grown hgr hbk).setCell _ _) ?_
    have hbox := box_set w' (w.heap.size + 1 + 1 + 1 + 1) 2 _ 25 (.slice A1 (smN true).length c1) hb4
    have hfar : ∀ k o, X.heap[k]? = some o → k ≠ w.heap.size + 1 + 1 + 1 → k ≠ w.heap.size + 1 + 1 + 1 + 1 → (w'.setCell ⟨w.heap.size + 1 + 1 + 1 + 1, 2, none⟩ (.slice A1 (smN true).length c1)).heap[k]? = some o := fun k o hk h1 h2 => box_far _ _ _ _ _ _ (hblk k o hk h1) h2
    have hne4 : ∀ ad, A1 = some ad → ad.block ≠ w.heap.size + 1 + 1 + 1 + 1 := fun ad e c => by
      rcases hown2.2 with ⟨h, _⟩ | ⟨g, cap, cur, h, _, hg', _⟩
      · simp only [Value.slice.injEq] at h
        rw [e] at h
        cases h.1
      · simp only [Value.slice.injEq] at h
        rw [e] at h
        have := Option.some.inj h.1
        rw [this] at c
        simp only at c
        rw [c, hb4] at hg'
        cases hg'
    show Exec _ _ (Code.seq _ _) _ _ _
    have hSW : SmW w w.heap.size A1 c1 (smN true) (w'.setCell ⟨w.heap.size + 1 + 1 + 1 + 1, 2, none⟩ (.slice A1 (smN true).length c1)) := ⟨hfar _ _ g0 (by omega) (by omega), hfar _ _ g1 (by omega) (by omega), hfar _ _ g2 (by omega) (by omega), hbox, hr1.far (fun _ ad e => hne4 ad e) _, fun ad e => by have := ha1 ad e; omega, hB3.setCell (by show w.heap.size ≤ w.heap.size + 1 + 1 + 1 + 1; omega) _⟩
    refine (sm_end (b := true) hSW _ ?_).mono ?_
    · simp [Slots, Fits]
    · rintro e t W ⟨h1, h2⟩
      refine ⟨h1, fun W' hG => ?_⟩
      obtain ⟨v, hr, a, he, r⟩ := h2 W' hG
      exact ⟨v, hr, a, Ending.returned.inj he, r⟩
end Go.Proofs.Ytbdmmikflkpmpaa
end

section
namespace Go.Proofs.Ytbdmmikflkpmpaa
open Go.RowKit Go.TL Go.Shelf Go.Pn
attribute [local go_sem] Oper.semAt_some
attribute [local go_sem] run_store_func
theorem sm_sit {a : XP} (h : SmX false a) : sitA a = ([3, 1, 6], 0) := by
  obtain ⟨AL, cL, L, AN, cN, N, AK, cK, K⟩ := a
  obtain ⟨h1, h2, h3⟩ := h
  simp only at h1 h2 h3
  subst h1 h2 h3
  kernel_rfl
theorem sm_count {a : XP} (h : SmX false a) : countA a = (1, 0) := by
  obtain ⟨AL, cL, L, AN, cN, N, AK, cK, K⟩ := a
  obtain ⟨h1, h2, h3⟩ := h
  simp only at h1 h2 h3
  subst h1 h2 h3
  kernel_rfl
theorem sm_pair {a : XP} (h : SmX false a) : pairA a 0 0 = (2, 0) := by
  obtain ⟨AL, cL, L, AN, cN, N, AK, cK, K⟩ := a
  obtain ⟨h1, h2, h3⟩ := h
  simp only at h1 h2 h3
  subst h1 h2 h3
  kernel_rfl
theorem sm_busy {a : XP} (h : SmX false a) : busyA a = (2, 0) := by
  obtain ⟨AL, cL, L, AN, cN, N, AK, cK, K⟩ := a
  obtain ⟨h1, h2, h3⟩ := h
  simp only at h1 h2 h3
  subst h1 h2 h3
  kernel_rfl
theorem sm_seats {a : XP} (h : SmX true a) : seatsA a = (4, 0) := by
  obtain ⟨AL, cL, L, AN, cN, N, AK, cK, K⟩ := a
  obtain ⟨h1, h2, h3⟩ := h
  simp only at h1 h2 h3
  subst h1 h2 h3
  kernel_rfl
theorem sm_short {a : XP} (h : SmX true a) : shortA a = (7, 0) := by
  obtain ⟨AL, cL, L, AN, cN, N, AK, cK, K⟩ := a
  obtain ⟨h1, h2, h3⟩ := h
  simp only at h1 h2 h3
  subst h1 h2 h3
  kernel_rfl
theorem sm_waive {a : XP} (h : SmX true a) : waiveA a = (1, 0) := by
  obtain ⟨AL, cL, L, AN, cN, N, AK, cK, K⟩ := a
  obtain ⟨h1, h2, h3⟩ := h
  simp only at h1 h2 h3
  subst h1 h2 h3
  kernel_rfl
set_option maxRecDepth 100000 in
set_option maxHeartbeats 2000000 in
theorem alive14 (w : World) : Calls Try.prog 14 #[] w fun e w' => e = .returned (.bool true) ∧ Below w.heap.size w w' := by
  have hu22 := Try.underlying22
  refine calls_of_exec Try.func14 rfl ?_
  simp only [Try.ntmps14, List.size_toArray, List.length_cons, List.length_nil, Nat.reduceAdd, Nat.reduceSub, Array.replicate_succ, Array.replicate_zero, List.push_toArray, List.append_toArray, List.nil_append, List.cons_append]
  refine exec_seq (exec_region_o fun ds => ?_)
  gi_wp2
  refine eq_mk (Keep.refl w) ?_
  show Exec _ _ _ _ _ _
  refine exec_seq (exec_region_o fun ds => ?_)
  gi_wp2_with fail
  refine ⟨trivial, rfl, (callsIn_wide.2 (sample46 false w)).mono ?_⟩
  rintro e X0 ⟨a, rfl, hs, ha, hx⟩
  have hv0 := sm_sit hs
  gi_wp2_with fail
  refine ⟨trivial, rfl, (callsIn_wide.2 (Sit_any a X0 ha)).mono ?_⟩
  rintro e Y0 ⟨A, c, rfl, hr, hy⟩
  rw [hv0] at hr ⊢
  have hxy0 := hx.trans (hy.mono hx.size)
  have hB0 := hxy0
  gi_wp2
  refine eq_mk (Keep.of_below hxy0) ?_
  show Exec _ _ _ _ _ _
  clear hxy0 hx hy hv0 hs ha
  clear X0
  refine exec_seq (exec_region_o fun ds => ?_)
  gi_wp2_with fail
  refine ⟨trivial, rfl, (callsIn_wide.2 (sample46 false Y0)).mono ?_⟩
  rintro e X1 ⟨a, rfl, hs, ha, hx⟩
  have hv1 := sm_count hs
  gi_wp2_with fail
  have hc1 := Count_any a X1 ha
  rw [hv1] at hc1
  refine ⟨trivial, rfl, (callsIn_wide.2 hc1).mono ?_⟩
  rintro e Y1 ⟨rfl, hy⟩
  have hxy1 := hx.trans (hy.mono hx.size)
  have hB1 := hB0.trans (hxy1.mono hB0.size)
  replace hr := hr.below hxy1
  gi_wp2
  refine eq_mk (Keep.of_below hxy1) ?_
  show Exec _ _ _ _ _ _
  clear hxy1 hx hy hv1 hs ha hc1
  clear X1
  clear hB0
  clear Y0
  refine exec_seq (exec_region_o fun ds => ?_)
  gi_wp2_with fail
  refine ⟨trivial, rfl, (callsIn_wide.2 (sample46 false Y1)).mono ?_⟩
  rintro e X2 ⟨a, rfl, hs, ha, hx⟩
  have hv2 := sm_pair hs
  gi_wp2_with fail
  have hc2 := Pair_any a 0 0 X2 ha
  rw [hv2] at hc2
  refine ⟨trivial, rfl, (callsIn_wide.2 hc2).mono ?_⟩
  rintro e Y2 ⟨rfl, hy⟩
  have hxy2 := hx.trans (hy.mono hx.size)
  have hB2 := hB1.trans (hxy2.mono hB1.size)
  replace hr := hr.below hxy2
  gi_wp2
  refine eq_mk (Keep.of_below hxy2) ?_
  show Exec _ _ _ _ _ _
  clear hxy2 hx hy hv2 hs ha hc2
  clear X2
  clear hB1
  clear Y1
  refine exec_seq (exec_region_o fun ds => ?_)
  gi_wp2_with fail
  refine ⟨trivial, rfl, (callsIn_wide.2 (sample46 false Y2)).mono ?_⟩
  rintro e X3 ⟨a, rfl, hs, ha, hx⟩
  have hv3 := sm_busy hs
  gi_wp2_with fail
  have hc3 := Busy_any a X3 ha
  rw [hv3] at hc3
  refine ⟨trivial, rfl, (callsIn_wide.2 hc3).mono ?_⟩
  rintro e Y3 ⟨rfl, hy⟩
  have hxy3 := hx.trans (hy.mono hx.size)
  have hB3 := hB2.trans (hxy3.mono hB2.size)
  replace hr := hr.below hxy3
  gi_wp2
  refine eq_mk (Keep.of_below hxy3) ?_
  show Exec _ _ _ _ _ _
  clear hxy3 hx hy hv3 hs ha hc3
  clear X3
  clear hB2
  clear Y2
  refine exec_seq (exec_region_o fun ds => ?_)
  gi_wp2_with fail
  refine ⟨trivial, rfl, (callsIn_wide.2 (sample46 true Y3)).mono ?_⟩
  rintro e X4 ⟨a, rfl, hs, ha, hx⟩
  have hv4 := sm_seats hs
  gi_wp2_with fail
  have hc4 := Seats_any a X4 ha
  rw [hv4] at hc4
  refine ⟨trivial, rfl, (callsIn_wide.2 hc4).mono ?_⟩
  rintro e Y4 ⟨rfl, hy⟩
  have hxy4 := hx.trans (hy.mono hx.size)
  have hB4 := hB3.trans (hxy4.mono hB3.size)
  replace hr := hr.below hxy4
  gi_wp2
  refine eq_mk (Keep.of_below hxy4) ?_
  show Exec _ _ _ _ _ _
  clear hxy4 hx hy hv4 hs ha hc4
  clear X4
  clear hB3
  clear Y3
  refine exec_seq (exec_region_o fun ds => ?_)
  gi_wp2_with fail
  refine ⟨trivial, rfl, (callsIn_wide.2 (sample46 true Y4)).mono ?_⟩
  rintro e X5 ⟨a, rfl, hs, ha, hx⟩
  have hv5 := sm_short hs
  gi_wp2_with fail
  have hc5 := Short_any a X5 ha
  rw [hv5] at hc5
  refine ⟨trivial, rfl, (callsIn_wide.2 hc5).mono ?_⟩
  rintro e Y5 ⟨rfl, hy⟩
  have hxy5 := hx.trans (hy.mono hx.size)
  have hB5 := hB4.trans (hxy5.mono hB4.size)
  replace hr := hr.below hxy5
  gi_wp2
  refine eq_mk (Keep.of_below hxy5) ?_
  show Exec _ _ _ _ _ _
  clear hxy5 hx hy hv5 hs ha hc5
  clear X5
  clear hB4
  clear Y4
  refine exec_seq (exec_region_o fun ds => ?_)
  gi_wp2_with fail
  refine ⟨trivial, rfl, (callsIn_wide.2 (sample46 true Y5)).mono ?_⟩
  rintro e X6 ⟨a, rfl, hs, ha, hx⟩
  have hv6 := sm_waive hs
  gi_wp2_with fail
  have hc6 := Waive_any a X6 ha
  rw [hv6] at hc6
  refine ⟨trivial, rfl, (callsIn_wide.2 hc6).mono ?_⟩
  rintro e Y6 ⟨rfl, hy⟩
  have hxy6 := hx.trans (hy.mono hx.size)
  have hB6 := hB5.trans (hxy6.mono hB5.size)
  replace hr := hr.below hxy6
  gi_wp2
  refine eq_mk (Keep.of_below hxy6) ?_
  show Exec _ _ _ _ _ _
  clear hxy6 hx hy hv6 hs ha hc6
  clear X6
  clear hB5
  clear Y5
  have hal := (Below.refl Y6.heap.size Y6).alloc (Nat.le_refl _) (.cells #[vi 3, vi 1, vi 6] 3)
  have hr' : RowV (Y6.alloc (.cells #[vi 3, vi 1, vi 6] 3)) A (([3, 1, 6] : List Int).map vi) := hr.below hal
  have hi := ints21 A (some ⟨Y6.heap.size, 0, none⟩) c 3 [3, 1, 6] [3, 1, 6] (by decide) (by decide) (Y6.alloc (.cells #[vi 3, vi 1, vi 6] 3)) hr' (row3 (World.alloc_heap_new _ _))
  rw [decide_eq_true rfl] at hi
  refine exec_seq (exec_region_o fun ds => ?_)
  gi_wp2_with fail
  refine ⟨trivial, rfl, (callsIn_wide.2 hi).mono ?_⟩
  rintro e Z ⟨rfl, hz⟩
  have hB := hB6.trans ((hal.trans (hz.mono hal.size)).mono hB6.size)
  gi_wp2
  refine eq_mk (((Keep.refl _).alloc _).trans (Keep.of_below hz)) ?_
  show Exec _ _ _ _ _ _
  exact exec_ret ⟨.inr rfl, fun W' hG => ⟨.bool true, by simp [results, Try.f14, go_sem], rfl, hB.trans (hG.below (Nat.le_refl _) hB.size)⟩⟩
end Go.Proofs.Ytbdmmikflkpmpaa
end

section
namespace Go.Proofs.Ytbdmmikflkpmpaa
open Go.RowKit Go.TL Go.Shelf Go.Pn
attribute [local go_sem] Oper.semAt_some
attribute [local go_sem] run_store_func
theorem in70 (x lo hi : Int) (w : World) : Calls Try.prog 70 #[vi x, vi lo, vi hi] w fun e w' => e = .returned (.bool (inB x lo hi)) ∧ Below w.heap.size w w' := by
  refine calls_of_exec Try.func70 rfl ?_
  simp only [Try.ntmps70, List.size_toArray, List.length_cons, List.length_nil, Nat.reduceAdd, Nat.reduceSub, Array.replicate_succ, Array.replicate_zero, List.push_toArray, List.append_toArray, List.nil_append, List.cons_append]
  refine exec_seq (exec_region_o fun ds => ?_)
  gi_wp2
  refine eq_mk (Keep.refl w) ?_
  show Exec _ _ _ _ _ _
  refine exec_seq (exec_region_o fun ds => ?_)
  obtain ⟨R, hR⟩ : ∃ R, inB x lo hi = R := ⟨_, rfl⟩
  simp only [hR]
  have HR := Lib.hid hR
  clear hR
  by_cases h1 : lo ≤ x
  · gi_wp2
    refine eq_mk (Keep.refl w) ?_
    refine exec_ret ⟨.inr rfl, fun W' hG => ⟨.bool R, ?_, rfl, hG.below (Nat.le_refl _) (Nat.le_refl _)⟩⟩
    have : R = decide (x ≤ hi) := by rw [← HR.out]; simp [inB, h1]
    subst this
    simp [results, Try.f70, go_sem]
  · gi_wp2
    refine eq_mk (Keep.refl w) ?_
    refine exec_ret ⟨.inr rfl, fun W' hG => ⟨.bool R, ?_, rfl, hG.below (Nat.le_refl _) (Nat.le_refl _)⟩⟩
    have : R = false := by rw [← HR.out]; unfold inB; rw [decide_eq_false (by omega), Bool.false_and]
    subst this
    simp [results, Try.f70, go_sem]
    try (intro h; omega)
def AlI72 (w : World) (A : Option Addr) (c : Nat) (l : List Int) (hi : Int) (n : Nat) (t : Array Value) (W : World) : Prop :=
  ∃ k : Nat, k ≤ l.length ∧ n = l.length - k ∧ (∀ y ∈ l.take k, inB y 0 hi = true) ∧ Below w.heap.size w W ∧ Slots (some (.slice A l.length c) :: some (vi hi) :: none :: none :: none :: some (iv k) :: none :: o4 (o4 (o4 []))) t
set_option maxRecDepth 100000 in
set_option maxHeartbeats 1000000 in
theorem all72 (A : Option Addr) (c : Nat) (l : List Int) (hl : l.length ≤ 1000000) (hi : Int) (w : World) (hA : RowV w A (l.map vi)) : Calls Try.prog 72 #[.slice A l.length c, vi hi] w fun e w' => e = .returned (.bool (l.all fun y => inB y 0 hi)) ∧ Below w.heap.size w w' := by
  have hu22 := Try.underlying22
  obtain ⟨R, hR⟩ : ∃ R, (l.all fun y => inB y 0 hi) = R := ⟨_, rfl⟩
  rw [hR]
  have HR := Lib.hid hR
  clear hR
  refine calls_of_exec Try.func72 rfl ?_
  simp only [Try.ntmps72, List.size_toArray, List.length_cons, List.length_nil, Nat.reduceAdd, Nat.reduceSub, Array.replicate_succ, Array.replicate_zero, List.push_toArray, List.append_toArray, List.nil_append, List.cons_append]
  refine exec_seq (exec_region_o fun ds => ?_)
  gi_wp2
  refine eq_mk (Keep.refl _) ?_
  show Exec _ _ (Code.seq (Code.seq _ _) _) _ _ _
  refine exec_seq (exec_seq (exec_region_o fun ds => ?_))
  gi_wp2
  refine eq_mk (Keep.refl _) ?_
  show Exec _ _ (Code.block _ _) _ _ _
  refine exec_block ?_
  refine exec_loop (AlI72 w A c l hi) l.length ⟨0, by omega, rfl, by simp, Below.refl _ _, by simp [Slots, Fits]⟩ ?_
  rintro n t W ⟨k, hk, hn, htk, hV, hSl⟩
  have HT := Lib.hid htk
  clear htk
  obtain ⟨x, hx⟩ := Slots.open_ hSl; simp only [fill, Nat.reduceAdd] at hx; subst hx; clear hSl
  show Exec _ _ (Code.seq (Code.seq _ _) _) _ _ _
  refine exec_seq (exec_seq (exec_region_o fun ds => ?_))
  gi_wp2
  refine eq_mk (Keep.refl _) ?_
  show Exec _ _ (Code.cond _ _ _) _ _ _
  refine (exec_cond (b := decide (k < l.length)) (by first | rfl | (show Value.bool _ = _; congr 1; exact decide_eq_decide.2 (by omega))) (fun hp => exec_skip ?_) (fun hp => exec_exit ?_))
  · have hkl : k < l.length := by have := of_decide_eq_true hp; omega
    show Exec _ _ (Code.seq (Code.block _ _) _) _ _ _
    obtain ⟨a1, e1, h1⟩ := row_int (hA.below hV) hkl
    obtain ⟨y1, hy1⟩ : ∃ y, l[k] = y := ⟨_, rfl⟩
    rw [hy1] at h1
    have HY : inB y1 0 hi = true → ∀ y ∈ l.take (k + 1), inB y 0 hi = true := fun e y hy => by
      rw [List.take_succ_eq_append_getElem hkl, List.mem_append, List.mem_singleton] at hy
      rcases hy with hy | hy
      · exact HT.out y hy
      · rw [hy, hy1]; exact e
    have HN : inB y1 0 hi = false → (l.all fun y => inB y 0 hi) = false := fun e => by
      rw [List.all_eq_false]
      exact ⟨y1, by rw [← hy1]; exact List.getElem_mem hkl, by simp [e]⟩
    have HY := Lib.hid HY
    have HN := Lib.hid HN
    clear hy1
    have hkI : (k : Int) < l.length := by omega
    simp only [e1]
    have E1 := Lib.hid e1
    clear e1
    refine exec_cut (fun t' Y => inB y1 0 hi = true ∧ Below w.heap.size w Y ∧ Slots (some (.slice A l.length c) :: some (vi hi) :: none :: none :: none :: some (iv k) :: none :: o4 (o4 (o4 []))) t') (exec_block ?_) ?_
    · show Exec _ _ (Code.seq _ _) _ _ _
      refine exec_seq (exec_region_o fun ds => ?_)
      gi_wp2_with fail
      refine ⟨trivial, rfl, (callsIn_wide.2 (in70 y1 0 hi W)).mono ?_⟩
      rintro e Y ⟨rfl, hy⟩
      have hBd := hV.trans (hy.mono hV.size)
      gi_wp2
      refine eq_mk (Keep.of_below hy) ?_
      show Exec _ _ (Code.cond _ _ _) _ _ _
      cases hq : inB y1 0 hi with
      | true =>
        refine exec_cond (b := false) rfl (fun h => by cases h) (fun _ => exec_skip ?_)
        exact ⟨rfl, hBd, by simp [Slots, Fits, E1.out]⟩
      | false =>
        have hf := HN.out hq
        refine exec_cond (b := true) rfl (fun _ => ?_) (fun h => by cases h)
        have hr : R = false := by rw [← HR.out]; exact hf
        subst hr
        clear hf hq
        refine exec_seq (exec_region_o fun ds => ?_)
        gi_wp2
        refine eq_mk (Keep.refl _) ?_
        show Exec _ _ _ _ _ _
        exact exec_ret ⟨.inr rfl, fun W' hG => ⟨.bool false, by simp [results, Try.f72, go_sem], rfl, hBd.trans (hG.below (Nat.le_refl _) hBd.size)⟩⟩
    · clear hV h1 x
      clear W
      rintro t' Y ⟨hy, hV, hSl⟩
      have hT2 := HY.out hy
      have HT2 := Lib.hid hT2
      clear hT2 hy
      obtain ⟨x, hx⟩ := Slots.open_ hSl; simp only [fill, Nat.reduceAdd] at hx; subst hx; clear hSl
      have hw : IntKind.i64.wrap ((k : Int) + 1) = ((k + 1 : Nat) : Int) := by rw [IntWalk.i64_in _ (by omega)]; norm_cast
      refine exec_region_o fun ds => ?_
      gi_wp2
      exact eq_mk (Keep.refl _) ⟨n - 1, by omega, k + 1, by omega, by omega, HT2.out, hV, by simp only [Slots, Fits, and_self]; simp [E1.out]⟩
  · have hkl : k = l.length := by have := of_decide_eq_false hp; omega
    have htk := HT.out
    rw [hkl, List.take_length] at htk
    have hr : R = true := by rw [← HR.out]; exact List.all_eq_true.2 htk
    subst hr
    clear htk
    show Exec _ _ (Code.seq _ _) _ _ _
    refine exec_seq (exec_region_o fun ds => ?_)
    gi_wp2
    refine eq_mk (Keep.refl _) ?_
    show Exec _ _ _ _ _ _
    exact exec_ret ⟨.inr rfl, fun W' hG => ⟨.bool true, by simp [results, Try.f72, go_sem], rfl, hV.trans (hG.below (Nat.le_refl _) hV.size)⟩⟩
end Go.Proofs.Ytbdmmikflkpmpaa
end

section
namespace Go.Proofs.Ytbdmmikflkpmpaa
open Go.RowKit Go.TL Go.Shelf Go.Pn
attribute [local go_sem] Oper.semAt_some
attribute [local go_sem] run_store_func
def PvI (w : World) (a : XP) (n : Nat) (t : Array Value) (W : World) : Prop :=
  ∃ k : Nat, k ≤ a.K.length ∧ n = a.K.length - k ∧ (∀ y ∈ a.K.take k, kinOut a.L.length a.N.length y = false) ∧ PBx W w.heap.size a ∧ Below w.heap.size w W ∧ Slots (none :: some (.pointer (some ⟨w.heap.size, 0, none⟩)) :: none :: some (iv k) :: none :: none :: none :: o4 (o4 (o16 (o16 (o16 []))))) t
theorem isP_eq (a : XP) : a.isP = (decide (a.L.length ≤ 6) && decide (a.N.length ≤ 6) && decide (a.K.length ≤ 10) && (a.L.all fun y => inB y 0 6) && (a.N.all fun y => inB y 0 3) && !a.K.any (kinOut a.L.length a.N.length)) := by
  have h : ∀ (p : Int → Bool) (l : List Int), (!l.any fun y => !p y) = l.all p := fun p l => by
    rw [List.all_eq_not_any_not]
  unfold XP.isP XP.lens
  rw [h, h]
set_option maxRecDepth 100000 in
set_option maxHeartbeats 2000000 in
theorem panels22 (a : XP) (w : World) (ha : a.At w) : Calls Try.prog 22 #[a.val] w fun e w' => e = .returned (.bool a.isP) ∧ Below w.heap.size w w' := by
  have hu25 := Try.underlying25
  have hu22 := Try.underlying22
  have hu23 := Try.underlying23
  have hu50 := Try.underlying50
  have h4 := ha.l4
  have h5 := ha.n4
  have h6 := ha.k4
  obtain ⟨R, hR⟩ : ∃ R, a.isP = R := ⟨_, rfl⟩
  rw [hR]
  rw [isP_eq] at hR
  have HR := Lib.hid hR
  clear hR
  refine calls_of_exec Try.func22 rfl ?_
  simp only [Try.ntmps22, List.size_toArray, List.length_cons, List.length_nil, Nat.reduceAdd, Nat.reduceSub, Array.replicate_succ, Array.replicate_zero, List.push_toArray, List.append_toArray, List.nil_append, List.cons_append]
  simp only [XP.val]
  refine exec_seq (exec_region_o fun ds => ?_)
  gi_wp2
  refine eq_mk ((Keep.refl _).alloc _) ?_
  show Exec _ _ (Code.seq (Code.seq _ _) _) _ (w.alloc (.cells #[a.sL, a.sN, a.sK] 25)) _
  have hB := (Below.refl w.heap.size w).alloc (Nat.le_refl _) (.cells #[a.sL, a.sN, a.sK] 25)
  have hX : PBx (w.alloc (.cells #[a.sL, a.sN, a.sK] 25)) w.heap.size a := ⟨World.alloc_heap_new _ _, ha.below hB⟩
  generalize w.alloc (.cells #[a.sL, a.sN, a.sK] 25) = X at *
  refine exec_seq (exec_seq (exec_region_o fun ds => ?_))
  gi_wp2
  refine eq_mk (Keep.refl _) ?_
  show Exec _ _ (Code.block _ _) _ _ _
  refine exec_block ?_
  refine exec_loop (PvI w a) a.K.length ⟨0, by omega, rfl, by simp, hX, hB, by simp [Slots, Fits]⟩ ?_
  clear hX hB
  clear X
  rintro n t W ⟨k, hk, hn, htk, hX, hV, hSl⟩
  have HT := Lib.hid htk
  have HN := Lib.hid hn
  clear htk hn
  have hh := hX.heap
  simp only [XP.sL, XP.sN, XP.sK] at hh
  have c0 : ∀ Y, Below W.heap.size W Y → Y.cell? ⟨w.heap.size, 0, none⟩ = some (.slice a.AL a.L.length a.cL) := fun Y hY => cells_get (cs := [_, _, _]) (k := 0) ((hX.keep hY).heap) rfl
  have c1 : ∀ Y, Below W.heap.size W Y → Y.cell? ⟨w.heap.size, 1, none⟩ = some (.slice a.AN a.N.length a.cN) := fun Y hY => cells_get (cs := [_, _, _]) (k := 1) ((hX.keep hY).heap) rfl
  have c2 : ∀ Y, Below W.heap.size W Y → Y.cell? ⟨w.heap.size, 2, none⟩ = some (.slice a.AK a.K.length a.cK) := fun Y hY => cells_get (cs := [_, _, _]) (k := 2) ((hX.keep hY).heap) rfl
  clear hh
  have e2 := c2 W (Below.refl _ _)
  obtain ⟨x, hx⟩ := Slots.open_ hSl; simp only [fill, Nat.reduceAdd] at hx; subst hx; clear hSl
  show Exec _ _ (Code.seq (Code.seq _ _) _) _ _ _
  refine exec_seq (exec_seq (exec_region_o fun ds => ?_))
  gi_wp2
  refine eq_mk (Keep.refl _) ?_
  show Exec _ _ (Code.cond _ _ _) _ _ _
  refine (exec_cond (b := decide (k < a.K.length)) (by first | rfl | (show Value.bool _ = _; congr 1; exact decide_eq_decide.2 (by omega))) (fun hp => exec_skip ?_) (fun hp => exec_exit ?_))
  · have hkl : k < a.K.length := by have := of_decide_eq_true hp; omega
    clear e2
    show Exec _ _ (Code.seq (Code.block _ _) _) _ _ _
    obtain ⟨y, hy⟩ : ∃ y, a.K[k]? = some y := ⟨_, List.getElem?_eq_getElem hkl⟩
    obtain ⟨ad, hA, hc1, hc2⟩ := hX.at_.k k y hy
    have hym := List.mem_of_getElem? hy
    have HY : kinOut a.L.length a.N.length y = false → ∀ z ∈ a.K.take (k + 1), kinOut a.L.length a.N.length z = false := fun e z hz => by
      rw [List.take_add_one, hy] at hz
      rcases List.mem_append.1 hz with hz | hz
      · exact HT.out z hz
      · simp at hz
        rw [hz]; exact e
    have HF : kinOut a.L.length a.N.length y = true → R = false := fun e => by
      rw [← HR.out]
      have : a.K.any (kinOut a.L.length a.N.length) = true := List.any_eq_true.2 ⟨y, hym, e⟩
      rw [this]
      simp
    have HY := Lib.hid HY
    have HF := Lib.hid HF
    clear hy hym
    obtain ⟨y1, y2⟩ := y
    simp only at hc1 hc2
    have hkI : (k : Int) < a.K.length := by omega
    have hw1 : IntKind.i64.wrap ((a.L.length : Int) - 1) = (a.L.length : Int) - 1 := IntWalk.i64_in _ (by omega)
    have hw2 : IntKind.i64.wrap ((a.N.length : Int) - 1) = (a.N.length : Int) - 1 := IntWalk.i64_in _ (by omega)
    rw [hA] at c2
    have hS0 : ∀ {Y : World}, Below W.heap.size W Y → Y.cell? (ad.add (k * 2)) = some (vi y1) ∧ Y.cell? ⟨(ad.add (k * 2)).block, (ad.add (k * 2)).off + 1, none⟩ = some (vi y2) := fun hY => ⟨(Grow.of_below (B := 0) hY).cell hc1, (Grow.of_below (B := 0) hY).cell hc2⟩
    refine exec_cut (fun t' Y => kinOut a.L.length a.N.length (y1, y2) = false ∧ PBx Y w.heap.size a ∧ Below w.heap.size w Y ∧ Slots (none :: some (.pointer (some ⟨w.heap.size, 0, none⟩)) :: none :: some (iv k) :: none :: none :: none :: o4 (o4 (o16 (o16 (o16 []))))) t') (exec_block ?_) ?_
    · have hd : Below W.heap.size W W.drew := (Below.refl _ W).drew
      show Exec _ _ (Code.seq _ _) _ _ _
      refine exec_seq (region_of_tail 26 (by kernel_rfl) (by kernel_rfl) (by kernel_rfl) (fun Y => Below W.heap.size W Y) (fun _ _ _ => False) (fun _ _ _ h => h.elim) fun ds => ?_)
      have hS := hd
      refine held_take 0 (.pointer (some ⟨w.heap.size, 2, none⟩)) rfl (by kernel_rfl) (by kernel_rfl) (by kernel_rfl) (by intro _ _ _ h; first | exact h | (simpa [behind, Act.put] using h)) rfl (by first | exact hS | assumption) (fun wq hq => ?_) ?_; (focus (simp [go_sem, hu25]; done)); simp only [Act.put, Array.getInternal_eq_getElem, List.take_succ_cons, List.take_zero, List.take_nil, List.getElem_toArray, List.getElem_cons_succ, List.getElem_cons_zero, List.setIfInBounds_toArray, List.set_cons_succ, List.set_cons_zero]
      refine held_take 1 (.slice (some ad) a.K.length a.cK) rfl (by kernel_rfl) (by kernel_rfl) (by kernel_rfl) (by intro _ _ _ h; first | exact h | (simpa [behind, Act.put] using h)) rfl (by first | exact hS | assumption) (fun wq hq => ?_) ?_; (focus (simp [go_sem, c2 wq hq]; done)); simp only [Act.put, Array.getInternal_eq_getElem, List.take_succ_cons, List.take_zero, List.take_nil, List.getElem_toArray, List.getElem_cons_succ, List.getElem_cons_zero, List.setIfInBounds_toArray, List.set_cons_succ, List.set_cons_zero]
      refine held_take 2 (iv k) rfl (by kernel_rfl) (by kernel_rfl) (by kernel_rfl) (by intro _ _ _ h; first | exact h | (simpa [behind, Act.put] using h)) rfl (by first | exact hS | assumption) (fun wq hq => ?_) ?_; (focus (first | rfl | (simp [go_sem]; done))); simp only [Act.put, Array.getInternal_eq_getElem, List.take_succ_cons, List.take_zero, List.take_nil, List.getElem_toArray, List.getElem_cons_succ, List.getElem_cons_zero, List.setIfInBounds_toArray, List.set_cons_succ, List.set_cons_zero]
      refine held_take 3 (.pointer (some (ad.add (k * 2)))) rfl (by kernel_rfl) (by kernel_rfl) (by kernel_rfl) (by intro _ _ _ h; first | exact h | (simpa [behind, Act.put] using h)) rfl (by first | exact hS | assumption) (fun wq hq => ?_) ?_; (focus (simp [go_sem, hu23, hkI]; done)); simp only [Act.put, Array.getInternal_eq_getElem, List.take_succ_cons, List.take_zero, List.take_nil, List.getElem_toArray, List.getElem_cons_succ, List.getElem_cons_zero, List.setIfInBounds_toArray, List.set_cons_succ, List.set_cons_zero]
      refine held_take 4 (.pointer (some (ad.add (k * 2)))) rfl (by kernel_rfl) (by kernel_rfl) (by kernel_rfl) (by intro _ _ _ h; first | exact h | (simpa [behind, Act.put] using h)) rfl (by first | exact hS | assumption) (fun wq hq => ?_) ?_; (focus (simp [go_sem, hu50]; done)); simp only [Act.put, Array.getInternal_eq_getElem, List.take_succ_cons, List.take_zero, List.take_nil, List.getElem_toArray, List.getElem_cons_succ, List.getElem_cons_zero, List.setIfInBounds_toArray, List.set_cons_succ, List.set_cons_zero]
      refine held_take 5 (vi y1) rfl (by kernel_rfl) (by kernel_rfl) (by kernel_rfl) (by intro _ _ _ h; first | exact h | (simpa [behind, Act.put] using h)) rfl (by first | exact hS | assumption) (fun wq hq => ?_) ?_; (focus (simp [go_sem, (hS0 hq).1]; done)); simp only [Act.put, Array.getInternal_eq_getElem, List.take_succ_cons, List.take_zero, List.take_nil, List.getElem_toArray, List.getElem_cons_succ, List.getElem_cons_zero, List.setIfInBounds_toArray, List.set_cons_succ, List.set_cons_zero]
      refine held_take 6 (.pointer (some ⟨w.heap.size, 0, none⟩)) rfl (by kernel_rfl) (by kernel_rfl) (by kernel_rfl) (by intro _ _ _ h; first | exact h | (simpa [behind, Act.put] using h)) rfl (by first | exact hS | assumption) (fun wq hq => ?_) ?_; (focus (simp [go_sem, hu25]; done)); simp only [Act.put, Array.getInternal_eq_getElem, List.take_succ_cons, List.take_zero, List.take_nil, List.getElem_toArray, List.getElem_cons_succ, List.getElem_cons_zero, List.setIfInBounds_toArray, List.set_cons_succ, List.set_cons_zero]
      refine held_take 7 (.slice a.AL a.L.length a.cL) rfl (by kernel_rfl) (by kernel_rfl) (by kernel_rfl) (by intro _ _ _ h; first | exact h | (simpa [behind, Act.put] using h)) rfl (by first | exact hS | assumption) (fun wq hq => ?_) ?_; (focus (simp [go_sem, c0 wq hq]; done)); simp only [Act.put, Array.getInternal_eq_getElem, List.take_succ_cons, List.take_zero, List.take_nil, List.getElem_toArray, List.getElem_cons_succ, List.getElem_cons_zero, List.setIfInBounds_toArray, List.set_cons_succ, List.set_cons_zero]
      refine held_take 8 (iv a.L.length) rfl (by kernel_rfl) (by kernel_rfl) (by kernel_rfl) (by intro _ _ _ h; first | exact h | (simpa [behind, Act.put] using h)) rfl (by first | exact hS | assumption) (fun wq hq => ?_) ?_; (focus (simp [go_sem]; done)); simp only [Act.put, Array.getInternal_eq_getElem, List.take_succ_cons, List.take_zero, List.take_nil, List.getElem_toArray, List.getElem_cons_succ, List.getElem_cons_zero, List.setIfInBounds_toArray, List.set_cons_succ, List.set_cons_zero]
      refine held_take 9 (vi ((a.L.length : Int) - 1)) rfl (by kernel_rfl) (by kernel_rfl) (by kernel_rfl) (by intro _ _ _ h; first | exact h | (simpa [behind, Act.put] using h)) rfl (by first | exact hS | assumption) (fun wq hq => ?_) ?_; (focus (simp [go_sem, hw1]; done)); simp only [Act.put, Array.getInternal_eq_getElem, List.take_succ_cons, List.take_zero, List.take_nil, List.getElem_toArray, List.getElem_cons_succ, List.getElem_cons_zero, List.setIfInBounds_toArray, List.set_cons_succ, List.set_cons_zero]
      refine held_call 10 (f := 70) (args := #[vi y1, vi 0, vi ((a.L.length : Int) - 1)]) rfl (by kernel_rfl) rfl (by simp [go_sem]) ?_
      refine (in70 y1 0 ((a.L.length : Int) - 1) W.drew).mono ?_
      rintro e X1 ⟨rfl, hx1⟩
      have k1 : Below W.heap.size W X1 := hS.trans hx1
      refine .inl ⟨_, rfl, k1, ?_⟩
      simp only [Act.put, Array.getInternal_eq_getElem, List.take_succ_cons, List.take_zero, List.take_nil, List.getElem_toArray, List.getElem_cons_succ, List.getElem_cons_zero, List.setIfInBounds_toArray, List.set_cons_succ, List.set_cons_zero]
      have hko : kinOut a.L.length a.N.length (y1, y2) = (!inB y1 0 ((a.L.length : Int) - 1) || !inB y2 0 ((a.N.length : Int) - 1)) := rfl
      have HKO := Lib.hid hko
      clear hko
      generalize inB y1 0 ((a.L.length : Int) - 1) = q1 at *
      have hX1 := hX.keep k1
      have hB1 := hV.trans (k1.mono hV.size)
      clear hS
      cases q1 with
      | false =>
        refine held_take 11 (.bool true) rfl (by kernel_rfl) (by kernel_rfl) (by kernel_rfl) (by intro _ _ _ h; first | exact h | (simpa [behind, Act.put] using h)) rfl (by first | exact hS | assumption) (fun wq hq => ?_) ?_; (focus (simp [go_sem]; done)); simp only [Act.put, Array.getInternal_eq_getElem, List.take_succ_cons, List.take_zero, List.take_nil, List.getElem_toArray, List.getElem_cons_succ, List.getElem_cons_zero, List.setIfInBounds_toArray, List.set_cons_succ, List.set_cons_zero]
        refine held_take 12 (.bool true) rfl (by kernel_rfl) (by kernel_rfl) (by kernel_rfl) (by intro _ _ _ h; first | exact h | (simpa [behind, Act.put] using h)) rfl (by first | exact hS | assumption) (fun wq hq => ?_) ?_; (focus (simp [go_sem]; done)); simp only [Act.put, Array.getInternal_eq_getElem, List.take_succ_cons, List.take_zero, List.take_nil, List.getElem_toArray, List.getElem_cons_succ, List.getElem_cons_zero, List.setIfInBounds_toArray, List.set_cons_succ, List.set_cons_zero]
        refine held_pass 13 rfl (by kernel_rfl) (by kernel_rfl) (by kernel_rfl) (by intro _ _ _ h; exact h) (by kernel_rfl) (by first | exact hS | assumption) ?_; simp only [Act.put, Array.getInternal_eq_getElem, List.take_succ_cons, List.take_zero, List.take_nil, List.getElem_toArray, List.getElem_cons_succ, List.getElem_cons_zero, List.setIfInBounds_toArray, List.set_cons_succ, List.set_cons_zero]
        refine held_pass 14 rfl (by kernel_rfl) (by kernel_rfl) (by kernel_rfl) (by intro _ _ _ h; exact h) (by kernel_rfl) (by first | exact hS | assumption) ?_; simp only [Act.put, Array.getInternal_eq_getElem, List.take_succ_cons, List.take_zero, List.take_nil, List.getElem_toArray, List.getElem_cons_succ, List.getElem_cons_zero, List.setIfInBounds_toArray, List.set_cons_succ, List.set_cons_zero]
        refine held_pass 15 rfl (by kernel_rfl) (by kernel_rfl) (by kernel_rfl) (by intro _ _ _ h; exact h) (by kernel_rfl) (by first | exact hS | assumption) ?_; simp only [Act.put, Array.getInternal_eq_getElem, List.take_succ_cons, List.take_zero, List.take_nil, List.getElem_toArray, List.getElem_cons_succ, List.getElem_cons_zero, List.setIfInBounds_toArray, List.set_cons_succ, List.set_cons_zero]
        refine held_pass 16 rfl (by kernel_rfl) (by kernel_rfl) (by kernel_rfl) (by intro _ _ _ h; exact h) (by kernel_rfl) (by first | exact hS | assumption) ?_; simp only [Act.put, Array.getInternal_eq_getElem, List.take_succ_cons, List.take_zero, List.take_nil, List.getElem_toArray, List.getElem_cons_succ, List.getElem_cons_zero, List.setIfInBounds_toArray, List.set_cons_succ, List.set_cons_zero]
        refine held_pass 17 rfl (by kernel_rfl) (by kernel_rfl) (by kernel_rfl) (by intro _ _ _ h; exact h) (by kernel_rfl) (by first | exact hS | assumption) ?_; simp only [Act.put, Array.getInternal_eq_getElem, List.take_succ_cons, List.take_zero, List.take_nil, List.getElem_toArray, List.getElem_cons_succ, List.getElem_cons_zero, List.setIfInBounds_toArray, List.set_cons_succ, List.set_cons_zero]
        refine held_pass 18 rfl (by kernel_rfl) (by kernel_rfl) (by kernel_rfl) (by intro _ _ _ h; exact h) (by kernel_rfl) (by first | exact hS | assumption) ?_; simp only [Act.put, Array.getInternal_eq_getElem, List.take_succ_cons, List.take_zero, List.take_nil, List.getElem_toArray, List.getElem_cons_succ, List.getElem_cons_zero, List.setIfInBounds_toArray, List.set_cons_succ, List.set_cons_zero]
        refine held_pass 19 rfl (by kernel_rfl) (by kernel_rfl) (by kernel_rfl) (by intro _ _ _ h; exact h) (by kernel_rfl) (by first | exact hS | assumption) ?_; simp only [Act.put, Array.getInternal_eq_getElem, List.take_succ_cons, List.take_zero, List.take_nil, List.getElem_toArray, List.getElem_cons_succ, List.getElem_cons_zero, List.setIfInBounds_toArray, List.set_cons_succ, List.set_cons_zero]
        refine held_pass 20 rfl (by kernel_rfl) (by kernel_rfl) (by kernel_rfl) (by intro _ _ _ h; exact h) (by kernel_rfl) (by first | exact hS | assumption) ?_; simp only [Act.put, Array.getInternal_eq_getElem, List.take_succ_cons, List.take_zero, List.take_nil, List.getElem_toArray, List.getElem_cons_succ, List.getElem_cons_zero, List.setIfInBounds_toArray, List.set_cons_succ, List.set_cons_zero]
        refine held_pass 21 rfl (by kernel_rfl) (by kernel_rfl) (by kernel_rfl) (by intro _ _ _ h; exact h) (by kernel_rfl) (by first | exact hS | assumption) ?_; simp only [Act.put, Array.getInternal_eq_getElem, List.take_succ_cons, List.take_zero, List.take_nil, List.getElem_toArray, List.getElem_cons_succ, List.getElem_cons_zero, List.setIfInBounds_toArray, List.set_cons_succ, List.set_cons_zero]
        refine held_pass 22 rfl (by kernel_rfl) (by kernel_rfl) (by kernel_rfl) (by intro _ _ _ h; exact h) (by kernel_rfl) (by first | exact hS | assumption) ?_; simp only [Act.put, Array.getInternal_eq_getElem, List.take_succ_cons, List.take_zero, List.take_nil, List.getElem_toArray, List.getElem_cons_succ, List.getElem_cons_zero, List.setIfInBounds_toArray, List.set_cons_succ, List.set_cons_zero]
        refine held_pass 23 rfl (by kernel_rfl) (by kernel_rfl) (by kernel_rfl) (by intro _ _ _ h; exact h) (by kernel_rfl) (by first | exact hS | assumption) ?_; simp only [Act.put, Array.getInternal_eq_getElem, List.take_succ_cons, List.take_zero, List.take_nil, List.getElem_toArray, List.getElem_cons_succ, List.getElem_cons_zero, List.setIfInBounds_toArray, List.set_cons_succ, List.set_cons_zero]
        refine held_pass 24 rfl (by kernel_rfl) (by kernel_rfl) (by kernel_rfl) (by intro _ _ _ h; exact h) (by kernel_rfl) (by first | exact hS | assumption) ?_; simp only [Act.put, Array.getInternal_eq_getElem, List.take_succ_cons, List.take_zero, List.take_nil, List.getElem_toArray, List.getElem_cons_succ, List.getElem_cons_zero, List.setIfInBounds_toArray, List.set_cons_succ, List.set_cons_zero]
        refine held_take 25 (.bool true) rfl (by kernel_rfl) (by kernel_rfl) (by kernel_rfl) (by intro _ _ _ h; first | exact h | (simpa [behind, Act.put] using h)) rfl (by first | exact hS | assumption) (fun wq hq => ?_) ?_; (focus (simp [go_sem]; done)); simp only [Act.put, Array.getInternal_eq_getElem, List.take_succ_cons, List.take_zero, List.take_nil, List.getElem_toArray, List.getElem_cons_succ, List.getElem_cons_zero, List.setIfInBounds_toArray, List.set_cons_succ, List.set_cons_zero]
        refine held_done (by kernel_rfl) ?_
        refine any_done (by kernel_rfl) ⟨rfl, Keep.of_below k1, ?_⟩
        show Exec _ _ (Code.cond _ _ _) _ _ _
        refine exec_cond (b := true) rfl (fun _ => ?_) (fun h => by cases h)
        have hr : R = false := HF.out (by rw [HKO.out]; rfl)
        subst hr
        refine exec_seq (exec_region_o fun ds => ?_)
        gi_wp2
        refine eq_mk (Keep.refl _) ?_
        show Exec _ _ _ _ _ _
        exact exec_ret ⟨.inr rfl, fun W' hG => ⟨.bool false, by simp [results, Try.f22, go_sem], rfl, hB1.trans (hG.below (Nat.le_refl _) hB1.size)⟩⟩
      | true =>
        refine held_take 11 (.bool false) rfl (by kernel_rfl) (by kernel_rfl) (by kernel_rfl) (by intro _ _ _ h; first | exact h | (simpa [behind, Act.put] using h)) rfl (by first | exact hS | assumption) (fun wq hq => ?_) ?_; (focus (simp [go_sem]; done)); simp only [Act.put, Array.getInternal_eq_getElem, List.take_succ_cons, List.take_zero, List.take_nil, List.getElem_toArray, List.getElem_cons_succ, List.getElem_cons_zero, List.setIfInBounds_toArray, List.set_cons_succ, List.set_cons_zero]
        refine held_take 12 (.bool false) rfl (by kernel_rfl) (by kernel_rfl) (by kernel_rfl) (by intro _ _ _ h; first | exact h | (simpa [behind, Act.put] using h)) rfl (by first | exact hS | assumption) (fun wq hq => ?_) ?_; (focus (simp [go_sem]; done)); simp only [Act.put, Array.getInternal_eq_getElem, List.take_succ_cons, List.take_zero, List.take_nil, List.getElem_toArray, List.getElem_cons_succ, List.getElem_cons_zero, List.setIfInBounds_toArray, List.set_cons_succ, List.set_cons_zero]
        refine held_take 13 (.pointer (some ⟨w.heap.size, 2, none⟩)) rfl (by kernel_rfl) (by kernel_rfl) (by kernel_rfl) (by intro _ _ _ h; exact h) (by kernel_rfl) (by first | exact hS | assumption) (fun wq hq => ?_) ?_; (focus (simp [go_sem, hu25]; done)); simp only [Act.put, Array.getInternal_eq_getElem, List.take_succ_cons, List.take_zero, List.take_nil, List.getElem_toArray, List.getElem_cons_succ, List.getElem_cons_zero, List.setIfInBounds_toArray, List.set_cons_succ, List.set_cons_zero]
        refine held_take 14 (.slice (some ad) a.K.length a.cK) rfl (by kernel_rfl) (by kernel_rfl) (by kernel_rfl) (by intro _ _ _ h; exact h) (by kernel_rfl) (by first | exact hS | assumption) (fun wq hq => ?_) ?_; (focus (simp [go_sem, c2 wq hq]; done)); simp only [Act.put, Array.getInternal_eq_getElem, List.take_succ_cons, List.take_zero, List.take_nil, List.getElem_toArray, List.getElem_cons_succ, List.getElem_cons_zero, List.setIfInBounds_toArray, List.set_cons_succ, List.set_cons_zero]
        refine held_take 15 (iv k) rfl (by kernel_rfl) (by kernel_rfl) (by kernel_rfl) (by intro _ _ _ h; exact h) (by kernel_rfl) (by first | exact hS | assumption) (fun wq hq => ?_) ?_; (focus (simp [go_sem]; done)); simp only [Act.put, Array.getInternal_eq_getElem, List.take_succ_cons, List.take_zero, List.take_nil, List.getElem_toArray, List.getElem_cons_succ, List.getElem_cons_zero, List.setIfInBounds_toArray, List.set_cons_succ, List.set_cons_zero]
        refine held_take 16 (.pointer (some (ad.add (k * 2)))) rfl (by kernel_rfl) (by kernel_rfl) (by kernel_rfl) (by intro _ _ _ h; exact h) (by kernel_rfl) (by first | exact hS | assumption) (fun wq hq => ?_) ?_; (focus (simp [go_sem, hu23, hkI]; done)); simp only [Act.put, Array.getInternal_eq_getElem, List.take_succ_cons, List.take_zero, List.take_nil, List.getElem_toArray, List.getElem_cons_succ, List.getElem_cons_zero, List.setIfInBounds_toArray, List.set_cons_succ, List.set_cons_zero]
        refine held_take 17 (.pointer (some ⟨(ad.add (k * 2)).block, (ad.add (k * 2)).off + 1, none⟩)) rfl (by kernel_rfl) (by kernel_rfl) (by kernel_rfl) (by intro _ _ _ h; exact h) (by kernel_rfl) (by first | exact hS | assumption) (fun wq hq => ?_) ?_; (focus (simp [go_sem, hu50]; done)); simp only [Act.put, Array.getInternal_eq_getElem, List.take_succ_cons, List.take_zero, List.take_nil, List.getElem_toArray, List.getElem_cons_succ, List.getElem_cons_zero, List.setIfInBounds_toArray, List.set_cons_succ, List.set_cons_zero]
        refine held_take 18 (vi y2) rfl (by kernel_rfl) (by kernel_rfl) (by kernel_rfl) (by intro _ _ _ h; exact h) (by kernel_rfl) (by first | exact hS | assumption) (fun wq hq => ?_) ?_; (focus (simp [go_sem, (hS0 hq).2]; done)); simp only [Act.put, Array.getInternal_eq_getElem, List.take_succ_cons, List.take_zero, List.take_nil, List.getElem_toArray, List.getElem_cons_succ, List.getElem_cons_zero, List.setIfInBounds_toArray, List.set_cons_succ, List.set_cons_zero]
        refine held_take 19 (.pointer (some ⟨w.heap.size, 1, none⟩)) rfl (by kernel_rfl) (by kernel_rfl) (by kernel_rfl) (by intro _ _ _ h; exact h) (by kernel_rfl) (by first | exact hS | assumption) (fun wq hq => ?_) ?_; (focus (simp [go_sem, hu25]; done)); simp only [Act.put, Array.getInternal_eq_getElem, List.take_succ_cons, List.take_zero, List.take_nil, List.getElem_toArray, List.getElem_cons_succ, List.getElem_cons_zero, List.setIfInBounds_toArray, List.set_cons_succ, List.set_cons_zero]
        refine held_take 20 (.slice a.AN a.N.length a.cN) rfl (by kernel_rfl) (by kernel_rfl) (by kernel_rfl) (by intro _ _ _ h; exact h) (by kernel_rfl) (by first | exact hS | assumption) (fun wq hq => ?_) ?_; (focus (simp [go_sem, c1 wq hq]; done)); simp only [Act.put, Array.getInternal_eq_getElem, List.take_succ_cons, List.take_zero, List.take_nil, List.getElem_toArray, List.getElem_cons_succ, List.getElem_cons_zero, List.setIfInBounds_toArray, List.set_cons_succ, List.set_cons_zero]
        refine held_take 21 (iv a.N.length) rfl (by kernel_rfl) (by kernel_rfl) (by kernel_rfl) (by intro _ _ _ h; exact h) (by kernel_rfl) (by first | exact hS | assumption) (fun wq hq => ?_) ?_; (focus (simp [go_sem]; done)); simp only [Act.put, Array.getInternal_eq_getElem, List.take_succ_cons, List.take_zero, List.take_nil, List.getElem_toArray, List.getElem_cons_succ, List.getElem_cons_zero, List.setIfInBounds_toArray, List.set_cons_succ, List.set_cons_zero]
        refine held_take 22 (vi ((a.N.length : Int) - 1)) rfl (by kernel_rfl) (by kernel_rfl) (by kernel_rfl) (by intro _ _ _ h; exact h) (by kernel_rfl) (by first | exact hS | assumption) (fun wq hq => ?_) ?_; (focus (simp [go_sem, hw2]; done)); simp only [Act.put, Array.getInternal_eq_getElem, List.take_succ_cons, List.take_zero, List.take_nil, List.getElem_toArray, List.getElem_cons_succ, List.getElem_cons_zero, List.setIfInBounds_toArray, List.set_cons_succ, List.set_cons_zero]
        refine held_call 23 (f := 70) (args := #[vi y2, vi 0, vi ((a.N.length : Int) - 1)]) rfl (by kernel_rfl) (by kernel_rfl) (by simp [go_sem]) ?_
        refine (in70 y2 0 ((a.N.length : Int) - 1) X1).mono ?_
        rintro e X2 ⟨rfl, hx2⟩
        have k2 : Below W.heap.size W X2 := k1.trans (hx2.mono k1.size)
        refine .inl ⟨_, rfl, k2, ?_⟩
        simp only [Act.put, Array.getInternal_eq_getElem, List.take_succ_cons, List.take_zero, List.take_nil, List.getElem_toArray, List.getElem_cons_succ, List.getElem_cons_zero, List.setIfInBounds_toArray, List.set_cons_succ, List.set_cons_zero]
        generalize inB y2 0 ((a.N.length : Int) - 1) = q2 at *
        refine held_take 24 (.bool (!q2)) rfl (by kernel_rfl) (by kernel_rfl) (by kernel_rfl) (by intro _ _ _ h; exact h) (by kernel_rfl) (by first | exact hS | assumption) (fun wq hq => ?_) ?_; (focus (simp [go_sem]; done)); simp only [Act.put, Array.getInternal_eq_getElem, List.take_succ_cons, List.take_zero, List.take_nil, List.getElem_toArray, List.getElem_cons_succ, List.getElem_cons_zero, List.setIfInBounds_toArray, List.set_cons_succ, List.set_cons_zero]
        refine held_take 25 (.bool (!q2)) rfl (by kernel_rfl) (by kernel_rfl) (by kernel_rfl) (by intro _ _ _ h; exact h) (by kernel_rfl) (by first | exact hS | assumption) (fun wq hq => ?_) ?_; (focus (simp [go_sem]; done)); simp only [Act.put, Array.getInternal_eq_getElem, List.take_succ_cons, List.take_zero, List.take_nil, List.getElem_toArray, List.getElem_cons_succ, List.getElem_cons_zero, List.setIfInBounds_toArray, List.set_cons_succ, List.set_cons_zero]
        refine held_done (by kernel_rfl) ?_
        refine any_done (by kernel_rfl) ⟨rfl, Keep.of_below k2, ?_⟩
        show Exec _ _ (Code.cond _ _ _) _ _ _
        have hB2 := hV.trans (k2.mono hV.size)
        cases q2 with
        | true =>
          refine exec_cond (b := false) rfl (fun h => by cases h) (fun _ => exec_skip ?_)
          exact ⟨by rw [HKO.out]; rfl, hX.keep k2, hB2, by simp [Slots, Fits]⟩
        | false =>
          refine exec_cond (b := true) rfl (fun _ => ?_) (fun h => by cases h)
          have hr : R = false := HF.out (by rw [HKO.out]; rfl)
          subst hr
          refine exec_seq (exec_region_o fun ds => ?_)
          gi_wp2
          refine eq_mk (Keep.refl _) ?_
          show Exec _ _ _ _ _ _
          exact exec_ret ⟨.inr rfl, fun W' hG => ⟨.bool false, by simp [results, Try.f22, go_sem], rfl, hB2.trans (hG.below (Nat.le_refl _) hB2.size)⟩⟩
    · clear hV hX hc1 hc2 c0 c1 c2 hS0 x
      clear W
      rintro t' Y ⟨hy, hX, hV, hSl⟩
      have hT2 := HY.out hy
      have HT2 := Lib.hid hT2
      clear hT2 hy
      obtain ⟨x, hx⟩ := Slots.open_ hSl; simp only [fill, Nat.reduceAdd] at hx; subst hx; clear hSl
      have hw : IntKind.i64.wrap ((k : Int) + 1) = ((k + 1 : Nat) : Int) := by rw [IntWalk.i64_in _ (by omega)]; norm_cast
      refine exec_region_o fun ds => ?_
      gi_wp2
      exact eq_mk (Keep.refl _) ⟨n - 1, by rw [HN.out]; omega, k + 1, by omega, by rw [HN.out]; omega, HT2.out, hX, hV, by simp only [Slots, Fits, and_self]; simp⟩
  · have hkl : k = a.K.length := by have := of_decide_eq_false hp; omega
    have htk := HT.out
    rw [hkl, List.take_length] at htk
    have hka : a.K.any (kinOut a.L.length a.N.length) = false := List.any_eq_false.2 fun y hy => by simp [htk y hy]
    have hR := HR.out
    rw [hka, Bool.not_false, Bool.and_true] at hR
    have HR2 := Lib.hid hR
    clear hR hka htk
    have e0 := c0 W (Below.refl _ _)
    have e1 := c1 W (Below.refl _ _)
    show Exec _ _ (Code.seq _ _) _ _ _
    have hl1 : (a.L.length ≤ 6) ∨ ¬ a.L.length ≤ 6 := Classical.em _
    have hn1 : (a.N.length ≤ 6) ∨ ¬ a.N.length ≤ 6 := Classical.em _
    have hk1 : (a.K.length ≤ 10) ∨ ¬ a.K.length ≤ 10 := Classical.em _
    refine exec_seq (exec_region_o fun ds => ?_)
    have hno : ¬ (a.L.length ≤ 6 ∧ a.N.length ≤ 6 ∧ a.K.length ≤ 10) → R = false := fun c => by
      rw [← HR2.out]
      by_cases x1 : a.L.length ≤ 6 <;> by_cases x2 : a.N.length ≤ 6 <;> by_cases x3 : a.K.length ≤ 10 <;> first | (simp [x1, x2, x3]; done) | exact absurd ⟨x1, x2, x3⟩ c
    have hyes : a.L.length ≤ 6 → a.N.length ≤ 6 → a.K.length ≤ 10 → R = ((a.L.all fun y => inB y 0 6) && (a.N.all fun y => inB y 0 3)) := fun x1 x2 x3 => by
      rw [← HR2.out]
      simp [x1, x2, x3]
    have HNo := Lib.hid hno
    have HYes := Lib.hid hyes
    clear hno hyes
    rcases hl1 with hl1 | hl1
    · rcases hn1 with hn1 | hn1
      · rcases hk1 with hk1 | hk1
        · have hr := HYes.out hl1 hn1 hk1
          have HRR := Lib.hid hr
          clear hr HYes HNo
          gi_wp2_with fail
          refine ⟨trivial, rfl, (callsIn_wide.2 (all72 a.AL a.cL a.L (by omega) 6 W hX.at_.l)).mono ?_⟩
          rintro e X1 ⟨rfl, hx1⟩
          have hX1 := hX.keep hx1
          have hB1 := hV.trans (hx1.mono hV.size)
          have e1 := c1 X1 hx1
          have hK1 := Keep.of_below hx1
          generalize (a.L.all fun y => inB y 0 6) = q1 at *
          cases q1 with
          | false =>
            have hr : R = false := HRR.out
            subst hr
            gi_wp2
            first | refine ⟨trivial, ?_⟩ | skip
            rename_i hK
            refine hK _ _ ?_
            gi_wp2
            refine eq_mk hK1 ?_
            show Exec _ _ _ _ _ _
            exact exec_ret ⟨.inr rfl, fun W' hG => ⟨.bool false, by simp [results, Try.f22, go_sem], rfl, hB1.trans (hG.below (Nat.le_refl _) hB1.size)⟩⟩
          | true =>
            have hr : R = (a.N.all fun y => inB y 0 3) := HRR.out
            subst hr
            gi_wp2_with fail
            refine ⟨trivial, rfl, (callsIn_wide.2 (all72 a.AN a.cN a.N (by omega) 3 X1 hX1.at_.n)).mono ?_⟩
            rintro e X2 ⟨rfl, hx2⟩
            have hB2 := hB1.trans (hx2.mono hB1.size)
            have hK2 := hK1.trans (Keep.of_below hx2)
            gi_wp2
            refine eq_mk hK2 ?_
            show Exec _ _ _ _ _ _
            exact exec_ret ⟨.inr rfl, fun W' hG => ⟨.bool (a.N.all fun y => inB y 0 3), by simp [results, Try.f22, go_sem], rfl, hB2.trans (hG.below (Nat.le_refl _) hB2.size)⟩⟩
        · have hr : R = false := HNo.out (fun c => hk1 c.2.2)
          subst hr
          have hkI : ¬ ((a.K.length : Int) ≤ 10) := by omega
          clear HYes HNo
          gi_wp2
          first | refine ⟨trivial, ?_⟩ | skip
          rename_i hK
          refine hK _ _ ?_
          gi_wp2
          first | refine ⟨trivial, ?_⟩ | skip
          rename_i hK
          refine hK _ _ ?_
          gi_wp2
          refine eq_mk (Keep.refl _) ?_
          show Exec _ _ _ _ _ _
          exact exec_ret ⟨.inr rfl, fun W' hG => ⟨.bool false, by simp [results, Try.f22, go_sem], rfl, hV.trans (hG.below (Nat.le_refl _) hV.size)⟩⟩
      · have hr : R = false := HNo.out (fun c => hn1 c.2.1)
        subst hr
        have hnI : ¬ ((a.N.length : Int) ≤ 6) := by omega
        clear HYes HNo hk1
        gi_wp2
        first | refine ⟨trivial, ?_⟩ | skip
        rename_i hK
        refine hK _ _ ?_
        gi_wp2
        first | refine ⟨trivial, ?_⟩ | skip
        rename_i hK
        refine hK _ _ ?_
        gi_wp2
        refine eq_mk (Keep.refl _) ?_
        show Exec _ _ _ _ _ _
        exact exec_ret ⟨.inr rfl, fun W' hG => ⟨.bool false, by simp [results, Try.f22, go_sem], rfl, hV.trans (hG.below (Nat.le_refl _) hV.size)⟩⟩
    · have hr : R = false := HNo.out (fun c => hl1 c.1)
      subst hr
      have hlI : ¬ ((a.L.length : Int) ≤ 6) := by omega
      clear HYes HNo hk1 hn1
      gi_wp2
      first | refine ⟨trivial, ?_⟩ | skip
      rename_i hK
      refine hK _ _ ?_
      gi_wp2
      first | refine ⟨trivial, ?_⟩ | skip
      rename_i hK
      refine hK _ _ ?_
      gi_wp2
      refine eq_mk (Keep.refl _) ?_
      show Exec _ _ _ _ _ _
      exact exec_ret ⟨.inr rfl, fun W' hG => ⟨.bool false, by simp [results, Try.f22, go_sem], rfl, hV.trans (hG.below (Nat.le_refl _) hV.size)⟩⟩
end Go.Proofs.Ytbdmmikflkpmpaa
end

section
namespace Go.Proofs.Ytbdmmikflkpmpaa
open Go.RowKit Go.TL Go.Shelf Go.Pn
attribute [local go_sem] Oper.semAt_some
attribute [local go_sem] run_store_func
structure XP.Row (x : XP) (w : World) : Prop where
  l : RowV w x.AL (x.L.map vi)
  n : RowV w x.AN (x.N.map vi)
  k : RowKI w x.AK x.K
theorem XP.Row.at_ {x : XP} {w : World} (h : x.Row w) (h1 : x.L.length ≤ 40) (h2 : x.N.length ≤ 40) (h3 : x.K.length ≤ 40) : x.At w := ⟨h.l, h.n, h.k, h1, h2, h3⟩
theorem XP.Row.below {x : XP} {w w' : World} (h : x.Row w) (hb : Below w.heap.size w w') : x.Row w' := ⟨h.l.below hb, h.n.below hb, h.k.grow (Grow.of_below (B := 0) hb)⟩
def XP.small (x : XP) : Bool := decide (x.L.length ≤ 40) && decide (x.N.length ≤ 40) && decide (x.K.length ≤ 40)
def XP.big (x : XP) (j p k : Nat) : Bool := decide (j < x.L.length) || decide (p < x.N.length) || decide (k < x.K.length)
def heavyB (x : XP) (j p k : Nat) : Bool := !x.small || (x.isP && x.big j p k)
set_option maxRecDepth 100000 in
set_option maxHeartbeats 1000000 in
theorem heavy13 (a : XP) (j p k : Nat) (w : World) (ha : a.Row w) : Calls Try.prog 13 #[a.val, iv j, iv p, iv k] w fun e w' => e = .returned (.bool (heavyB a j p k)) ∧ Below w.heap.size w w' := by
  have hu25 := Try.underlying25
  obtain ⟨R, hR⟩ : ∃ R, heavyB a j p k = R := ⟨_, rfl⟩
  rw [hR]
  have HR := Lib.hid hR
  clear hR
  refine calls_of_exec Try.func13 rfl ?_
  simp only [Try.ntmps13, List.size_toArray, List.length_cons, List.length_nil, Nat.reduceAdd, Nat.reduceSub, Array.replicate_succ, Array.replicate_zero, List.push_toArray, List.append_toArray, List.nil_append, List.cons_append]
  simp only [XP.val]
  refine exec_seq (exec_region_o fun ds => ?_)
  gi_wp2
  refine eq_mk ((Keep.refl _).alloc _) ?_
  show Exec _ _ (Code.seq (Code.seq _ _) _) _ (w.alloc (.cells #[a.sL, a.sN, a.sK] 25)) _
  have hB := (Below.refl w.heap.size w).alloc (Nat.le_refl _) (.cells #[a.sL, a.sN, a.sK] 25)
  have hh : (w.alloc (.cells #[a.sL, a.sN, a.sK] 25)).heap[w.heap.size]? = some (.cells #[a.sL, a.sN, a.sK] 25 (0, 0)) := World.alloc_heap_new _ _
  have hX := ha.below hB
  generalize w.alloc (.cells #[a.sL, a.sN, a.sK] 25) = X at *
  have hh2 := hh
  simp only [XP.sL, XP.sN, XP.sK] at hh2
  have c0 := cells_get (cs := [_, _, _]) (k := 0) hh2 rfl
  have c1 := cells_get (cs := [_, _, _]) (k := 1) hh2 rfl
  have c2 := cells_get (cs := [_, _, _]) (k := 2) hh2 rfl
  refine exec_seq (exec_cut (fun t' W' => W' = X ∧ Slots (none :: some (iv j) :: some (iv p) :: some (iv k) :: some (.pointer (some ⟨w.heap.size, 0, none⟩)) :: none :: none :: none :: some (.bool false) :: none :: none :: o4 (o4 (some (.bool (!a.small)) :: none :: none :: none :: o4 (o16 [])))) t') (exec_region_o fun ds => ?_) ?_)
  · obtain ⟨S, hS⟩ : ∃ S, (!a.small) = S := ⟨_, rfl⟩
    simp only [hS]
    have HS := Lib.hid hS
    clear hS
    gi_wp2
    all_goals
      refine eq_mk (Keep.refl _) ⟨rfl, ?_⟩
      simp only [Slots, Fits, true_and, and_true, and_self, Value.bool.injEq]
      rw [← HS.out, Bool.eq_iff_iff]
      simp only [XP.small, decide_eq_true_eq, Bool.not_eq_true', Bool.and_eq_false_iff, decide_eq_false_iff_not]
      omega
  · rintro t X' ⟨rfl, hSl⟩
    obtain ⟨x, hx⟩ := Slots.open_ hSl; simp only [fill, Nat.reduceAdd] at hx; subst hx; clear hSl
    show Exec _ _ (Code.cond _ _ _) _ _ _
    cases hs : a.small with
    | false =>
      have hr : R = true := by rw [← HR.out]; simp [heavyB, hs]
      subst hr
      refine exec_cond (b := true) rfl (fun _ => ?_) (fun h => by cases h)
      refine exec_seq (exec_region_o fun ds => ?_)
      gi_wp2
      refine eq_mk (Keep.refl _) ?_
      show Exec _ _ _ _ _ _
      exact exec_ret ⟨.inr rfl, fun W' hG => ⟨.bool true, by simp [results, Try.f13, go_sem], rfl, hB.trans (hG.below (Nat.le_refl _) hB.size)⟩⟩
    | true =>
      have h3 : (a.L.length ≤ 40 ∧ a.N.length ≤ 40) ∧ a.K.length ≤ 40 := by
        simpa [XP.small] using hs
      have hr : R = (a.isP && a.big j p k) := by rw [← HR.out]; simp [heavyB, hs]
      refine exec_cond (b := false) rfl (fun h => by cases h) (fun _ => exec_skip ?_)
      have hat := hX.at_ h3.1.1 h3.1.2 h3.2
      have HRR := Lib.hid hr
      clear hr hs HR c0 c1 c2
      have c0 := cells_get (cs := [_, _, _]) (k := 0) hh rfl
      have c1 := cells_get (cs := [_, _, _]) (k := 1) hh rfl
      have c2 := cells_get (cs := [_, _, _]) (k := 2) hh rfl
      show Exec _ _ (Code.seq _ _) _ _ _
      refine exec_cut (fun t' W' => Below w.heap.size w W' ∧ Slots (o4 (o4 (some (.bool R) :: none :: none :: o16 (o16 [])))) t') (exec_region_o fun ds => ?_) ?_
      · gi_wp2_with fail
        refine ⟨trivial, rfl, (callsIn_wide.2 (panels22 a X' hat)).mono ?_⟩
        rintro e Y ⟨rfl, hy⟩
        have hBY := hB.trans (hy.mono hB.size)
        have hhY := (hy.block _ (heap_lt hh)).trans hh
        simp only [XP.sL, XP.sN, XP.sK] at hhY
        clear c0 c1 c2
        have c0 := cells_get (cs := [_, _, _]) (k := 0) hhY rfl
        have c1 := cells_get (cs := [_, _, _]) (k := 1) hhY rfl
        have c2 := cells_get (cs := [_, _, _]) (k := 2) hhY rfl
        have hKY := Keep.of_below hy
        clear hy
        cases hq : a.isP with
        | false =>
          have hr : R = false := by rw [HRR.out, hq]; rfl
          subst hr
          clear hq
          gi_wp2
          all_goals first | exact eq_mk hKY ⟨hBY, (by simp only [Slots, Fits, and_self])⟩ | (rename_i h1 h2; cases h1; done) | (rename_i h1 h2; simp [undef] at h1; done)
        | true =>
          have hr : R = a.big j p k := by rw [HRR.out, hq]; rfl
          have HR2 := Lib.hid hr
          clear hr hq
          gi_wp2
          all_goals
            refine eq_mk hKY ⟨hBY, ?_⟩
            simp only [Slots, Fits, true_and, and_true, and_self, Value.bool.injEq]
            rw [HR2.out]
            unfold XP.big
            first
              | (rw [eq_comm, Bool.eq_iff_iff]; simp only [Bool.or_eq_true, decide_eq_true_eq]; done)
              | (rw [eq_comm, Bool.eq_iff_iff]; simp only [Bool.or_eq_true, decide_eq_true_eq]; omega)
              | (symm; simp only [Bool.or_eq_true, decide_eq_true_eq, Bool.or_eq_false_iff, decide_eq_false_iff_not]; done)
              | (symm; simp only [Bool.or_eq_true, decide_eq_true_eq, Bool.or_eq_false_iff, decide_eq_false_iff_not]; omega)
              | (rename_i h1 h2; simp [h1, h2]; done)
      · rintro t' Y ⟨hBY, hSl⟩
        obtain ⟨x, hx⟩ := Slots.open_ hSl; simp only [fill, Nat.reduceAdd] at hx; subst hx; clear hSl
        exact exec_ret ⟨.inr rfl, fun W' hG => ⟨.bool R, by simp [results, Try.f13, go_sem], rfl, hBY.trans (hG.below (Nat.le_refl _) hBY.size)⟩⟩
end Go.Proofs.Ytbdmmikflkpmpaa
end

section
namespace Go.Proofs.Ytbdmmikflkpmpaa
open Go.RowKit Go.TL Go.Shelf Go.Pn
attribute [local go_sem] Oper.semAt_some
attribute [local go_sem] run_store_func
def kinB (a : XP) (x y : Int) : Bool := a.K.any fun k => decide (k.1 = x) && decide (k.2 = y)
def KnI (w : World) (a : XP) (x y : Int) (n : Nat) (t : Array Value) (W : World) : Prop :=
  ∃ k : Nat, k ≤ a.K.length ∧ n = a.K.length - k ∧ (∀ z ∈ a.K.take k, (decide (z.1 = x) && decide (z.2 = y)) = false) ∧ PBx W w.heap.size a ∧ Below w.heap.size w W ∧ Slots (none :: some (vi x) :: some (vi y) :: some (.pointer (some ⟨w.heap.size, 0, none⟩)) :: none :: none :: none :: some (iv k) :: none :: o4 (o4 (o16 []))) t
set_option maxRecDepth 100000 in
set_option maxHeartbeats 1000000 in
theorem kin29 (a : XP) (x0 y0 : Int) (w : World) (ha : a.At w) : Calls Try.prog 29 #[a.val, vi x0, vi y0] w fun e w' => e = .returned (.bool (kinB a x0 y0)) ∧ Below w.heap.size w w' := by
  have hu25 := Try.underlying25
  have hu23 := Try.underlying23
  have hu50 := Try.underlying50
  have h6 := ha.k4
  obtain ⟨R, hR⟩ : ∃ R, kinB a x0 y0 = R := ⟨_, rfl⟩
  rw [hR]
  have HR := Lib.hid hR
  clear hR
  refine calls_of_exec Try.func29 rfl ?_
  simp only [Try.ntmps29, List.size_toArray, List.length_cons, List.length_nil, Nat.reduceAdd, Nat.reduceSub, Array.replicate_succ, Array.replicate_zero, List.push_toArray, List.append_toArray, List.nil_append, List.cons_append]
  simp only [XP.val]
  refine exec_seq (exec_region_o fun ds => ?_)
  gi_wp2
  refine eq_mk ((Keep.refl _).alloc _) ?_
  show Exec _ _ (Code.seq (Code.seq _ _) _) _ (w.alloc (.cells #[a.sL, a.sN, a.sK] 25)) _
  have hB := (Below.refl w.heap.size w).alloc (Nat.le_refl _) (.cells #[a.sL, a.sN, a.sK] 25)
  have hX : PBx (w.alloc (.cells #[a.sL, a.sN, a.sK] 25)) w.heap.size a := ⟨World.alloc_heap_new _ _, ha.below hB⟩
  generalize w.alloc (.cells #[a.sL, a.sN, a.sK] 25) = X at *
  refine exec_seq (exec_seq (exec_region_o fun ds => ?_))
  gi_wp2
  refine eq_mk (Keep.refl _) ?_
  show Exec _ _ (Code.block _ _) _ _ _
  refine exec_block ?_
  refine exec_loop (KnI w a x0 y0) a.K.length ⟨0, by omega, rfl, by simp, hX, hB, by simp [Slots, Fits]⟩ ?_
  clear hX hB
  clear X
  rintro n t W ⟨k, hk, hn, htk, hX, hV, hSl⟩
  have HT := Lib.hid htk
  have HN := Lib.hid hn
  clear htk hn
  have hh := hX.heap
  simp only [XP.sK] at hh
  have e2 := cells_get (cs := [_, _, _]) (k := 2) hh rfl
  clear hh
  obtain ⟨x, hx⟩ := Slots.open_ hSl; simp only [fill, Nat.reduceAdd] at hx; subst hx; clear hSl
  show Exec _ _ (Code.seq (Code.seq _ _) _) _ _ _
  refine exec_seq (exec_seq (exec_region_o fun ds => ?_))
  gi_wp2
  refine eq_mk (Keep.refl _) ?_
  show Exec _ _ (Code.cond _ _ _) _ _ _
  refine (exec_cond (b := decide (k < a.K.length)) (by first | rfl | (show Value.bool _ = _; congr 1; exact decide_eq_decide.2 (by omega))) (fun hp => exec_skip ?_) (fun hp => exec_exit ?_))
  · have hkl : k < a.K.length := by have := of_decide_eq_true hp; omega
    show Exec _ _ (Code.seq (Code.block _ _) _) _ _ _
    obtain ⟨z, hz⟩ : ∃ z, a.K[k]? = some z := ⟨_, List.getElem?_eq_getElem hkl⟩
    obtain ⟨ad, hA, hc1, hc2⟩ := hX.at_.k k z hz
    have hzm := List.mem_of_getElem? hz
    have HY : (decide (z.1 = x0) && decide (z.2 = y0)) = false → ∀ z ∈ a.K.take (k + 1), (decide (z.1 = x0) && decide (z.2 = y0)) = false := fun e z' hz' => by
      rw [List.take_add_one, hz] at hz'
      rcases List.mem_append.1 hz' with h | h
      · exact HT.out z' h
      · simp at h
        rw [h]; exact e
    have HF : (decide (z.1 = x0) && decide (z.2 = y0)) = true → R = true := fun e => by
      rw [← HR.out]
      exact List.any_eq_true.2 ⟨z, hzm, e⟩
    have HY := Lib.hid HY
    have HF := Lib.hid HF
    clear hz hzm
    obtain ⟨z1, z2⟩ := z
    simp only at hc1 hc2
    have hkI : (k : Int) < a.K.length := by omega
    rw [hA] at e2
    obtain ⟨q, hq⟩ : ∃ q, (decide (z1 = x0) && decide (z2 = y0)) = q := ⟨_, rfl⟩
    have HQ := Lib.hid hq
    refine exec_cut (fun t' Y => q = false ∧ PBx Y w.heap.size a ∧ Below w.heap.size w Y ∧ Slots (none :: some (vi x0) :: some (vi y0) :: some (.pointer (some ⟨w.heap.size, 0, none⟩)) :: none :: none :: none :: some (iv k) :: none :: o4 (o4 (o16 []))) t') (exec_block ?_) ?_
    · clear hq
      show Exec _ _ (Code.seq _ _) _ _ _
      refine exec_cut (fun t' Y => Y = W ∧ Slots (none :: some (vi x0) :: some (vi y0) :: some (.pointer (some ⟨w.heap.size, 0, none⟩)) :: none :: none :: none :: some (iv k) :: o4 (o4 (o16 (some (.bool q) :: [])))) t') (exec_region_o fun ds => ?_) ?_
      · by_cases h1 : z1 = x0
        · by_cases h2 : z2 = y0
          · have hq : q = true := by rw [← HQ.out]; simp [h1, h2]
            clear HQ HY HF
            subst hq
            subst h1 h2
            gi_wp2
            all_goals exact eq_mk (Keep.refl _) ⟨rfl, by simp [Slots, Fits]⟩
          · have hq : q = false := by rw [← HQ.out]; simp [h2]
            clear HQ HY HF
            subst hq
            subst h1
            gi_wp2
            all_goals exact eq_mk (Keep.refl _) ⟨rfl, by simp [Slots, Fits, h2]⟩
        · have hq : q = false := by rw [← HQ.out]; simp [h1]
          clear HQ HY HF
          subst hq
          gi_wp2
          all_goals exact eq_mk (Keep.refl _) ⟨rfl, by simp [Slots, Fits]⟩
      · rintro t' Y ⟨rfl, hSl⟩
        clear x
        obtain ⟨x, hx⟩ := Slots.open_ hSl; simp only [fill, Nat.reduceAdd] at hx; subst hx; clear hSl
        show Exec _ _ (Code.cond _ _ _) _ _ _
        cases q with
        | false =>
          refine exec_cond (b := false) rfl (fun h => by cases h) (fun _ => exec_skip ?_)
          exact ⟨rfl, hX, hV, by simp [Slots, Fits]⟩
        | true =>
          have hr : R = true := HF.out HQ.out
          subst hr
          refine exec_cond (b := true) rfl (fun _ => ?_) (fun h => by cases h)
          refine exec_seq (exec_region_o fun ds => ?_)
          gi_wp2
          refine eq_mk (Keep.refl _) ?_
          show Exec _ _ _ _ _ _
          exact exec_ret ⟨.inr rfl, fun W' hG => ⟨.bool true, by simp [results, Try.f29, go_sem], rfl, hV.trans (hG.below (Nat.le_refl _) hV.size)⟩⟩
    · clear hV hX hc1 hc2 e2 x
      clear W
      rintro t' Y ⟨hy, hX, hV, hSl⟩
      have hT2 := HY.out (by rw [hq, hy])
      have HT2 := Lib.hid hT2
      clear hT2 hy hq
      obtain ⟨x, hx⟩ := Slots.open_ hSl; simp only [fill, Nat.reduceAdd] at hx; subst hx; clear hSl
      have hw : IntKind.i64.wrap ((k : Int) + 1) = ((k + 1 : Nat) : Int) := by rw [IntWalk.i64_in _ (by omega)]; norm_cast
      refine exec_region_o fun ds => ?_
      gi_wp2
      exact eq_mk (Keep.refl _) ⟨n - 1, by rw [HN.out]; omega, k + 1, by omega, by rw [HN.out]; omega, HT2.out, hX, hV, by simp only [Slots, Fits, and_self]; simp⟩
  · have hkl : k = a.K.length := by have := of_decide_eq_false hp; omega
    have htk := HT.out
    rw [hkl, List.take_length] at htk
    have hr : R = false := by
      rw [← HR.out]
      exact List.any_eq_false.2 fun z hz => by simp only [htk z hz]; simp
    subst hr
    clear htk
    show Exec _ _ (Code.seq _ _) _ _ _
    refine exec_seq (exec_region_o fun ds => ?_)
    gi_wp2
    refine eq_mk (Keep.refl _) ?_
    show Exec _ _ _ _ _ _
    exact exec_ret ⟨.inr rfl, fun W' hG => ⟨.bool false, by simp [results, Try.f29, go_sem], rfl, hV.trans (hG.below (Nat.le_refl _) hV.size)⟩⟩
def bitsTo (s k : Nat) : Nat := sumN (fun j => b1 (s.testBit j)) k
def SzI (w : World) (s : Nat) (n : Nat) (t : Array Value) (W : World) : Prop :=
  ∃ k : Nat, k ≤ 10 ∧ n = 10 - k ∧ Below w.heap.size w W ∧ Slots (some (iv (s / 2 ^ k)) :: none :: none :: some (iv (bitsTo s k)) :: none :: o4 (o4 [])) t
set_option maxRecDepth 100000 in
set_option maxHeartbeats 1000000 in
theorem size30 (s : Nat) (hs : s < 1024) (w : World) : Calls Try.prog 30 #[iv s] w fun e w' => e = .returned (iv (pop s)) ∧ Below w.heap.size w w' := by
  refine calls_of_exec Try.func30 rfl ?_
  simp only [Try.ntmps30, List.size_toArray, List.length_cons, List.length_nil, Nat.reduceAdd, Nat.reduceSub, Array.replicate_succ, Array.replicate_zero, List.push_toArray, List.append_toArray, List.nil_append, List.cons_append]
  refine exec_seq (exec_region_o fun ds => ?_)
  gi_wp2
  refine eq_mk (Keep.refl w) ?_
  show Exec _ _ (Code.seq _ _) _ _ _
  refine exec_seq (exec_region_o fun ds => ?_)
  gi_wp2
  refine eq_mk (Keep.refl _) ?_
  show Exec _ _ (Code.seq (Code.block _ _) _) _ _ _
  refine exec_seq (exec_block ?_)
  refine exec_loop (SzI w s) 10 ⟨0, by omega, rfl, Below.refl _ _, by simp [Slots, Fits, bitsTo, sumN]⟩ ?_
  rintro n t W ⟨k, hk, hn, hV, hSl⟩
  have HN := Lib.hid hn
  clear hn
  have hble : bitsTo s k ≤ k := by
    have := sumN_le (f := fun j => b1 (s.testBit j)) (g := fun _ => 1) k (fun i _ => by unfold b1; split <;> omega)
    have h1 : ∀ k, sumN (fun _ => 1) k = k := fun k => by
      induction k with
      | zero => rfl
      | succ k ih => show sumN _ k + 1 = _; rw [ih]
    rw [h1] at this
    exact this
  have hdle : s / 2 ^ k ≤ s := Nat.div_le_self _ _
  have hnext : bitsTo s (k + 1) = bitsTo s k + (s / 2 ^ k) % 2 := by
    show bitsTo s k + b1 (s.testBit k) = _
    congr 1
    rw [Nat.testBit_eq_decide_div_mod_eq]
    unfold b1
    have := Nat.mod_lt (s / 2 ^ k) (show 0 < 2 by omega)
    by_cases h : s / 2 ^ k % 2 = 1
    · rw [if_pos (decide_eq_true h), h]
    · rw [if_neg (by simp [h])]
      omega
  have hdiv : s / 2 ^ (k + 1) = s / 2 ^ k / 2 := by rw [Nat.pow_succ, Nat.div_div_eq_div_mul]
  have hend : s / 2 ^ k = 0 → pop s = bitsTo s k := fun h => by
    have hlt : s < 2 ^ k := by
      have := Nat.div_eq_zero_iff.1 h
      rcases this with h | h
      · have := Nat.pow_pos (n := k) (show 0 < 2 by omega)
        omega
      · exact h
    exact pop_n hlt hk
  have hten : k = 10 → s / 2 ^ k = 0 := fun h => by rw [h]; exact Nat.div_eq_of_lt hs
  obtain ⟨d, hd⟩ : ∃ d, s / 2 ^ k = d := ⟨_, rfl⟩
  rw [hd] at hSl hdle hnext hdiv hend hten
  have H1 := Lib.hid hnext
  have H2 := Lib.hid hdiv
  have H3 := Lib.hid hend
  clear hd hnext hdiv hend
  generalize hbk : bitsTo s k = bk at *
  have HB := Lib.hid hbk
  clear hbk
  obtain ⟨x, hx⟩ := Slots.open_ hSl; simp only [fill, Nat.reduceAdd] at hx; subst hx; clear hSl
  show Exec _ _ (Code.seq (Code.seq _ _) _) _ _ _
  refine exec_seq (exec_seq (exec_region_o fun ds => ?_))
  gi_wp2
  refine eq_mk (Keep.refl _) ?_
  show Exec _ _ (Code.cond _ _ _) _ _ _
  refine (exec_cond (b := decide (0 < d)) (by first | rfl | (show Value.bool _ = _; congr 1; exact decide_eq_decide.2 (by omega))) (fun hp => exec_skip ?_) (fun hp => exec_exit ?_))
  · have hd0 : 0 < d := of_decide_eq_true hp
    have hk10 : k < 10 := by
      apply Classical.byContradiction
      intro c
      have := hten (by omega)
      omega
    clear hten
    have hr : (d : Int).tmod 2 = ((d % 2 : Nat) : Int) := by rw [Int.tmod_eq_emod_of_nonneg (by omega)]; omega
    have hq : (d : Int).tdiv 2 = ((d / 2 : Nat) : Int) := by rw [Int.tdiv_eq_ediv_of_nonneg (by omega)]; omega
    have hw1 : IntKind.i64.wrap ((d % 2 : Nat) : Int) = ((d % 2 : Nat) : Int) := IntWalk.i64_in _ (by omega)
    have hw2 : IntKind.i64.wrap ((d / 2 : Nat) : Int) = ((d / 2 : Nat) : Int) := IntWalk.i64_in _ (by omega)
    have hw3 : IntKind.i64.wrap ((bk : Int) + ((d % 2 : Nat) : Int)) = ((bk + d % 2 : Nat) : Int) := by rw [IntWalk.i64_in _ (by omega)]; norm_cast
    show Exec _ _ (Code.block _ _) _ _ _
    refine exec_block (exec_seq (exec_region_o fun ds => ?_))
    gi_wp2
    refine eq_mk (Keep.refl _) ?_
    show Exec _ _ _ _ _ _
    refine exec_region_o fun ds => ?_
    gi_wp2
    refine eq_mk (Keep.refl _) ⟨n - 1, by rw [HN.out]; omega, k + 1, by omega, by rw [HN.out]; omega, hV, ?_⟩
    rw [H1.out, H2.out]
    simp only [Slots, Fits, and_self, true_and, and_true]
    exact ⟨by simp, by simp⟩
  · have hd0 : d = 0 := by have := of_decide_eq_false hp; omega
    have hp := H3.out hd0
    have HP := Lib.hid hp
    clear hp
    show Exec _ _ (Code.seq _ _) _ _ _
    refine exec_seq (exec_region_o fun ds => ?_)
    gi_wp2
    refine eq_mk (Keep.refl _) ?_
    show Exec _ _ _ _ _ _
    exact exec_ret ⟨.inr rfl, fun W' hG => ⟨iv bk, by simp [results, Try.f30, go_sem], by rw [HP.out], hV.trans (hG.below (Nat.le_refl _) hV.size)⟩⟩
end Go.Proofs.Ytbdmmikflkpmpaa
end

section
namespace Go.Proofs.Ytbdmmikflkpmpaa
open Go.RowKit Go.TL Go.Shelf Go.Pn
def PwI (w : World) (n : Nat) (m : Nat) (t : Array Value) (W : World) : Prop :=
  ∃ k : Nat, k ≤ n ∧ m = n - k ∧ Below w.heap.size w W ∧ Slots (some (iv n) :: none :: none :: some (iv (2 ^ k)) :: some (iv k) :: o4 (o4 [])) t
set_option maxRecDepth 100000 in
set_option maxHeartbeats 1000000 in
theorem power99 (n : Nat) (hn : n ≤ 40) (w : World) : Calls Try.prog 99 #[iv n] w fun e w' => e = .returned (iv (2 ^ n)) ∧ Below w.heap.size w w' := by
  refine calls_of_exec Try.func99 rfl ?_
  simp only [Try.ntmps99, List.size_toArray, List.length_cons, List.length_nil, Nat.reduceAdd, Nat.reduceSub, Array.replicate_succ, Array.replicate_zero, List.push_toArray, List.append_toArray, List.nil_append, List.cons_append]
  refine exec_seq (exec_region_o fun ds => ?_)
  gi_wp2
  refine eq_mk (Keep.refl w) ?_
  show Exec _ _ (Code.seq _ _) _ _ _
  refine exec_seq (exec_region_o fun ds => ?_)
  gi_wp2
  refine eq_mk (Keep.refl _) ?_
  show Exec _ _ (Code.seq (Code.seq _ _) _) _ _ _
  refine exec_seq (exec_seq (exec_region_o fun ds => ?_))
  gi_wp2
  refine eq_mk (Keep.refl _) ?_
  show Exec _ _ (Code.block _ _) _ _ _
  refine exec_block ?_
  refine exec_loop (PwI w n) n ⟨0, by omega, rfl, Below.refl _ _, by simp [Slots, Fits]⟩ ?_
  rintro m t W ⟨k, hk, hm, hV, hSl⟩
  have HN := Lib.hid hm
  clear hm
  have hp40 : 2 ^ k ≤ 2 ^ 40 := Nat.pow_le_pow_right (by omega) (by omega)
  have h2 : 2 ^ (k + 1) = 2 * 2 ^ k := by rw [Nat.pow_succ, Nat.mul_comm]
  obtain ⟨p, hp⟩ : ∃ p, 2 ^ k = p := ⟨_, rfl⟩
  rw [hp] at hSl hp40 h2
  have HP := Lib.hid hp
  clear hp
  obtain ⟨x, hx⟩ := Slots.open_ hSl; simp only [fill, Nat.reduceAdd] at hx; subst hx; clear hSl
  show Exec _ _ (Code.seq (Code.seq _ _) (Code.seq _ _)) _ _ _
  refine exec_seq (exec_seq (exec_region_o fun ds => ?_))
  gi_wp2
  refine eq_mk (Keep.refl _) ?_
  show Exec _ _ (Code.cond _ _ _) _ _ _
  refine exec_cond (b := decide (k < n)) (by first | rfl | (show Value.bool _ = _; congr 1; exact decide_eq_decide.2 (by omega))) (fun hp => exec_skip ?_) (fun hp => exec_exit ?_)
  · have hkl : k < n := by have := of_decide_eq_true hp; omega
    show Exec _ _ (Code.seq (Code.block _ _) _) _ _ _
    have hw1 : IntKind.i64.wrap (2 * (p : Int)) = ((2 ^ (k + 1) : Nat) : Int) := by rw [h2, IntWalk.i64_in _ (by omega)]; norm_cast
    have hw : IntKind.i64.wrap ((k : Int) + 1) = ((k + 1 : Nat) : Int) := by rw [IntWalk.i64_in _ (by omega)]; norm_cast
    have hend : Below w.heap.size w W → ∀ t, Slots (some (iv n) :: none :: none :: some (iv (2 ^ (k + 1))) :: some (iv (k + 1)) :: o4 (o4 [])) t → ∃ m', m' < m ∧ PwI w n m' t W := fun hB t hS => ⟨m - 1, by rw [HN.out]; omega, k + 1, by omega, by rw [HN.out]; omega, hB, hS⟩
    generalize 2 ^ (k + 1) = p2 at *
    refine exec_seq (exec_block (exec_region_o fun ds => ?_))
    gi_wp2
    refine eq_mk (Keep.refl _) ?_
    show Exec _ _ (Code.region _ _ _) _ _ _
    refine exec_region_o fun ds => ?_
    gi_wp2
    refine eq_mk (Keep.refl _) ?_
    exact hend hV _ (by simp [Slots, Fits]; omega)
  · have hk2 : k = n := by have := of_decide_eq_false hp; omega
    have hP := HP.out
    show Exec _ _ (Code.seq _ _) _ _ _
    refine exec_seq (exec_region_o fun ds => ?_)
    gi_wp2
    refine eq_mk (Keep.refl _) ?_
    exact exec_ret ⟨.inr rfl, fun W' hG => ⟨iv p, by simp [results, Try.f99, go_sem], by rw [← hP, hk2], hV.trans (hG.below (Nat.le_refl _) hV.size)⟩⟩
theorem has_dec (s n : Nat) : decide (s / 2 ^ n % 2 = 1) = s.testBit n := by rw [Nat.testBit_eq_decide_div_mod_eq]
set_option maxRecDepth 100000 in
set_option maxHeartbeats 1000000 in
theorem has71 (s n : Nat) (hs : s < 2 ^ 40) (hn : n ≤ 40) (w : World) : Calls Try.prog 71 #[iv s, iv n] w fun e w' => e = .returned (.bool (s.testBit n)) ∧ Below w.heap.size w w' := by
  refine calls_of_exec Try.func71 rfl ?_
  simp only [Try.ntmps71, List.size_toArray, List.length_cons, List.length_nil, Nat.reduceAdd, Nat.reduceSub, Array.replicate_succ, Array.replicate_zero, List.push_toArray, List.append_toArray, List.nil_append, List.cons_append]
  refine exec_seq (exec_region_o fun ds => ?_)
  gi_wp2
  refine eq_mk (Keep.refl w) ?_
  show Exec _ _ (Code.seq _ _) _ _ _
  have hp0 : 0 < 2 ^ n := Nat.pow_pos (by omega)
  have hb := has_dec s n
  have hq : Int.tdiv (s : Int) ((2 ^ n : Nat) : Int) = ((s / 2 ^ n : Nat) : Int) := by rw [Int.tdiv_eq_ediv_of_nonneg (Int.natCast_nonneg _)]; norm_cast
  have hd : s / 2 ^ n ≤ s := Nat.div_le_self _ _
  have hm : Int.tmod ((s / 2 ^ n : Nat) : Int) 2 = ((s / 2 ^ n % 2 : Nat) : Int) := by rw [Int.tmod_eq_emod_of_nonneg (Int.natCast_nonneg _)]; norm_cast
  have hm2 : s / 2 ^ n % 2 < 2 := Nat.mod_lt _ (by omega)
  have hcall := power99 n hn w
  generalize 2 ^ n = p at *
  generalize s / p = q at *
  generalize q % 2 = r at *
  have hwq : IntKind.i64.wrap (q : Int) = (q : Int) := IntWalk.i64_in _ (by omega)
  have hwr : IntKind.i64.wrap (r : Int) = (r : Int) := IntWalk.i64_in _ (by omega)
  have hpn : ¬ p = 0 := by omega
  obtain ⟨b, hbb⟩ : ∃ b, s.testBit n = b := ⟨_, rfl⟩
  rw [hbb] at hb ⊢
  clear hbb
  refine exec_seq (exec_region_o fun ds => ?_)
  gi_wp2_with fail
  refine ⟨trivial, rfl, (callsIn_wide.2 hcall).mono ?_⟩
  rintro e W ⟨rfl, hy⟩
  clear hcall
  gi_wp2
  refine eq_mk (Keep.of_below hy) ?_
  exact exec_ret ⟨.inr rfl, fun W' hG => ⟨.bool b, by simp [results, Try.f71, go_sem, ← hb]; rcases (show r = 0 ∨ r = 1 by omega) with rfl | rfl <;> rfl, rfl, hy.trans (hG.below (Nat.le_refl _) hy.size)⟩⟩
end Go.Proofs.Ytbdmmikflkpmpaa
end

section
namespace Go.Proofs.Ytbdmmikflkpmpaa
open Go.RowKit Go.TL Go.Shelf Go.Pn
structure Tr (W V X : World) (l : List (Nat × Obj)) : Prop where
  below : Below W.heap.size W X
  keep : Keep V X
  ge : ∀ p ∈ l, W.heap.size ≤ p.1
  at_ : ∀ p ∈ l, X.heap[p.1]? = some p.2
  nd : (l.map (·.1)).Nodup
section
variable {W V X Y : World} {l : List (Nat × Obj)}
theorem Tr.start (hb : Below W.heap.size W V) : Tr W V V [] := ⟨hb, Keep.refl _, fun _ h => (by cases h), fun _ h => (by cases h), List.nodup_nil⟩
theorem Tr.again (h : Tr W V X l) : Tr W X X l := ⟨h.below, Keep.refl _, h.ge, h.at_, h.nd⟩
theorem Tr.get (h : Tr W V X l) (i : Nat) {k : Nat} {o : Obj} (hi : l[i]? = some (k, o)) : X.heap[k]? = some o := h.at_ _ (List.mem_of_getElem? hi)
theorem Tr.lt (h : Tr W V X l) : ∀ p ∈ l, p.1 < X.heap.size := fun p hp => heap_lt (h.at_ p hp)
theorem Tr.push (h : Tr W V X l) {k : Nat} {o : Obj} (hk : X.heap[k]? = some o) (hge : W.heap.size ≤ k) (hn : ∀ p ∈ l, p.1 ≠ k) : Tr W V X ((k, o) :: l) := by
  refine ⟨h.below, h.keep, fun p hp => ?_, fun p hp => ?_, ?_⟩
  · rcases List.mem_cons.1 hp with rfl | hp
    · exact hge
    · exact h.ge p hp
  · rcases List.mem_cons.1 hp with rfl | hp
    · exact hk
    · exact h.at_ p hp
  · rw [List.map_cons, List.nodup_cons]
    refine ⟨fun hm => ?_, h.nd⟩
    obtain ⟨p, hp, e⟩ := List.mem_map.1 hm
    exact hn p hp e
theorem Tr.step (h : Tr W V X l) (hb : Below X.heap.size X Y) : Tr W V Y l :=
  ⟨h.below.trans (hb.mono h.below.size), h.keep.trans (Keep.of_below hb), h.ge, fun p hp => (hb.block _ (h.lt p hp)).trans (h.at_ p hp), h.nd⟩
theorem Tr.drew (h : Tr W V X l) : Tr W V X.drew l := h.step (Below.refl _ X).drew
theorem Tr.alloc (h : Tr W V X l) (o : Obj) : Tr W V (X.alloc o) ((X.heap.size, o) :: l) :=
  (h.step ((Below.refl X.heap.size X).alloc (Nat.le_refl _) o)).push (World.alloc_heap_new X o) h.below.size fun p hp => by have := h.lt p hp; omega
theorem Tr.drop (h : Tr W V X l) {m : List (Nat × Obj)} (hs : m.Sublist l) : Tr W V X m :=
  ⟨h.below, h.keep, fun p hp => h.ge p (hs.subset hp), fun p hp => h.at_ p (hs.subset hp), h.nd.sublist (hs.map _)⟩
theorem nodup_get : ∀ {l : List (Nat × Obj)} {i j k : Nat} {o o' : Obj}, (l.map (·.1)).Nodup → l[i]? = some (k, o) → l[j]? = some (k, o') → i = j
  | [], i, j, _, _, _, _, h, _ => by simp at h
  | p :: l, 0, 0, _, _, _, _, _, _ => rfl
  | p :: l, 0, j + 1, k, o, o', hn, h1, h2 => by
    rw [List.map_cons, List.nodup_cons] at hn
    have e : p = (k, o) := by simpa using h1
    subst e
    exact absurd (List.mem_map.2 ⟨(k, o'), List.mem_of_getElem? (by simpa using h2), rfl⟩) hn.1
  | p :: l, i + 1, 0, k, o, o', hn, h1, h2 => by
    rw [List.map_cons, List.nodup_cons] at hn
    have e : p = (k, o') := by simpa using h2
    subst e
    exact absurd (List.mem_map.2 ⟨(k, o), List.mem_of_getElem? (by simpa using h1), rfl⟩) hn.1
  | p :: l, i + 1, j + 1, k, o, o', hn, h1, h2 => by
    rw [List.map_cons, List.nodup_cons] at hn
    rw [nodup_get (l := l) (i := i) (j := j) hn.2 (by simpa using h1) (by simpa using h2)]
theorem nodup_set : ∀ {m : List Nat} {i k' : Nat}, m.Nodup → k' ∉ m → (m.set i k').Nodup
  | [], _, _, hd, _ => hd
  | a :: m, 0, k', hd, hno => by
    rw [List.nodup_cons] at hd
    rw [List.set_cons_zero, List.nodup_cons]
    exact ⟨fun c => hno (List.mem_cons_of_mem _ c), hd.2⟩
  | a :: m, i + 1, k', hd, hno => by
    rw [List.nodup_cons] at hd
    rw [List.set_cons_succ, List.nodup_cons]
    refine ⟨fun c => ?_, nodup_set hd.2 (fun c => hno (List.mem_cons_of_mem _ c))⟩
    rcases List.mem_or_eq_of_mem_set c with c | c
    · exact hd.1 c
    · exact hno (c ▸ List.mem_cons_self ..)
theorem Tr.put (h : Tr W V X l) (hb : Below W.heap.size W Y) (hk : Keep V Y) {i k k' : Nat} {o o' : Obj} (hi : l[i]? = some (k, o)) (hge : W.heap.size ≤ k') (hn : k' = k ∨ ∀ p ∈ l, p.1 ≠ k') (hsame : ∀ p ∈ l, p.1 ≠ k → Y.heap[p.1]? = some p.2) (hnew : Y.heap[k']? = some o') : Tr W V Y (l.set i (k', o')) := by
  have hil := (List.getElem?_eq_some_iff.1 hi).1
  have hmem : ∀ p ∈ l.set i (k', o'), p = (k', o') ∨ p ∈ l ∧ p.1 ≠ k := fun p hp => by
    obtain ⟨j, hj, e⟩ := List.getElem_of_mem hp
    have e' : (l.set i (k', o'))[j]? = some p := by rw [List.getElem?_eq_getElem hj, e]
    rw [List.getElem?_set] at e'
    split at e'
    · first | rw [if_pos hil] at e' | skip
      exact .inl (Option.some.inj e').symm
    · rename_i hne
      refine .inr ⟨List.mem_of_getElem? e', fun c => hne ?_⟩
      obtain ⟨a, b⟩ := p
      simp only at c
      subst c
      exact nodup_get h.nd hi e'
  refine ⟨hb, hk, fun p hp => ?_, fun p hp => ?_, ?_⟩
  · rcases hmem p hp with rfl | ⟨hp, _⟩
    · exact hge
    · exact h.ge p hp
  · rcases hmem p hp with rfl | ⟨hp, hne⟩
    · exact hnew
    · exact hsame p hp hne
  · rw [List.map_set]
    rcases hn with rfl | hn
    · have : (l.map (·.1)).set i k' = l.map (·.1) := by
        refine List.ext_getElem? fun j => ?_
        rw [List.getElem?_set]
        split
        · rename_i e
          subst e
          rw [if_pos (by rw [List.length_map]; exact hil), List.getElem?_map, hi]
          rfl
        · rfl
      show ((l.map (·.1)).set i k').Nodup
      rw [this]
      exact h.nd
    · show ((l.map (·.1)).set i k').Nodup
      have hno : k' ∉ l.map (·.1) := fun hm => by
        obtain ⟨p, hp, e⟩ := List.mem_map.1 hm
        exact hn p hp e
      have hd := h.nd
      exact nodup_set hd hno
theorem Tr.set (h : Tr W V X l) (i : Nat) {k : Nat} {cs : List Value} {t : TypeId} (hi : l[i]? = some (k, .cells cs.toArray t (0, 0))) (j : Nat) (v : Value) : Tr W V (X.setCell ⟨k, j, none⟩ v) (l.set i (k, .cells (cs.set j v).toArray t (0, 0))) := by
  have hk := h.at_ _ (List.mem_of_getElem? hi)
  have hge := h.ge _ (List.mem_of_getElem? hi)
  exact h.put (h.below.setCell hge v) (h.keep.setCell _ v) hi hge (.inl rfl) (fun p hp hne => (Below.heap_setCell X ⟨k, j, none⟩ v p.1 hne).trans (h.at_ p hp)) (box_set X k j cs t v hk)
theorem Tr.cell (h : Tr W V X l) (i : Nat) {k : Nat} {cs : List Value} {t : TypeId} (hi : l[i]? = some (k, .cells cs.toArray t (0, 0))) {j : Nat} {v : Value} (hv : cs[j]? = some v) : X.cell? ⟨k, j, none⟩ = some v := cells_get (h.get i hi) hv
theorem Tr.fz (h : Tr W V X l) (i : Nat) {k : Nat} {cs : List Value} {t : TypeId} (hi : l[i]? = some (k, .cells cs.toArray t (0, 0))) (o : Nat) : X.frozen? ⟨k, o, none⟩ = false := frozen_cells (h.get i hi)
end
def Pre (cur vs : List Value) : Prop := ∀ (i : Nat) (v : Value), vs[i]? = some v → cur[i]? = some v
theorem Pre.set {cur vs : List Value} (h : Pre cur vs) (r : Nat) (u : Value) : Pre (cur.set r u) (vs.set r u) := fun i v hv => by
  rw [List.getElem?_set] at hv ⊢
  split
  · rename_i e
    rw [if_pos e] at hv
    split at hv
    · rename_i hl
      have := h r _ (List.getElem?_eq_getElem hl)
      rw [if_pos (List.getElem?_eq_some_iff.1 this).1]
      exact hv
    · cases hv
  · rename_i e
    rw [if_neg e] at hv
    exact h i v hv
theorem Tr.grown {W V X Y : World} {l : List (Nat × Obj)} (h : Tr W V X l) (hg : X.grownBy Y none) : Tr W V Y l := h.step ((Below.refl _ X).grown hg (Nat.le_refl _) (fun q e => by cases e))
end Go.Proofs.Ytbdmmikflkpmpaa
end

section
namespace Go.Proofs.Ytbdmmikflkpmpaa
open Go.RowKit Go.TL Go.Shelf Go.Pn
attribute [local go_sem] Oper.semAt_some
attribute [local go_sem] run_store_func
structure W38 (w : World) (a : XP) (v : Value) (M : List (Nat × Nat)) (W : World) : Prop where
  b2 : PBx W w.heap.size a
  b4 : W.heap[w.heap.size + 1]? = some (.cells #[.slice none 0 0, .slice none 0 0, .slice none 0 0] 25 (0, 0))
  b5 : W.heap[w.heap.size + 1 + 1]? = some (.cells #[a.sL, a.sN, v] 25 (0, 0))
  own : W.ownsRow (w.heap.size + 1 + 1 + 1) 50 2 v M.length (flatV M)
  below : Below w.heap.size w W
theorem W38.keep {w : World} {a : XP} {v : Value} {M : List (Nat × Nat)} {W W' : World} (h : W38 w a v M W) (hb : Below W.heap.size W W') : W38 w a v M W' := ⟨h.b2.keep hb, (hb.block _ (heap_lt h.b4)).trans h.b4, (hb.block _ (heap_lt h.b5)).trans h.b5, own_grow h.own (Grow.of_below (B := 0) hb), h.below.trans (hb.mono h.below.size)⟩
def XP.waived (a : XP) (A : Option Addr) (c s : Nat) : XP := { a with AK := A, cK := c, K := (waiveK s a.s3.2.2).map fun k => ((k.1 : Int), (k.2 : Int)) }
theorem XP.waived_s3 (a : XP) (A : Option Addr) (c s : Nat) : (a.waived A c s).s3 = a.s3.waive s := by
  show (_, _, _) = (_, _, _)
  congr 1
  congr 1
  show ((waiveK s a.s3.2.2).map _).map _ = _
  rw [List.map_map]
  conv => rhs; rw [← List.map_id (waiveK s a.s3.2.2)]
  exact List.map_congr_left fun k _ => by simp
theorem XP.waived_fine {a : XP} (hf : a.Fine) (A : Option Addr) (c s : Nat) : (a.waived A c s).Fine := by
  refine ⟨hf.j, hf.p, ?_, hf.lb, hf.nb, ?_⟩
  · show ((waiveK s a.s3.2.2).map _).length ≤ 10
    rw [List.length_map]
    have := waiveTo_len s a.s3.2.2 a.s3.2.2.length
    have h2 : a.s3.2.2.length = a.K.length := by simp [XP.s3]
    have := hf.k
    unfold waiveK
    omega
  · intro y hy
    obtain ⟨z, hz, rfl⟩ := List.mem_map.1 hy
    obtain ⟨i, _, hi⟩ := waiveK_mem.1 hz
    obtain ⟨q, hq, rfl⟩ := List.mem_map.1 (show z ∈ a.K.map fun k => (k.1.toNat, k.2.toNat) from List.mem_of_getElem? hi)
    have := hf.kb q hq
    show ((_ : Int) ≤ _ ∧ _ < (a.L.length : Int)) ∧ _ ≤ _ ∧ _ < (a.N.length : Int)
    simp only
    omega
theorem XP.waived_at {a : XP} {W : World} (ha : a.At W) {A : Option Addr} {c s : Nat} (hr : RowK W A (waiveK s a.s3.2.2)) : (a.waived A c s).At W := by
  refine ⟨ha.l, ha.n, rowKI_of hr, ha.l4, ha.n4, ?_⟩
  show ((waiveK s a.s3.2.2).map _).length ≤ 40
  rw [List.length_map]
  have := waiveTo_len s a.s3.2.2 a.s3.2.2.length
  have h2 : a.s3.2.2.length = a.K.length := by simp [XP.s3]
  have := ha.k4
  unfold waiveK
  omega
end Go.Proofs.Ytbdmmikflkpmpaa
end

section
namespace Go.Proofs.Ytbdmmikflkpmpaa
open Go.RowKit Go.TL Go.Shelf Go.Pn
attribute [local go_sem] Oper.semAt_some
attribute [local go_sem] run_store_func
/-! ### The least set, in plain words -/
theorem pop_le {s n : Nat} (hs : s < 2 ^ n) (hn : n ≤ 10) : pop s ≤ n := by
  rw [pop_n hs hn]
  have := sumN_le (f := fun j => b1 (s.testBit j)) (g := fun _ => 1) n (fun i _ => by unfold b1; split <;> omega)
  have h1 : ∀ k, sumN (fun _ => 1) k = k := fun k => by
    induction k with
    | zero => rfl
    | succ k ih => show sumN _ k + 1 = _; rw [ih]
  rw [h1] at this
  exact this
theorem mem_bySize_iff {n s : Nat} (hn : n ≤ 10) : s ∈ bySize n ↔ s < 2 ^ n := by
  refine ⟨mem_bySize, fun h => ?_⟩
  unfold bySize
  rw [List.mem_flatten]
  exact ⟨ofSize n (pop s), List.mem_map.2 ⟨pop s, List.mem_range.2 (by have := pop_le h hn; omega), rfl⟩, List.mem_filter.2 ⟨List.mem_range.2 h, by simp⟩⟩
theorem range_find {q : Nat → Bool} {n s : Nat} (h : (List.range n).find? q = some s) : s < n ∧ q s = true ∧ ∀ t, t < s → q t = false := by
  obtain ⟨h1, as0, bs, h2, h3⟩ := List.find?_eq_some_iff_append.1 h
  have hs := List.mem_range.1 (List.mem_of_find?_eq_some h)
  refine ⟨hs, h1, fun t ht => ?_⟩
  have hl : as0.length = s := by
    have := congrArg (fun l => l[as0.length]?) h2
    try simp only at this
    rw [List.getElem?_append_right (Nat.le_refl _), Nat.sub_self, List.getElem?_cons_zero] at this
    have hlt := (List.getElem?_eq_some_iff.1 this).1
    rw [List.getElem?_range (by simpa using hlt)] at this
    exact Option.some.inj this
  have hm : t ∈ as0 := by
    have := congrArg (fun l => l[t]?) h2
    try simp only at this
    rw [List.getElem?_range (by omega), List.getElem?_append_left (by omega)] at this
    exact List.mem_of_getElem? this.symm
  have := h3 t hm
  simpa using this
theorem bySize_min {n s : Nat} {q : Nat → Bool} (hn : n ≤ 10) (h : (bySize n).find? q = some s) : s < 2 ^ n ∧ q s = true ∧ ∀ t, t < 2 ^ n → q t = true → pop s < pop t ∨ (pop s = pop t ∧ s ≤ t) := by
  have hq := List.find?_some h
  have hm := List.mem_of_find?_eq_some h
  refine ⟨mem_bySize hm, hq, fun t ht hqt => ?_⟩
  have hf : (bySize n).find? q = (List.range (n + 1)).findSome? fun z => (ofSize n z).find? q := by
    unfold bySize
    rw [← List.flatMap_def, List.find?_flatMap]
  rw [hf, List.findSome?_eq_some_iff] at h
  obtain ⟨l1, z, l2, hl, hz, hnone⟩ := h
  have hsz : s ∈ ofSize n z := List.mem_of_find?_eq_some hz
  have hps : pop s = z := by simpa using (List.mem_filter.1 hsz).2
  have hl1 : l1.length = z := by
    have := congrArg (fun l => l[l1.length]?) hl
    try simp only at this
    rw [List.getElem?_append_right (Nat.le_refl _), Nat.sub_self, List.getElem?_cons_zero] at this
    have hlt := (List.getElem?_eq_some_iff.1 this).1
    rw [List.getElem?_range (by simpa using hlt)] at this
    exact Option.some.inj this
  have htm : t ∈ ofSize n (pop t) := List.mem_filter.2 ⟨List.mem_range.2 ht, by simp⟩
  rcases Nat.lt_trichotomy (pop t) z with hlt | heq | hgt
  · have hzl : z < n + 1 := by
      have := congrArg List.length hl
      simp only [List.length_range, List.length_append, List.length_cons] at this
      omega
    have hmem : pop t ∈ l1 := by
      have := congrArg (fun l => l[pop t]?) hl
      try simp only at this
      rw [List.getElem?_range (by omega), List.getElem?_append_left (by omega)] at this
      exact List.mem_of_getElem? this.symm
    have := List.find?_eq_none.1 (hnone (pop t) hmem) t htm
    exact absurd hqt this
  · right
    refine ⟨by omega, ?_⟩
    rw [show ofSize n z = (List.range (2 ^ n)).filter fun s => pop s == z from rfl, List.find?_filter] at hz
    obtain ⟨_, _, h3⟩ := range_find hz
    apply Classical.byContradiction
    intro c
    have := h3 t (by omega)
    simp [hqt, heq] at this
  · left
    omega
end Go.Proofs.Ytbdmmikflkpmpaa
end

section
namespace Go.Proofs.Ytbdmmikflkpmpaa
open Go.RowKit Go.TL Go.Shelf Go.Pn
attribute [local go_sem] Oper.semAt_some
attribute [local go_sem] run_store_func
theorem pop_clr {s i : Nat} (hs : s < 2 ^ 64) (hi : i < 10) (hb : s.testBit i = true) : pop s = pop (clrB s i) + 1 := by
  unfold pop
  rw [sumN_upd (fun j => b1 ((clrB s i).testBit j)) (fun j => b1 (s.testBit j)) i 1 10 (fun j _ hne => ?_) (fun _ => ?_), if_pos hi]
  · rw [clrB_bit s i j hs (by omega), decide_eq_false (fun c => hne c.symm)]
    simp
  · rw [clrB_bit s i i hs (by omega), hb]
    simp [b1]
theorem waive_zero (x : S3) : x.waive 0 = x := by
  have : waiveK 0 x.2.2 = x.2.2 := by
    have h : ∀ k, k ≤ x.2.2.length → waiveTo 0 x.2.2 k = x.2.2.take k := fun k => by
      induction k with
      | zero => intro _; rfl
      | succ k ih =>
        intro hk
        rw [waiveTo_succ 0 x.2.2 k _ (List.getElem?_eq_getElem (by omega)), Nat.zero_testBit, if_neg (by simp), ih (by omega), List.take_succ_eq_append_getElem (by omega)]
    unfold waiveK
    rw [h _ (Nat.le_refl _), List.take_length]
  unfold S3.waive
  rw [this]
structure WvFacts (a : XP) (wf : Nat) : Prop where
  lt : wf < 2 ^ a.K.length
  can : canV (toP (a.s3.waive wf)) = true
  min : ∀ t, t < 2 ^ a.K.length → canV (toP (a.s3.waive t)) = true → pop wf < pop t ∨ (pop wf = pop t ∧ wf ≤ t)
  zero : decide (wf = 0) = canV (toP a.s3)
theorem waive_facts {a : XP} (hf : a.Fine) (h : canV (toP (a.s3.waive (every a.K.length))) = true) : WvFacts a (waiveF a.s3) := by
  have hk := hf.k
  have hl : a.s3.2.2.length = a.K.length := by simp [XP.s3]
  have hev : every a.K.length < 2 ^ a.K.length := by
    unfold every
    have := Nat.one_le_two_pow (n := a.K.length)
    omega
  unfold waiveF
  rw [hl]
  cases hfd : (bySize a.K.length).find? (fun s => canV (toP (a.s3.waive s))) with
  | none =>
    have := List.find?_eq_none.1 hfd _ ((mem_bySize_iff hk).2 hev)
    exact absurd h (by simpa using this)
  | some s =>
    obtain ⟨h1, h2, h3⟩ := bySize_min hk hfd
    refine ⟨h1, h2, h3, ?_⟩
    simp only [Option.getD_some]
    cases hc : canV (toP a.s3) with
    | true =>
      rcases h3 0 (Nat.pow_pos (by omega)) (by rw [waive_zero]; exact hc) with h | h
      · have h0 : pop 0 = 0 := by decide
        omega
      · exact decide_eq_true (by omega)
    | false =>
      refine decide_eq_false fun c => ?_
      rw [c, waive_zero, hc] at h2
      cases h2
end Go.Proofs.Ytbdmmikflkpmpaa
end

section
namespace Go.Proofs.Ytbdmmikflkpmpaa
open Go.RowKit Go.TL Go.Shelf Go.Pn
attribute [local go_sem] Oper.semAt_some
attribute [local go_sem] run_store_func
theorem s3_nlen (a : XP) : a.s3.2.1.length = a.N.length := by simp [XP.s3]
end Go.Proofs.Ytbdmmikflkpmpaa
end

section
namespace Go.Proofs.Ytbdmmikflkpmpaa
open Go.RowKit Go.TL Go.Shelf Go.Pn
attribute [local go_sem] Oper.semAt_some
attribute [local go_sem] run_store_func
theorem sumN_lt {f g : Nat → Nat} {n i : Nat} (hi : i < n) (h : ∀ k, k < n → f k ≤ g k) (hs : f i < g i) : sumN f n < sumN g n := by
  refine Nat.lt_of_le_of_ne (sumN_le n h) fun e => ?_
  have := sumN_eq_all n h e i hi
  omega
theorem sumN_if (T : Bool) (f : Nat → Nat) (n : Nat) : sumN (fun j => if T then f j else 0) n = if T then sumN f n else 0 := by
  cases T
  · exact sumN_zero n
  · rfl
def needS (P : Pnl) (T : Nat → Bool) : Nat := sumN (fun p => if T p then P.needs.getD p 0 else 0) P.needs.length
def capS (P : Pnl) (T : Nat → Bool) : Nat := sumN (fun j => min (P.loads.getD j 0) (sumN (fun p => b1 (T p && (P.fit.getD p 0).testBit j)) P.needs.length)) P.loads.length
theorem sum_at (a : Asg) (T : Nat → Bool) (nP nJ : Nat) : sumN (fun p => if T p then cntJ a nJ p else 0) nP = sumN (fun j => sumN (fun p => b1 (T p && a p j)) nP) nJ := by
  rw [← sumN_swap]
  refine sumN_congr nP fun p _ => ?_
  show (if T p then sumN (fun j => b1 (a p j)) nJ else 0) = _
  rw [← sumN_if]
  refine sumN_congr nJ fun j _ => ?_
  cases T p <;> rfl
theorem b1_le {x y : Bool} (h : x = true → y = true) : b1 x ≤ b1 y := by
  cases x with
  | false => exact Nat.zero_le _
  | true => rw [h rfl]; exact Nat.le_refl _
theorem can_hall {P : Pnl} (hP : P.Ok) : canV P = true ↔ ∀ T : Nat → Bool, needS P T ≤ capS P T := by
  constructor
  · intro h T
    obtain ⟨g, hg⟩ := (can_is hP).1 h
    have h1 : needS P T = sumN (fun p => if T p then cntJ g P.loads.length p else 0) P.needs.length := sumN_congr _ fun p hp => by rw [hg.eq p hp]
    rw [h1, sum_at]
    refine sumN_le _ fun j hj => Nat.le_min.2 ⟨?_, sumN_le _ fun p hp => b1_le fun hb => ?_⟩
    · refine Nat.le_trans (sumN_le _ fun p hp => ?_) (hg.feas.load j hj)
      exact b1_le fun hb => (Bool.and_eq_true_iff.1 hb).2
    · rw [Bool.and_eq_true] at hb ⊢
      exact ⟨hb.1, hg.feas.fit p j hp hj hb.2⟩
  · intro h
    classical
    have hi := seatAll_inv hP P.needs.length (Nat.le_refl _)
    obtain ⟨R, S, h1, h2⟩ := hi.shut
    generalize hst : (seatAll P P.needs.length).2 = st at *
    have hok : Okay P st := by rw [← hst]; exact hi.ok
    have hle : ∀ q, q < P.needs.length → cntJ st.at_ P.loads.length q ≤ P.needs.getD q 0 := fun q hq => by
      have := hi.le q hq
      rw [if_pos hq, hst] at this
      exact this
    have hR : ∀ q, q < P.needs.length → cntJ st.at_ P.loads.length q < P.needs.getD q 0 → R q := fun q hq hlt => h2 q hq (by rw [if_pos hq]; exact hlt)
    refine (can_is hP).2 ⟨st.at_, ⟨⟨fun p j _ _ hh => (hok.fit p j hh).2.2, hok.load⟩, fun p hp => ?_⟩⟩
    refine Classical.byContradiction fun hne => ?_
    have hlt : cntJ st.at_ P.loads.length p < P.needs.getD p 0 := Nat.lt_of_le_of_ne (hle p hp) hne
    have hT := h (fun q => decide (R q))
    have hn : sumN (fun q => if decide (R q) = true then cntJ st.at_ P.loads.length q else 0) P.needs.length < needS P fun q => decide (R q) := by
      refine sumN_lt hp (fun k hk => ?_) ?_
      · split
        · exact hle k hk
        · exact Nat.le_refl _
      · rw [if_pos (decide_eq_true (hR p hp hlt)), if_pos (decide_eq_true (hR p hp hlt))]
        exact hlt
    rw [sum_at] at hn
    have hc : capS P (fun q => decide (R q)) ≤ sumN (fun j => sumN (fun q => b1 (decide (R q) && st.at_ q j)) P.needs.length) P.loads.length := by
      refine sumN_le _ fun j hj => ?_
      by_cases hs : S j
      · refine Nat.le_trans (Nat.min_le_left _ _) (Nat.le_trans (h1.full j hj hs) ?_)
        refine sumN_le _ fun q hq => b1_le fun hb => ?_
        rw [hb, decide_eq_true (h1.back q j hq hj hs hb)]
        rfl
      · refine Nat.le_trans (Nat.min_le_right _ _) (sumN_le _ fun q hq => b1_le fun hb => ?_)
        rw [Bool.and_eq_true] at hb ⊢
        refine ⟨hb.1, ?_⟩
        cases ha : st.at_ q j with
        | true => rfl
        | false => exact absurd (h1.out q j hq hj (of_decide_eq_true hb.1) hb.2 ha) hs
    omega
theorem pop_eq_bits {s t : Nat} (hsub : ∀ i, i < 10 → t.testBit i = true → s.testBit i = true) (h : pop s ≤ pop t) : ∀ i, i < 10 → t.testBit i = s.testBit i := by
  intro i hi
  have h1 : pop t ≤ pop s := sumN_le 10 fun k hk => b1_le (hsub k hk)
  have h2 := sumN_eq_all (f := fun j => b1 (t.testBit j)) (g := fun j => b1 (s.testBit j)) 10 (fun k hk => b1_le (hsub k hk)) (Nat.le_antisymm h1 h) i hi
  cases ha : t.testBit i <;> cases hb : s.testBit i <;> simp [ha, hb, b1] at h2 ⊢
def freeT (a : XP) (s j : Nat) : Nat → Nat := sumN fun i => b1 (s.testBit i && !kinB a j i)
def capT (a : XP) (s : Nat) : Nat → Nat := sumN fun j => min (a.s3.1.getD j 0) (freeT a s j a.N.length)
def needT (a : XP) (s : Nat) : Nat → Nat := sumN fun i => if s.testBit i then a.s3.2.1.getD i 0 else 0
structure ShFacts (a : XP) (s : Nat) : Prop where
  pos : 0 < s
  lt : s < 2 ^ a.N.length
  no : canV (toP (a.s3.only s)) = false
  drop : ∀ i, i < a.N.length → s.testBit i = true → canV (toP (a.s3.only (clrB s i))) = true
  min : ∀ t, t < 2 ^ a.N.length → canV (toP (a.s3.only t)) = false → pop s < pop t ∨ (pop s = pop t ∧ s ≤ t)
  less : capT a s a.L.length < needT a s a.N.length
theorem s3_kin {a : XP} (hf : a.Fine) {i j : Nat} (hi : i < a.N.length) (hj : j < a.L.length) (x : Nat) : ((toP (a.s3.only x)).fit.getD i 0).testBit j = !kinB a j i := by
  have hg := XP.good hf
  have hN := s3_nlen a
  have hL : a.s3.1.length = a.L.length := by simp [XP.s3]
  show ((kinF (List.replicate (onlyN x a.s3.2.1).length (2 ^ a.s3.1.length - 1)) a.s3.2.2).getD i 0).testBit j = _
  rw [onlyN_len, kinF_bit _ _ (fun k hk => by have := hg.k1 k hk; have := hg.j; omega) (fun q => rep_lt (two_lt hg.j) q) i j (by rw [List.length_replicate, hN]; exact hi)]
  have e1 : ((List.replicate a.s3.2.1.length (2 ^ a.s3.1.length - 1)).getD i 0).testBit j = true := by
    rw [List.getD_eq_getElem?_getD, List.getElem?_replicate, if_pos (by rw [hN]; exact hi)]
    show (2 ^ a.s3.1.length - 1).testBit j = true
    rw [Nat.testBit_two_pow_sub_one, hL, decide_eq_true hj]
  rw [e1, Bool.true_and]
  congr 1
  unfold kinB
  rw [Bool.eq_iff_iff, decide_eq_true_iff, List.any_eq_true]
  constructor
  · intro h
    obtain ⟨k, hk, e⟩ := List.mem_map.1 (show (j, i) ∈ a.K.map fun k => (k.1.toNat, k.2.toNat) from h)
    have := hf.kb k hk
    simp only [Prod.mk.injEq] at e
    refine ⟨k, hk, ?_⟩
    rw [decide_eq_true (by omega), decide_eq_true (by omega)]
    rfl
  · rintro ⟨k, hk, e⟩
    rw [Bool.and_eq_true, decide_eq_true_iff, decide_eq_true_iff] at e
    refine List.mem_map.2 ⟨k, hk, ?_⟩
    rw [e.1, e.2]
    rfl
theorem only_all {x : S3} (s : Nat) (h : ∀ i, i < x.2.1.length → s.testBit i = true) : x.only s = x := by
  have : onlyN s x.2.1 = x.2.1 := by
    refine List.ext_getElem? fun i => ?_
    by_cases hi : i < x.2.1.length
    · rw [List.getElem?_eq_getElem (by rw [onlyN_len]; exact hi), List.getElem?_eq_getElem hi, ← getD_lt, ← getD_lt, onlyN_get, if_pos (h i hi)]
    · rw [List.getElem?_eq_none (by rw [onlyN_len]; omega), List.getElem?_eq_none (by omega)]
  unfold S3.only
  rw [this]
theorem only_can {a : XP} (hf : a.Fine) (s : Nat) (h : canV (toP a.s3) = true) : canV (toP (a.s3.only s)) = true := by
  have hg := XP.good hf
  have hall : a.s3.only (2 ^ a.N.length - 1) = a.s3 := only_all _ fun i hi => by
    rw [Nat.testBit_two_pow_sub_one, decide_eq_true (by rw [← s3_nlen]; exact hi)]
  refine (can_hall (toP_Fit (hg.only s)).ok).2 fun T => ?_
  have hT := (can_hall (toP_Fit hg).ok).1 h fun p => T p && s.testBit p
  have hln : (toP (a.s3.only s)).needs.length = (toP a.s3).needs.length := onlyN_len _ _
  have hfit : (toP (a.s3.only s)).fit = (toP a.s3).fit := by
    show kinF (List.replicate (onlyN s a.s3.2.1).length _) _ = kinF (List.replicate a.s3.2.1.length _) _
    rw [onlyN_len]
    rfl
  have e1 : needS (toP (a.s3.only s)) T = needS (toP a.s3) fun p => T p && s.testBit p := by
    unfold needS
    rw [hln]
    refine sumN_congr _ fun p hp => ?_
    show (if T p then (onlyN s a.s3.2.1).getD p 0 else 0) = if (T p && s.testBit p) = true then a.s3.2.1.getD p 0 else 0
    rw [onlyN_get]
    cases T p <;> cases s.testBit p <;> rfl
  have e2 : capS (toP a.s3) (fun p => T p && s.testBit p) ≤ capS (toP (a.s3.only s)) T := by
    unfold capS
    rw [hln, hfit]
    refine sumN_le _ fun j hj => Nat.le_min.2 ⟨Nat.min_le_left _ _, Nat.le_trans (Nat.min_le_right _ _) (sumN_le _ fun p hp => b1_le fun hb => ?_)⟩
    rw [Bool.and_eq_true, Bool.and_eq_true] at hb
    rw [hb.1.1, hb.2]
    rfl
  omega
theorem short_none {a : XP} (hf : a.Fine) (h : shortF a.s3 = none) : canV (toP a.s3) = true := by
  unfold shortF at h
  have hn6 := hf.p
  have hl : a.s3.2.1.length ≤ 10 := by rw [s3_nlen]; omega
  have hall : a.s3.only (2 ^ a.s3.2.1.length - 1) = a.s3 := only_all _ fun i hi => by
    rw [Nat.testBit_two_pow_sub_one, decide_eq_true hi]
  have := List.find?_eq_none.1 h _ ((mem_bySize_iff hl).2 (show 2 ^ a.s3.2.1.length - 1 < _ by have := Nat.one_le_two_pow (n := a.s3.2.1.length); omega))
  rw [hall] at this
  simpa using this
theorem only_zero (a : XP) (hf : a.Fine) : canV (toP (a.s3.only 0)) = true := by
  refine (can_hall (toP_Fit ((XP.good hf).only 0)).ok).2 fun T => ?_
  have : needS (toP (a.s3.only 0)) T = 0 := by
    unfold needS
    refine Eq.trans (sumN_congr _ fun p hp => ?_) (sumN_zero _)
    show (if T p then (onlyN 0 a.s3.2.1).getD p 0 else 0) = 0
    rw [onlyN_get, Nat.zero_testBit]
    cases T p <;> rfl
  omega
theorem short_facts {a : XP} (hf : a.Fine) {s : Nat} (h : shortF a.s3 = some s) : ShFacts a s ∧ canV (toP a.s3) = false := by
  have hn6 := hf.p
  have hj6 := hf.j
  have hg := XP.good hf
  have hN := s3_nlen a
  have hL : a.s3.1.length = a.L.length := by simp [XP.s3]
  have h' : (bySize a.N.length).find? (fun s => !canV (toP (a.s3.only s))) = some s := by rw [← hN]; exact h
  obtain ⟨h1, h2, h3⟩ := bySize_min (by omega) h'
  have hno : canV (toP (a.s3.only s)) = false := by simpa using h2
  have hmin : ∀ t, t < 2 ^ a.N.length → canV (toP (a.s3.only t)) = false → pop s < pop t ∨ (pop s = pop t ∧ s ≤ t) := fun t ht hc => h3 t ht (by rw [hc]; rfl)
  have hs64 : s < 2 ^ 64 := Nat.lt_of_lt_of_le h1 (Nat.pow_le_pow_right (by omega) (by omega))
  refine ⟨⟨?_, h1, hno, ?_, hmin, ?_⟩, ?_⟩
  · refine Nat.pos_of_ne_zero fun e => ?_
    subst e
    rw [only_zero a hf] at hno
    cases hno
  · intro i hi hb
    cases hc : canV (toP (a.s3.only (clrB s i))) with
    | true => rfl
    | false =>
      have hp := pop_clr hs64 (show i < 10 by omega) hb
      have := hmin (clrB s i) (Nat.lt_of_le_of_lt Nat.and_le_left h1) hc
      omega
  · have hln : (toP (a.s3.only s)).needs.length = a.N.length := (onlyN_len _ _).trans hN
    have hnh : ¬ ∀ T : Nat → Bool, needS (toP (a.s3.only s)) T ≤ capS (toP (a.s3.only s)) T := fun hh => by
      rw [(can_hall (toP_Fit (hg.only s)).ok).2 hh] at hno
      cases hno
    obtain ⟨T, hT⟩ := Classical.not_forall.1 hnh
    replace hT := Nat.lt_of_not_le hT
    -- the plots that are both
    have hbit : ∀ i, (mkS (fun p => T p && s.testBit p) a.N.length).testBit i = (decide (i < a.N.length) && (T i && s.testBit i)) := fun i => mkS_bit _ _ _
    have hmlt := mkS_lt (fun p => T p && s.testBit p) a.N.length
    generalize mkS (fun p => T p && s.testBit p) a.N.length = m at hbit hmlt
    have hlm : (toP (a.s3.only m)).needs.length = a.N.length := (onlyN_len _ _).trans hN
    have hfit : (toP (a.s3.only m)).fit = (toP (a.s3.only s)).fit := by
      show kinF (List.replicate (onlyN m a.s3.2.1).length _) _ = kinF (List.replicate (onlyN s a.s3.2.1).length _) _
      rw [onlyN_len, onlyN_len]
      rfl
    have e1 : needS (toP (a.s3.only m)) T = needS (toP (a.s3.only s)) T := by
      unfold needS
      rw [hlm, hln]
      refine sumN_congr _ fun p hp => ?_
      show (if T p then (onlyN m a.s3.2.1).getD p 0 else 0) = if T p then (onlyN s a.s3.2.1).getD p 0 else 0
      rw [onlyN_get, onlyN_get, hbit, decide_eq_true hp]
      cases T p <;> rfl
    have e2 : capS (toP (a.s3.only m)) T = capS (toP (a.s3.only s)) T := by
      unfold capS
      rw [hlm, hln, hfit]
      rfl
    have hmc : canV (toP (a.s3.only m)) = false := by
      cases hc : canV (toP (a.s3.only m)) with
      | false => rfl
      | true =>
        have := (can_hall (toP_Fit (hg.only m)).ok).1 hc T
        omega
    have hpop : pop s ≤ pop m := by
      have := hmin m hmlt hmc
      omega
    have heq := pop_eq_bits (fun i _ hb => by
      rw [hbit, Bool.and_eq_true, Bool.and_eq_true] at hb
      exact hb.2.2) hpop
    have hTs : ∀ i, i < a.N.length → s.testBit i = true → T i = true := fun i hi hb => by
      have := heq i (by omega)
      rw [hbit, hb, Bool.and_eq_true, Bool.and_eq_true] at this
      exact this.2.1
    have e3 : needS (toP (a.s3.only s)) T = needT a s a.N.length := by
      unfold needS needT
      rw [hln]
      refine sumN_congr _ fun p hp => ?_
      show (if T p then (onlyN s a.s3.2.1).getD p 0 else 0) = _
      rw [onlyN_get]
      cases hb : s.testBit p with
      | false => cases T p <;> rfl
      | true => rw [hTs p hp hb]; rfl
    have e4 : capT a s a.L.length ≤ capS (toP (a.s3.only s)) T := by
      have : (toP (a.s3.only s)).loads.length = a.L.length := hL
      unfold capS capT
      rw [hln, this]
      refine sumN_le _ fun j hj => Nat.le_min.2 ⟨Nat.min_le_left _ _, Nat.le_trans (Nat.min_le_right _ _) (sumN_le _ fun p hp => b1_le fun hb => ?_)⟩
      rw [Bool.and_eq_true] at hb
      rw [s3_kin hf hp hj, hb.2, hTs p hp hb.1]
      rfl
    omega
  · cases hc : canV (toP a.s3) with
    | false => rfl
    | true =>
      rw [only_can hf s hc] at hno
      cases hno
end Go.Proofs.Ytbdmmikflkpmpaa
end

section
namespace Go.Proofs.Ytbdmmikflkpmpaa
open Go.RowKit Go.TL Go.Shelf Go.Pn
attribute [local go_sem] Oper.semAt_some
attribute [local go_sem] run_store_func
theorem sit_tie {a : XP} (hf : a.Fine) (hc : canV (toP a.s3) = true) : ∀ k, k ≤ a.N.length → (seqs a.L.length ((nf (toP a.s3)).drop k).length).any (okL ((nf (toP a.s3)).drop k) (sitFold a k).2) = true ∧ (sitFold a k).1 ++ sitG a.L.length ((nf (toP a.s3)).drop k) (sitFold a k).2 = sitG a.L.length (nf (toP a.s3)) a.s3.1
  | 0, _ => by
    have hF := toP_Fit (XP.good hf)
    have := hc
    rw [can_seqs hF, ← nf_len hF] at this
    have hL : (toP a.s3).loads.length = a.L.length := by simp [toP, XP.s3]
    rw [hL] at this
    exact ⟨this, rfl⟩
  | k + 1, hk => by
    obtain ⟨h1, h2⟩ := sit_tie hf hc k (by omega)
    have hF := toP_Fit (XP.good hf)
    have hnl : (toP a.s3).needs.length = a.N.length := by simp [toP, XP.s3]
    have hx := nf_get hF (i := k) (by omega)
    have hkl := (List.getElem?_eq_some_iff.1 hx).1
    have hdr : (nf (toP a.s3)).drop k = ((toP a.s3).needs.getD k 0, (toP a.s3).fit.getD k 0) :: (nf (toP a.s3)).drop (k + 1) := by
      rw [List.drop_eq_getElem_cons hkl, (List.getElem?_eq_some_iff.1 hx).2]
    rw [hdr] at h1 h2
    have hd : sitG a.L.length (((toP a.s3).needs.getD k 0, (toP a.s3).fit.getD k 0) :: (nf (toP a.s3)).drop (k + 1)) (sitFold a k).2 = (match (List.range (2 ^ a.L.length)).find? (okTry a k (sitFold a k).2) with | some s => s :: sitG a.L.length ((nf (toP a.s3)).drop (k + 1)) (subL (sitFold a k).2 s) | none => sitG a.L.length ((nf (toP a.s3)).drop (k + 1)) (sitFold a k).2) := rfl
    rw [hd] at h2
    rw [sitFold_succ]
    unfold sitStep
    cases hq : (List.range (2 ^ a.L.length)).find? (okTry a k (sitFold a k).2) with
    | none =>
      exfalso
      obtain ⟨t, ht, hok⟩ := List.any_eq_true.1 h1
      obtain ⟨s, hs, ht⟩ := List.mem_flatMap.1 ht
      obtain ⟨u, hu, rfl⟩ := List.mem_map.1 ht
      have hok' : (okS ((toP a.s3).needs.getD k 0) ((toP a.s3).fit.getD k 0) s && canL (sitFold a k).2 s && okL ((nf (toP a.s3)).drop (k + 1)) (subL (sitFold a k).2 s) u) = true := hok
      rw [Bool.and_eq_true] at hok'
      have := List.find?_eq_none.1 hq s hs
      refine this ?_
      unfold okTry
      rw [hok'.1, Bool.true_and]
      exact List.any_eq_true.2 ⟨u, hu, hok'.2⟩
    | some s =>
      rw [hq] at h2
      simp only at h2
      obtain ⟨_, hs, _⟩ := range_find hq
      unfold okTry at hs
      rw [Bool.and_eq_true] at hs
      refine ⟨hs.2, ?_⟩
      rw [← h2]
      simp
theorem count_is {a : XP} (hf : a.Fine) : countF a = ((seqs a.L.length a.N.length).filter (okL (nf (toP a.s3)) a.s3.1)).length := by
  have hF := toP_Fit (XP.good hf)
  have hnl : (toP a.s3).needs.length = a.N.length := by simp [toP, XP.s3]
  unfold countF
  rw [ways_count, nf_len hF, hnl]
  congr 1
  refine List.filter_congr fun t _ => okL_congr fun j _ => ?_
  unfold padL
  rw [List.getD_eq_getElem?_getD, List.getD_eq_getElem?_getD]
  rcases Nat.lt_or_ge j a.s3.1.length with h | h
  · rw [List.getElem?_append_left h]
  · rw [List.getElem?_append_right h, List.getElem?_replicate, List.getElem?_eq_none h]
    split <;> rfl
theorem no_seating {a : XP} (hf : a.Fine) (hc : canV (toP a.s3) = false) : countF a = 0 ∧ ∀ t ∈ seqs a.L.length a.N.length, okL (nf (toP a.s3)) a.s3.1 t = false := by
  have hF := toP_Fit (XP.good hf)
  have hnl : (toP a.s3).needs.length = a.N.length := by simp [toP, XP.s3]
  have hL : (toP a.s3).loads.length = a.L.length := by simp [toP, XP.s3]
  have h := hc
  rw [can_seqs hF, hL, hnl, List.any_eq_false] at h
  refine ⟨?_, fun t ht => (by have h9 : ¬ okL (nf (toP a.s3)) a.s3.1 t = true := h t ht; simpa using h9)⟩
  rw [count_is hf, List.length_eq_zero_iff, List.filter_eq_nil_iff]
  exact fun t ht => h t ht
/-! ### who must sit, who never can -/
end Go.Proofs.Ytbdmmikflkpmpaa
end

section
namespace Go.Proofs.Ytbdmmikflkpmpaa
open Go.RowKit Go.TL Go.Shelf Go.Pn
attribute [local go_sem] Oper.semAt_some
attribute [local go_sem] run_store_func
end Go.Proofs.Ytbdmmikflkpmpaa
end

section
namespace Go.Proofs.Ytbdmmikflkpmpaa
open Go.RowKit Go.TL Go.Shelf Go.Pn
structure Ren (n : Nat) (s i : Nat → Nat) : Prop where
  lt : ∀ k, k < n → s k < n
  ilt : ∀ k, k < n → i k < n
  si : ∀ k, k < n → s (i k) = k
  is : ∀ k, k < n → i (s k) = k
theorem Ren.symm {n : Nat} {s i : Nat → Nat} (h : Ren n s i) : Ren n i s := ⟨h.ilt, h.lt, h.is, h.si⟩
theorem Ren.id (n : Nat) : Ren n (fun k => k) (fun k => k) := ⟨fun _ h => h, fun _ h => h, fun _ _ => rfl, fun _ _ => rfl⟩
theorem sumN_single (a v n : Nat) : sumN (fun k => if k = a then v else 0) n = if a < n then v else 0 := by
  rw [sumN_upd (fun _ => 0) (fun k => if k = a then v else 0) a v n (fun i _ hne => if_neg hne) (fun _ => by rw [if_pos rfl]; omega), sumN_zero]
  omega
theorem Ren.sum {n : Nat} {s i : Nat → Nat} (h : Ren n s i) (f : Nat → Nat) : sumN (fun k => f (s k)) n = sumN f n := by
  have e1 : sumN (fun k => f (s k)) n = sumN (fun k => sumN (fun j => if j = s k then f j else 0) n) n := sumN_congr _ fun k hk => by
    rw [sumN_congr (g := fun j => if j = s k then f (s k) else 0) n fun j _ => ?_, sumN_single, if_pos (h.lt k hk)]
    by_cases e : j = s k
    · rw [if_pos e, if_pos e, e]
    · rw [if_neg e, if_neg e]
  rw [e1, sumN_swap]
  refine sumN_congr _ fun j hj => ?_
  rw [sumN_congr (g := fun k => if k = i j then f j else 0) n fun k hk => ?_, sumN_single, if_pos (h.ilt j hj)]
  by_cases e : j = s k
  · rw [if_pos e, if_pos (by rw [e, h.is k hk])]
  · rw [if_neg e, if_neg (fun c => e (by rw [c, h.si j hj]))]
structure Trd (P Q : Pnl) (s si t ti : Nat → Nat) : Prop where
  jl : Q.loads.length = P.loads.length
  pl : Q.needs.length = P.needs.length
  js : Ren P.loads.length s si
  ps : Ren P.needs.length t ti
  ld : ∀ j, j < P.loads.length → Q.loads.getD (s j) 0 = P.loads.getD j 0
  nd : ∀ p, p < P.needs.length → Q.needs.getD (t p) 0 = P.needs.getD p 0
  ft : ∀ p j, p < P.needs.length → j < P.loads.length → (Q.fit.getD (t p) 0).testBit (s j) = (P.fit.getD p 0).testBit j
section
variable {P Q : Pnl} {s si t ti : Nat → Nat}
theorem Trd.symm (h : Trd P Q s si t ti) : Trd Q P si s ti t := by
  refine ⟨h.jl.symm, h.pl.symm, by rw [h.jl]; exact h.js.symm, by rw [h.pl]; exact h.ps.symm, fun j hj => ?_, fun p hp => ?_, fun p j hp hj => ?_⟩
  · rw [h.jl] at hj
    rw [← h.ld _ (h.js.ilt j hj), h.js.si j hj]
  · rw [h.pl] at hp
    rw [← h.nd _ (h.ps.ilt p hp), h.ps.si p hp]
  · rw [h.jl] at hj
    rw [h.pl] at hp
    rw [← h.ft _ _ (h.ps.ilt p hp) (h.js.ilt j hj), h.ps.si p hp, h.js.si j hj]
theorem Trd.cntJ (h : Trd P Q s si t ti) (a : Asg) (p : Nat) : cntJ (fun p j => a (ti p) (si j)) Q.loads.length p = cntJ a P.loads.length (ti p) := by
  unfold Go.Pn.cntJ
  rw [h.jl]
  exact h.js.symm.sum fun j => b1 (a (ti p) j)
theorem Trd.feas (h : Trd P Q s si t ti) {a : Asg} (ha : Feas P a) : Feas Q fun p j => a (ti p) (si j) := by
  refine ⟨fun p j hp hj hb => ?_, fun j hj => ?_⟩
  · have h2 := h.symm
    rw [h.jl] at hj
    rw [h.pl] at hp
    have := ha.fit _ _ (h.ps.ilt p hp) (h.js.ilt j hj) hb
    rw [← h.ft _ _ (h.ps.ilt p hp) (h.js.ilt j hj), h.ps.si p hp, h.js.si j hj] at this
    exact this
  · rw [h.jl] at hj
    have := ha.load _ (h.js.ilt j hj)
    rw [← h.ld _ (h.js.ilt j hj), h.js.si j hj] at this
    refine Nat.le_trans (Nat.le_of_eq ?_) this
    unfold cntP
    rw [h.pl]
    exact h.ps.symm.sum fun p => b1 (a p (si j))
theorem Trd.seats_le (hP : P.Ok) (hQ : Q.Ok) (h : Trd P Q s si t ti) : seatsV P ≤ seatsV Q := by
  obtain ⟨⟨a, ha, ht⟩, _⟩ := seats_is hP
  have h2 := (seats_is hQ).2 _ ⟨h.feas ha.feas, fun p hp => by
    rw [h.pl] at hp
    rw [h.cntJ, ← h.ps.si p hp, h.ps.is _ (h.ps.ilt p hp), h.nd _ (h.ps.ilt p hp)]
    exact ha.le _ (h.ps.ilt p hp)⟩
  have h3 : total Q (fun p j => a (ti p) (si j)) = total P a := by
    unfold total
    rw [h.pl, ← h.ps.symm.sum fun p => Go.Pn.cntJ a P.loads.length p]
    exact sumN_congr _ fun p _ => h.cntJ a p
  omega
theorem Trd.seats (hP : P.Ok) (hQ : Q.Ok) (h : Trd P Q s si t ti) : seatsV P = seatsV Q := Nat.le_antisymm (h.seats_le hP hQ) (h.symm.seats_le hQ hP)
theorem Trd.all (h : Trd P Q s si t ti) : allN P = allN Q := by
  unfold allN
  rw [h.pl, ← h.ps.sum fun p => Q.needs.getD p 0]
  exact sumN_congr _ fun p hp => (h.nd p hp).symm
theorem Trd.can (hP : P.Ok) (hQ : Q.Ok) (h : Trd P Q s si t ti) : canV P = canV Q := by
  unfold canV
  rw [h.seats hP hQ, h.all]
theorem Trd.pairF (hP : PFit P) (hQ : PFit Q) (h : Trd P Q s si t ti) {p0 j0 : Nat} (hp0 : p0 < P.needs.length) (hj0 : j0 < P.loads.length) {p j : Nat} (hp : p < P.needs.length) (hj : j < P.loads.length) :
    ((pairF Q (t p0) (s j0)).getD (t p) 0).testBit (s j) = ((pairF P p0 j0).getD p 0).testBit j := by
  have hj6 := hP.ok.j
  have hs6 := h.js.lt j0 hj0
  have l1 := hP.len
  have l2 := hQ.len
  have hq := h.pl
  have ht0 := h.ps.lt p0 hp0
  unfold Proofs.Ytbdmmikflkpmpaa.pairF
  rw [getD_set, getD_set]
  by_cases e : p = p0
  · subst e
    rw [if_pos ⟨rfl, by omega⟩, if_pos ⟨rfl, by omega⟩, clrB_bit _ _ _ (hQ.lt _) (by omega), clrB_bit _ _ _ (hP.lt _) (by omega), h.ft p j hp hj]
    congr 2
    refine decide_eq_decide.2 ⟨fun c => ?_, fun c => by rw [c]⟩
    rw [← h.js.is j0 hj0, c, h.js.is j hj]
  · have e' : t p0 ≠ t p := fun c => e (by rw [← h.ps.is p hp, ← c, h.ps.is p0 hp0])
    rw [if_neg (fun c => e' c.1), if_neg (fun c => e c.1.symm), h.ft p j hp hj]
theorem Ren.set {n : Nat} {s i : Nat → Nat} (h : Ren n s i) {A B : List Nat} (ha : A.length = n) (hb : B.length = n) (he : ∀ k, k < n → B.getD (s k) 0 = A.getD k 0) {k0 v : Nat} (hk0 : k0 < n) {k : Nat} (hk : k < n) : (B.set (s k0) v).getD (s k) 0 = (A.set k0 v).getD k 0 := by
  have := h.lt k0 hk0
  rw [getD_set, getD_set]
  by_cases e : k = k0
  · subst e
    rw [if_pos ⟨rfl, by omega⟩, if_pos ⟨rfl, by omega⟩]
  · have e' : s k0 ≠ s k := fun c => e (by rw [← h.is k hk, ← c, h.is k0 hk0])
    rw [if_neg (fun c => e' c.1), if_neg (fun c => e c.1.symm), he k hk]
end
/-! ### how many seatings -/
theorem le_of_sub {α : Type} [DecidableEq α] : ∀ {A B : List α}, A.Nodup → (∀ x ∈ A, x ∈ B) → A.length ≤ B.length
  | [], _, _, _ => Nat.zero_le _
  | x :: A, B, hn, h => by
    have hx := h x (List.mem_cons_self ..)
    have h2 := le_of_sub (A := A) (B := B.erase x) (List.nodup_cons.1 hn).2 fun y hy => by
      have hne : y ≠ x := fun e => (List.nodup_cons.1 hn).1 (e ▸ hy)
      exact (List.mem_erase_of_ne hne).2 (h y (List.mem_cons_of_mem _ hy))
    rw [List.length_erase_of_mem hx] at h2
    have := List.length_pos_of_mem hx
    simp only [List.length_cons]
    omega
end Go.Proofs.Ytbdmmikflkpmpaa
end

section
namespace Go.Proofs.Ytbdmmikflkpmpaa
open Go.RowKit Go.TL Go.Shelf Go.Pn
theorem nodup_of_len : ∀ {A B : List Nat}, A.Nodup → (∀ x ∈ A, x ∈ B) → B.length ≤ A.length → B.Nodup
  | [], B, _, _, hl => by
    have : B = [] := List.eq_nil_of_length_eq_zero (by simpa using hl)
    rw [this]
    exact List.nodup_nil
  | x :: A, B, hn, h, hl => by
    have hx := h x (List.mem_cons_self ..)
    have hp := List.length_pos_of_mem hx
    have he : (B.erase x).length = B.length - 1 := List.length_erase_of_mem hx
    rw [List.nodup_cons] at hn
    have hs : ∀ y ∈ A, y ∈ B.erase x := fun y hy => by
      have hne : y ≠ x := fun e => hn.1 (e ▸ hy)
      exact (List.mem_erase_of_ne hne).2 (h y (List.mem_cons_of_mem _ hy))
    have hB := nodup_of_len hn.2 hs (by rw [he]; simp only [List.length_cons] at hl; omega)
    have hno : x ∉ B.erase x := fun c => by
      have h2 := le_of_sub (A := x :: A) (B := B.erase x) (List.nodup_cons.2 hn) fun y hy => by
        rcases List.mem_cons.1 hy with rfl | hy
        · exact c
        · exact hs y hy
      simp only [List.length_cons] at h2 hl
      omega
    exact (List.perm_cons_erase hx).nodup_iff.2 (List.nodup_cons.2 ⟨hno, hB⟩)
theorem Tr.sort {W V X : World} {l m : List (Nat × Obj)} (h : Tr W V X l) (hm : ∀ p ∈ m, p ∈ l) (hl : ∀ p ∈ l, p ∈ m) (he : m.length ≤ l.length) : Tr W V X m :=
  ⟨h.below, h.keep, fun p hp => h.ge p (hm p hp), fun p hp => h.at_ p (hm p hp), nodup_of_len h.nd (fun x hx => by
    obtain ⟨p, hp, rfl⟩ := List.mem_map.1 hx
    exact List.mem_map.2 ⟨p, hl p hp, rfl⟩) (by rw [List.length_map, List.length_map]; exact he)⟩
theorem Tr.pick {W V X : World} {l m : List (Nat × Obj)} (h : Tr W V X l) (is : List Nat) (hm : m.map some = is.map fun i => l[i]?) (hi : ((List.range l.length).all fun i => is.contains i) = true) (he : Nat.ble m.length l.length = true) : Tr W V X m := by
  refine h.sort (fun p hp => ?_) (fun p hp => ?_) (Nat.le_of_ble_eq_true he)
  · have h1 : some p ∈ m.map some := List.mem_map.2 ⟨p, hp, rfl⟩
    rw [hm] at h1
    obtain ⟨i, _, e⟩ := List.mem_map.1 h1
    exact List.mem_of_getElem? e
  · obtain ⟨i, hil, e⟩ := List.getElem_of_mem hp
    have h1 := List.all_eq_true.1 hi i (List.mem_range.2 hil)
    have h2 : i ∈ is := by simpa using h1
    have h3 : some p ∈ is.map fun i => l[i]? := List.mem_map.2 ⟨i, h2, by simp [hil, e]⟩
    rw [← hm] at h3
    obtain ⟨q, hq, e2⟩ := List.mem_map.1 h3
    cases e2
    exact hq
structure Fr (p : List (Option Value)) (ds : List Deferred) (a : Act) : Prop where
  s : Slots p a.tmps
  d : a.defers = ds
theorem fits_get : ∀ {p : List (Option Value)} {l : List Value} {i : Nat} {v : Value}, Fits p l → p[i]? = some (some v) → l[i]? = some v
  | none :: p, u :: l, 0, v, h, hi => by simp at hi
  | some x :: p, u :: l, 0, v, h, hi => by
    have h1 : u = x := h.1
    have h2 : x = v := by simpa using hi
    simp [h1, h2]
  | none :: p, u :: l, i + 1, v, h, hi => by
    have h1 : Fits p l := h
    simpa using fits_get h1 (by simpa using hi)
  | some x :: p, u :: l, i + 1, v, h, hi => by simpa using fits_get h.2 (by simpa using hi)
  | [], _, i, v, _, hi => by simp at hi
theorem fits_set : ∀ {p : List (Option Value)} {l : List Value} (i : Nat) (v : Value), Fits p l → Fits (p.set i (some v)) (l.set i v)
  | none :: p, u :: l, 0, v, h => ⟨rfl, h⟩
  | some x :: p, u :: l, 0, v, h => ⟨rfl, h.2⟩
  | none :: p, u :: l, i + 1, v, h => by
    have h1 : Fits p l := h
    exact fits_set i v h1
  | some x :: p, u :: l, i + 1, v, h => ⟨h.1, fits_set i v h.2⟩
  | [], [], _, _, h => h
  | [], _ :: _, _, _, h => h.elim
theorem fits_none : ∀ {p : List (Option Value)} {l : List Value} (i : Nat), Fits p l → Fits (p.set i none) l
  | none :: p, u :: l, 0, h => h
  | some x :: p, u :: l, 0, h => h.2
  | none :: p, u :: l, i + 1, h => by
    have h1 : Fits p l := h
    exact fits_none i h1
  | some x :: p, u :: l, i + 1, h => ⟨h.1, fits_none i h.2⟩
  | [], [], _, h => h
  | [], _ :: _, _, h => h.elim
section
variable {p : List (Option Value)} {ds : List Deferred} {a : Act}
theorem Fr.ev (h : Fr p ds a) (i : Nat) {v : Value} (hi : p[i]? = some (some v)) : a.eval (.tmp i) = v := by
  have := fits_get h.s hi
  show a.tmps.getD i undef = v
  rw [Array.getD_eq_getD_getElem?, ← Array.getElem?_toList, this]
  rfl
theorem Fr.gd (h : Fr p ds a) {d : Nat} {b q : Bool} (hd : p[d]? = some (some (.bool (if q then b else !b)))) : gdOk (some (d, b)) a.tmps q := by
  show a.tmps[d]? = _
  rw [← Array.getElem?_toList]
  exact fits_get h.s hd
theorem Fr.put (h : Fr p ds a) (d : Nat) (v : Value) : Fr (p.set d (some v)) ds (a.put (some d) v) := by
  refine ⟨?_, h.d⟩
  show Fits _ (a.tmps.setIfInBounds d v).toList
  rw [Array.toList_setIfInBounds]
  exact fits_set d v h.s
theorem Fr.next {P : Program} {ops : Array Oper} {S : World → Prop} {Q : Exit → Act → World → Prop} {T : Sch} {w : World} (h : Fr p ds a) (d : Nat) (v : Value) (k : ∀ a', Fr (p.set d (some v)) ds a' → seqT P ops S Q T a' w) : seqT P ops S Q T (a.put (some d) v) w := k _ (h.put d v)
theorem Fr.forget (is : List Nat) : ∀ {p : List (Option Value)}, Fr p ds a → Fr (is.foldl (fun p i => p.set i none) p) ds a := by
  induction is with
  | nil => exact fun h => h
  | cons i is ih => exact fun h => ih ⟨fits_none i h.s, h.d⟩
theorem Fr.fin (h : Fr p ds a) (is : List Nat) {q : List (Option Value)} (hq : is.foldl (fun p i => p.set i none) p = q) : Slots q a.tmps := hq ▸ (Fr.forget is h).s
theorem Fr.start {t : Array Value} (h : Slots p t) : Fr p ds { tmps := t, defers := ds } := ⟨h, rfl⟩
theorem Fr.out {Q' : Exit → Act → World → Prop} {W : World} {Q : Array Value → World → Prop} {V : World} (h : Fr p ds a) (hQ : ∀ t W, Keep V W → Q t W → Q' .normal { tmps := t, defers := ds } W) (hK : Keep V W) (hq : Q a.tmps W) : Q' .normal a W := by
  have : a = { tmps := a.tmps, defers := ds } := by rw [← h.d]
  rw [this]
  exact hQ _ _ hK hq
end
end Go.Proofs.Ytbdmmikflkpmpaa
end

section
namespace Go.Proofs.Ytbdmmikflkpmpaa
open Go.RowKit Go.TL Go.Shelf Go.Pn
attribute [local go_sem] Oper.semAt_some
attribute [local go_sem] run_store_func
theorem ldc_at {a : XP} (hf : a.Fine) {W : World} (ha : a.At W) {k : Nat} (hk : k < a.L.length) : ∃ ad, a.AL = some ad ∧ W.cell? (ad.add k) = some (iv (a.s3.1.getD k 0)) := by
  obtain ⟨ad, hA, hc⟩ := row_int ha.l hk
  refine ⟨ad, hA, ?_⟩
  rw [hc]
  have hb := hf.lb _ (List.getElem_mem hk)
  have e : a.s3.1.getD k 0 = (a.L[k]).toNat := by
    show (a.L.map Int.toNat).getD k 0 = _
    rw [List.getD_eq_getElem?_getD, List.getElem?_map, List.getElem?_eq_getElem hk]
    rfl
  rw [e]
  show some (Value.int .i64 _) = some (Value.int .i64 _)
  rw [Int.toNat_of_nonneg hb.1]
theorem ndc_at {a : XP} (hf : a.Fine) {W : World} (ha : a.At W) {k : Nat} (hk : k < a.N.length) : ∃ ad, a.AN = some ad ∧ W.cell? (ad.add k) = some (iv (a.s3.2.1.getD k 0)) := by
  obtain ⟨ad, hA, hc⟩ := row_int ha.n hk
  refine ⟨ad, hA, ?_⟩
  rw [hc]
  have hb := hf.nb _ (List.getElem_mem hk)
  have e : a.s3.2.1.getD k 0 = (a.N[k]).toNat := by
    show (a.N.map Int.toNat).getD k 0 = _
    rw [List.getD_eq_getElem?_getD, List.getElem?_map, List.getElem?_eq_getElem hk]
    rfl
  rw [e]
  show some (Value.int .i64 _) = some (Value.int .i64 _)
  rw [Int.toNat_of_nonneg hb.1]
theorem row_n {W : World} {A : Option Addr} {l : List Nat} (h : RowV W A (l.map iv)) {i : Nat} (hi : i < l.length) : ∃ ad, A = some ad ∧ W.cell? (ad.add i) = some (iv (l.getD i 0)) :=
  h i _ (by rw [List.getElem?_map, List.getElem?_eq_getElem hi, getD_lt hi]; rfl)
/-! ### one more for each who sits -/
theorem map_setv (l : List Nat) (i v : Nat) : (l.map iv).set i (iv v) = (l.set i v).map iv := (List.map_set).symm
structure SeW (w : World) (a : XP) (g : Nat) (D : List Nat) (W : World) : Prop where
  hb : W.heap[w.heap.size]? = some (.cells #[a.sL, a.sN, a.sK] 25 (0, 0))
  hg : W.heap[g]? = some (.cells (D.map iv).toArray 3 (0, 0))
  below : Below w.heap.size w W
  lt : w.heap.size < g
theorem SeW.keep {w : World} {a : XP} {g : Nat} {D : List Nat} {W W' : World} (h : SeW w a g D W) (hb : Below W.heap.size W W') : SeW w a g D W' := ⟨(hb.block _ (heap_lt h.hb)).trans h.hb, (hb.block _ (heap_lt h.hg)).trans h.hg, h.below.trans (hb.mono h.below.size), h.lt⟩
theorem SeW.px {w : World} {a : XP} {g : Nat} {D : List Nat} {W : World} (h : SeW w a g D W) (ha : a.At w) : PBx W w.heap.size a := ⟨h.hb, ha.below h.below⟩
theorem SeW.set {w : World} {a : XP} {g : Nat} {D : List Nat} {W : World} (h : SeW w a g D W) (k v : Nat) : SeW w a g (D.set k v) (W.setCell ⟨g, k, none⟩ (iv v)) where
  hb := box_far _ _ _ _ _ _ h.hb (by have := h.lt; omega)
  hg := by
    rw [← map_setv]
    exact box_set W g k _ 3 _ h.hg
  below := h.below.setCell (Nat.le_of_lt h.lt) _
  lt := h.lt
def okJ (a : XP) (i : Nat) (D : List Nat) (s k : Nat) : Prop := ∀ j, j < k → s.testBit j = true → kinB a j i = false ∧ D.getD j 0 + 1 ≤ a.s3.1.getD j 0
end Go.Proofs.Ytbdmmikflkpmpaa
end

section
namespace Go.Proofs.Ytbdmmikflkpmpaa
open Go.RowKit Go.TL Go.Shelf Go.Pn
attribute [local go_sem] Oper.semAt_some
attribute [local go_sem] run_store_func
theorem fit_kin {a : XP} (hf : a.Fine) {i j : Nat} (hi : i < a.N.length) (hj : j < a.L.length) : ((toP a.s3).fit.getD i 0).testBit j = !kinB a j i := by
  have hg := XP.good hf
  have hN : a.s3.2.1.length = a.N.length := by simp [XP.s3]
  have hL : a.s3.1.length = a.L.length := by simp [XP.s3]
  show ((kinF (List.replicate a.s3.2.1.length (2 ^ a.s3.1.length - 1)) a.s3.2.2).getD i 0).testBit j = _
  rw [kinF_bit _ _ (fun k hk => by have := hg.k1 k hk; have := hg.j; omega) (fun q => rep_lt (two_lt hg.j) q) i j (by rw [List.length_replicate, hN]; exact hi)]
  have e1 : ((List.replicate a.s3.2.1.length (2 ^ a.s3.1.length - 1)).getD i 0).testBit j = true := by
    rw [List.getD_eq_getElem?_getD, List.getElem?_replicate, if_pos (by rw [hN]; exact hi)]
    show (2 ^ a.s3.1.length - 1).testBit j = true
    rw [Nat.testBit_two_pow_sub_one, hL, decide_eq_true hj]
  rw [e1, Bool.true_and]
  congr 1
  unfold kinB
  rw [Bool.eq_iff_iff, decide_eq_true_iff, List.any_eq_true]
  constructor
  · intro h
    obtain ⟨k, hk, e⟩ := List.mem_map.1 (show (j, i) ∈ a.K.map fun k => (k.1.toNat, k.2.toNat) from h)
    have := hf.kb k hk
    simp only [Prod.mk.injEq] at e
    refine ⟨k, hk, ?_⟩
    rw [decide_eq_true (by omega), decide_eq_true (by omega)]
    rfl
  · rintro ⟨k, hk, e⟩
    rw [Bool.and_eq_true, decide_eq_true_iff, decide_eq_true_iff] at e
    refine List.mem_map.2 ⟨k, hk, ?_⟩
    rw [e.1, e.2]
    rfl
theorem busyL_snoc (j s : Nat) : ∀ l : List Nat, busyL (l ++ [s]) j = busyL l j + b1 (s.testBit j)
  | [] => by show (if s.testBit j then 1 else 0) + 0 = 0 + b1 _; unfold b1; omega
  | x :: r => by
    show (if x.testBit j then 1 else 0) + busyL (r ++ [s]) j = (if x.testBit j then 1 else 0) + busyL r j + _
    rw [busyL_snoc j s r]
    omega
theorem busyL_take (j : Nat) {l : List Nat} {i : Nat} (hi : i < l.length) : busyL (l.take (i + 1)) j = busyL (l.take i) j + b1 ((l.getD i 0).testBit j) := by
  rw [List.take_succ_eq_append_getElem hi, busyL_snoc, getD_lt hi]
theorem busyL_le (j : Nat) (l : List Nat) : ∀ i, i ≤ l.length → busyL (l.take i) j ≤ i
  | 0, _ => Nat.le_refl _
  | i + 1, h => by
    have := busyL_le j l i (by omega)
    rw [busyL_take j (by omega)]
    unfold b1
    split <;> omega
theorem busyL_mono (j : Nat) (l : List Nat) (i : Nat) : ∀ k, i + k ≤ l.length → busyL (l.take i) j ≤ busyL (l.take (i + k)) j
  | 0, _ => Nat.le_refl _
  | k + 1, h => by
    have := busyL_mono j l i k (by omega)
    have e := busyL_take j (l := l) (i := i + k) (by omega)
    rw [show i + (k + 1) = i + k + 1 by omega, e]
    omega
def bzL (a : XP) (l : List Nat) (i : Nat) : List Nat := (List.range a.L.length).map fun j => busyL (l.take i) j
theorem bzL_getD {a : XP} {l : List Nat} {i j : Nat} (hj : j < a.L.length) : (bzL a l i).getD j 0 = busyL (l.take i) j := by
  unfold bzL
  rw [List.getD_eq_getElem?_getD, List.getElem?_map, List.getElem?_range hj]
  rfl
def okT (a : XP) (l : List Nat) (i : Nat) : Prop := (∀ p, p < i → okS ((toP a.s3).needs.getD p 0) ((toP a.s3).fit.getD p 0) (l.getD p 0) = true) ∧ ∀ j, j < a.L.length → busyL (l.take i) j ≤ a.s3.1.getD j 0
theorem okT_step {a : XP} (hf : a.Fine) {l : List Nat} {i : Nat} (hi : i < a.N.length) (hl : l.length = a.N.length) (hlt : l.getD i 0 < 2 ^ a.L.length) (h : okT a l i) (hp : pop (l.getD i 0) = a.s3.2.1.getD i 0) (hj : okJ a i (bzL a l i) (l.getD i 0) a.L.length) : okT a l (i + 1) := by
  have hF := toP_Fit (XP.good hf)
  have hj6 := hf.j
  refine ⟨fun p hp' => ?_, fun j hj' => ?_⟩
  · by_cases e : p = i
    · subst e
      refine (okS_iff hj6 hlt (hF.lt p)).2 ⟨?_, fun j hj' hb => ?_⟩
      · rw [← pop_n hlt (by omega), hp]
        rfl
      · rw [fit_kin hf hi hj', (hj j hj' hb).1]
        rfl
    · exact h.1 p (by omega)
  · rw [busyL_take j (by omega)]
    cases hb : (l.getD i 0).testBit j with
    | false => exact h.2 j hj'
    | true =>
      have := (hj j hj' hb).2
      rw [bzL_getD hj'] at this
      exact this
theorem okT_end {a : XP} (hf : a.Fine) {l : List Nat} (hl : l ∈ seqs a.L.length a.N.length) (h : okT a l a.N.length) : okL (nf (toP a.s3)) a.s3.1 l = true := by
  have hF := toP_Fit (XP.good hf)
  have hnl : (toP a.s3).needs.length = a.N.length := by simp [toP, XP.s3]
  obtain ⟨h1, h2⟩ := (mem_seqs _ _ _).1 hl
  refine (okL_iff _ _ _).2 ⟨by rw [nf_len hF, hnl]; exact h1, fun i x s hx hs => ?_, fun j hj => ?_⟩
  · have hi : i < a.N.length := by
      have := (List.getElem?_eq_some_iff.1 hs).1
      omega
    rw [nf_get hF (by omega)] at hx
    cases hx
    have := h.1 i hi
    rw [List.getD_eq_getElem?_getD, List.getD_eq_getElem?_getD, List.getD_eq_getElem?_getD, hs] at this
    rw [List.getD_eq_getElem?_getD, List.getD_eq_getElem?_getD]
    exact this
  · by_cases hj' : j < a.L.length
    · have := h.2 j hj'
      rw [← h1, List.take_length] at this
      exact this
    · have : busyL l j = 0 := by
        rw [busy_sum]
        refine (sumN_congr _ fun p hp => ?_).trans (sumN_zero _)
        cases hb : (l.getD p 0).testBit j with
        | false => rfl
        | true =>
          have := bit_lt (h2 _ (mem_getD hp)) hb
          omega
      omega
theorem okT_bad {a : XP} (hf : a.Fine) {l : List Nat} (hl : l ∈ seqs a.L.length a.N.length) {i : Nat} (hi : i < a.N.length) (hbad : pop (l.getD i 0) ≠ a.s3.2.1.getD i 0 ∨ ¬ okJ a i (bzL a l i) (l.getD i 0) a.L.length) : okL (nf (toP a.s3)) a.s3.1 l = false := by
  have hF := toP_Fit (XP.good hf)
  have hnl : (toP a.s3).needs.length = a.N.length := by simp [toP, XP.s3]
  have hj6 := hf.j
  obtain ⟨h1, h2⟩ := (mem_seqs _ _ _).1 hl
  cases hR : okL (nf (toP a.s3)) a.s3.1 l with
  | false => rfl
  | true =>
    exfalso
    obtain ⟨_, h4, h5⟩ := (okL_iff _ _ _).1 hR
    have hil : i < l.length := by omega
    have hlt := h2 _ (mem_getD hil)
    have hok := h4 i _ _ (nf_get hF (by omega)) (List.getElem?_eq_getElem hil)
    rw [← getD_lt hil] at hok
    have hok' := (okS_iff hj6 hlt (hF.lt i)).1 hok
    refine hbad.elim (fun h => h ?_) (fun h => h fun j hj hb => ⟨?_, ?_⟩)
    · rw [pop_n hlt (by omega), hok'.1]
      rfl
    · have := hok'.2 j hj hb
      rw [fit_kin hf hi hj] at this
      simpa using this
    · rw [bzL_getD hj]
      have e := busyL_take j hil
      rw [hb] at e
      have hm := busyL_mono j l (i + 1) (l.length - (i + 1)) (by omega)
      rw [show i + 1 + (l.length - (i + 1)) = l.length by omega, List.take_length] at hm
      have := h5 j (by omega)
      have e2 : b1 true = 1 := rfl
      omega
end Go.Proofs.Ytbdmmikflkpmpaa
end

section
namespace Go.Proofs.Ytbdmmikflkpmpaa
open Go.RowKit Go.TL Go.Shelf Go.Pn
theorem int_beq (m n : Nat) : ((m : Int) == (n : Int)) = decide (m = n) := by
  rw [Bool.eq_iff_iff]
  simp [Int.ofNat_inj]
def fitJ (a : XP) (l : List Nat) (n s j : Nat) : Bool := !s.testBit j || (!kinB a j n && decide (busyL l j + 1 ≤ a.s3.1.getD j 0))
def fitsF (a : XP) (l : List Nat) (n s : Nat) : Bool := ((List.range a.L.length).all (fitJ a l n s)) && decide (pop s = a.s3.2.1.getD n 0)
def r13_0t : It := ⟨(Op.move (Operand.tmp 3)), some 50, 3, true, none⟩
def r13_2t : It := ⟨(Op.fieldAddr 25 (Operand.tmp 4) 1), some 52, 0, true, none⟩
def r13_3t : It := ⟨(Op.load 22 (Operand.tmp 52)), some 53, 22, true, none⟩
def r13_4t : It := ⟨(Op.move (Operand.tmp 2)), some 54, 3, true, none⟩
def r13_5t : It := ⟨(Op.indexAddr 22 (Operand.tmp 53) (Operand.tmp 54)), some 55, 0, true, none⟩
def r13_6t : It := ⟨(Op.load 3 (Operand.tmp 55)), some 56, 3, true, none⟩
def r13_1 : It := ⟨(Op.call { callee := (Callee.value (Operand.func 30)), args := #[(Operand.tmp 50)], argTypes := #[3] }), some 51, 3, false, none⟩
def r13_7 : It := ⟨(Op.binOp BinOp.eql 3 (Operand.tmp 51) (Operand.tmp 56) 3), some 57, 4, false, none⟩
def r13_8 : It := ⟨(Op.assign (Operand.tmp 57)), some 8, 4, false, none⟩
set_option maxRecDepth 100000 in
set_option maxHeartbeats 4000000 in
theorem fit_r13 {w W : World} {a : XP} {A : Option Addr} {l : List Nat} {b c n s nv : Nat} {ad : Addr} {q : Bool} (hs : s < 1024) (hn : n < a.N.length) (hA : a.AN = some ad) (hck : ∀ Y, Below w.heap.size w Y → Y.cell? (ad.add n) = some (iv nv)) (hqv : decide (pop s = nv) = q) (hT : Tr w W W [(b, .cells #[a.sL, a.sN, a.sK] 25 (0, 0))]) {t : Array Value} (hSl : Slots (none :: some (.slice A l.length c) :: some (iv n) :: some (iv s) :: some (.pointer (some ⟨b, 0, none⟩)) :: none :: o4 (o16 (o16 (o16 [])))) t) :
    Exec Try.prog none (sub (Try.f111.body.getD .skip) [1, 1, 0]) t W (andThen (fun t' W' => Below W.heap.size W W' ∧ Slots (none :: some (.slice A l.length c) :: some (iv n) :: some (iv s) :: some (.pointer (some ⟨b, 0, none⟩)) :: none :: none :: none :: some (.bool q) :: none :: o16 (o16 (o16 []))) t') fun _ _ _ => False) := by
  have hu25 := Try.underlying25
  have hu22 := Try.underlying22
  have hnI : (n : Int) < a.N.length := by omega
  have hqi : (((pop s : Nat) : Int) == ((nv : Nat) : Int)) = q := by rw [← hqv, int_beq]
  have hbw : Below W.heap.size W W.drew := (Below.refl _ W).drew
  have hT0 := hT.again.drew
  refine region_tree (c := (sub (Try.f111.body.getD .skip) [1, 1, 0])) (id := 13) (.one 0 true (.one 2 true (.one 3 true (.one 4 true (.one 5 true (.one 6 true (.one 1 false (.one 7 false (.one 8 false (.nil)))))))))) (Opq (regOps (sub (Try.f111.body.getD .skip) [1, 1, 0]))) rfl (by kernel_rfl) (by kernel_rfl) (by kernel_rfl) (by kernel_rfl) (by kernel_rfl) (by kernel_rfl) [0, 1, 0, 4, 0, 24, 32, 66, 255] (by kernel_rfl) (by kernel_rfl) (fun W' => W'.cell? ⟨b, 1, none⟩ = some (a.sN) ∧ W'.cell? (ad.add n) = some (iv nv)) (fun _ _ _ => False) (fun _ _ _ h => h.elim) (fun _ _ _ _ _ _ _ _ h => h.elim) fun ds Q' hQn hQp => ?_
  have F0 : Fr (none :: some (.slice A l.length c) :: some (iv n) :: some (iv s) :: some (.pointer (some ⟨b, 0, none⟩)) :: none :: o4 (o16 (o16 (o16 [])))) ds { tmps := t, defers := ds } := Fr.start hSl
  clear hSl
  generalize ({ tmps := t, defers := ds } : Act) = a0 at *
  generalize W.drew = X0 at *
  refine tr_take r13_0t (iv s) (by kernel_rfl) rfl rfl (fun wq hq => ?_) ⟨hT0.cell 0 rfl rfl, (hck _ hT0.below)⟩ ?_; (focus (have e3 : a0.eval (.tmp 3) = (iv s) := F0.ev 3 (by kernel_rfl); generalize a0.eval = ev at e3 ⊢; simp [go_sem, mkO, r13_0t, e3]; done))
  refine F0.next 50 (iv s) fun a1 F1 => ?_
  clear F0
  refine tr_take r13_2t (.pointer (some ⟨b, 1, none⟩)) (by kernel_rfl) rfl rfl (fun wq hq => ?_) ⟨hT0.cell 0 rfl rfl, (hck _ hT0.below)⟩ ?_; (focus (have e4 : a1.eval (.tmp 4) = (.pointer (some ⟨b, 0, none⟩)) := F1.ev 4 (by kernel_rfl); generalize a1.eval = ev at e4 ⊢; simp [go_sem, mkO, r13_2t, e4, hu25]; done))
  refine F1.next 52 (.pointer (some ⟨b, 1, none⟩)) fun a2 F2 => ?_
  clear F1 a1
  refine tr_take r13_3t (.slice (some ad) a.N.length a.cN) (by kernel_rfl) rfl rfl (fun wq hq => ?_) ⟨hT0.cell 0 rfl rfl, (hck _ hT0.below)⟩ ?_; (focus (have e52 : a2.eval (.tmp 52) = (.pointer (some ⟨b, 1, none⟩)) := F2.ev 52 (by kernel_rfl); generalize a2.eval = ev at e52 ⊢; simp [go_sem, mkO, r13_3t, e52, hq.1, XP.sN, hA]; done))
  refine F2.next 53 (.slice (some ad) a.N.length a.cN) fun a3 F3 => ?_
  clear F2 a2
  refine tr_take r13_4t (iv n) (by kernel_rfl) rfl rfl (fun wq hq => ?_) ⟨hT0.cell 0 rfl rfl, (hck _ hT0.below)⟩ ?_; (focus (have e2 : a3.eval (.tmp 2) = (iv n) := F3.ev 2 (by kernel_rfl); generalize a3.eval = ev at e2 ⊢; simp [go_sem, mkO, r13_4t, e2]; done))
  refine F3.next 54 (iv n) fun a4 F4 => ?_
  clear F3 a3
  refine tr_take r13_5t (.pointer (some (ad.add n))) (by kernel_rfl) rfl rfl (fun wq hq => ?_) ⟨hT0.cell 0 rfl rfl, (hck _ hT0.below)⟩ ?_; (focus (have e53 : a4.eval (.tmp 53) = (.slice (some ad) a.N.length a.cN) := F4.ev 53 (by kernel_rfl); have e54 : a4.eval (.tmp 54) = (iv n) := F4.ev 54 (by kernel_rfl); generalize a4.eval = ev at e53 e54 ⊢; simp [go_sem, mkO, r13_5t, e53, e54, hu22, hnI]; done))
  refine F4.next 55 (.pointer (some (ad.add n))) fun a5 F5 => ?_
  clear F4 a4
  refine tr_take r13_6t (iv nv) (by kernel_rfl) rfl rfl (fun wq hq => ?_) ⟨hT0.cell 0 rfl rfl, (hck _ hT0.below)⟩ ?_; (focus (have e55 : a5.eval (.tmp 55) = (.pointer (some (ad.add n))) := F5.ev 55 (by kernel_rfl); generalize a5.eval = ev at e55 ⊢; simp [go_sem, mkO, r13_6t, e55, hq.2]; done))
  refine F5.next 56 (iv nv) fun a6 F6 => ?_
  clear F5 a5
  refine tr_call r13_1 (f := 30) (args := #[iv s]) (by kernel_rfl) rfl rfl ?_ ?_
  · (have e50 : a6.eval (.tmp 50) = (iv s) := F6.ev 50 (by kernel_rfl); have ef : ∀ f, a6.eval (.func f) = .func (.func f) #[] #[] := fun _ => rfl; generalize a6.eval = ev at e50 ef ⊢; simp [go_sem, mkO, r13_1, ef, e50]; done)
  refine (size30 s hs X0).mono ?_
  rintro e X1 ⟨rfl, hy⟩
  have hT1 := hT0.step hy
  replace hbw := hbw.trans (hy.mono hbw.size)
  refine .inl ⟨_, rfl, ⟨hT1.cell 0 rfl rfl, (hck _ hT1.below)⟩, ?_⟩
  clear hy hT0
  clear X0
  refine F6.next 51 (iv (pop s)) fun a7 F7 => ?_
  clear F6 a6
  refine tr_make r13_7 (.bool q) _ (by kernel_rfl) rfl rfl ?_ ⟨hT1.cell 0 rfl rfl, (hck _ hT1.below)⟩ ?_; (focus (have hq := (show (fun W' : World => W'.cell? ⟨b, 1, none⟩ = some (a.sN) ∧ W'.cell? (ad.add n) = some (iv nv)) X1 from ⟨hT1.cell 0 rfl rfl, (hck _ hT1.below)⟩); have e51 : a7.eval (.tmp 51) = (iv (pop s)) := F7.ev 51 (by kernel_rfl); have e56 : a7.eval (.tmp 56) = (iv nv) := F7.ev 56 (by kernel_rfl); generalize a7.eval = ev at e51 e56 ⊢; simp [go_sem, mkO, r13_7, e51, e56, hqi]; done))
  refine F7.next 57 (.bool q) fun a8 F8 => ?_
  clear F7 a7
  refine tr_make r13_8 (.bool q) _ (by kernel_rfl) rfl rfl ?_ ⟨hT1.cell 0 rfl rfl, (hck _ hT1.below)⟩ ?_; (focus (have hq := (show (fun W' : World => W'.cell? ⟨b, 1, none⟩ = some (a.sN) ∧ W'.cell? (ad.add n) = some (iv nv)) X1 from ⟨hT1.cell 0 rfl rfl, (hck _ hT1.below)⟩); have e57 : a8.eval (.tmp 57) = (.bool q) := F8.ev 57 (by kernel_rfl); generalize a8.eval = ev at e57 ⊢; simp [go_sem, mkO, r13_8, e57]; done))
  refine F8.next 8 (.bool q) fun a9 F9 => ?_
  clear F8 a8
  exact F9.out hQn hT1.keep ⟨hbw, (F9.fin [50, 51, 52, 53, 54, 55, 56, 57] (by kernel_rfl))⟩
def FiI (w : World) (a : XP) (A : Option Addr) (l : List Nat) (c n s j : Nat) (W : World) (m : Nat) (t : Array Value) (Y : World) : Prop :=
  ∃ i : Nat, i ≤ l.length ∧ m = l.length - i ∧ Below W.heap.size W Y ∧ Slots (none :: some (.slice A l.length c) :: some (iv n) :: some (iv s) :: some (.pointer (some ⟨w.heap.size, 0, none⟩)) :: o4 (some (iv j) :: some (iv (busyL (l.take i) j + 1)) :: some (iv i) :: none :: none :: o4 (o4 (o4 (o16 (o16 [])))))) t
set_option maxRecDepth 100000 in
set_option maxHeartbeats 2000000 in
theorem fit_busy {w W : World} {a : XP} {A : Option Addr} {l : List Nat} {c n s j : Nat} (hl : l.length ≤ 6) (hlt : ∀ x ∈ l, x < 1024) (hj : j ≤ 40) (hr : RowV W A (l.map iv)) {t : Array Value} (hSl : Slots (none :: some (.slice A l.length c) :: some (iv n) :: some (iv s) :: some (.pointer (some ⟨w.heap.size, 0, none⟩)) :: o4 (some (iv j) :: some (iv 1) :: none :: none :: none :: o4 (o4 (o4 (o16 (o16 [])))))) t) :
    Exec Try.prog none (sub (Try.f111.body.getD .skip) [1, 0, 1, 0, 0, 1, 0, 0, 1, 1, 0]) t W (andThen (fun t' Y => Below W.heap.size W Y ∧ Slots (none :: some (.slice A l.length c) :: some (iv n) :: some (iv s) :: some (.pointer (some ⟨w.heap.size, 0, none⟩)) :: o4 (some (iv j) :: some (iv (busyL l j + 1)) :: none :: none :: none :: o4 (o4 (o4 (o16 (o16 [])))))) t') fun _ _ _ => False) := by
  have hu22 := Try.underlying22
  obtain ⟨x, hx⟩ := Slots.open_ hSl; simp only [fill, Nat.reduceAdd] at hx; subst hx; clear hSl
  show Exec _ _ (Code.seq _ (Code.block _ _)) _ _ _
  refine exec_seq (exec_region_o fun ds => ?_)
  gi_wp2
  refine eq_mk (Keep.refl _) ?_
  show Exec _ _ (Code.block _ _) _ _ _
  refine exec_block ?_
  refine exec_loop (FiI w a A l c n s j W) l.length ⟨0, by omega, rfl, Below.refl _ _, by simp [Slots, Fits, busyL]⟩ ?_
  clear x
  rintro m t Y ⟨i, hi, hm, hB, hSl⟩
  have HN := Lib.hid hm
  clear hm
  have hbl := busyL_le j l i hi
  have hbt := fun h : i < l.length => busyL_take j h
  have hbe : i = l.length → busyL (l.take i) j = busyL l j := fun e => by rw [e, List.take_length]
  obtain ⟨v, hv⟩ : ∃ v, busyL (l.take i) j = v := ⟨_, rfl⟩
  rw [hv] at hSl hbl hbt hbe
  clear hv
  obtain ⟨x, hx⟩ := Slots.open_ hSl; simp only [fill, Nat.reduceAdd] at hx; subst hx; clear hSl
  show Exec _ _ (Code.seq (Code.seq _ _) (Code.seq _ _)) _ _ _
  refine exec_seq (exec_seq (exec_region_o fun ds => ?_))
  gi_wp2
  refine eq_mk (Keep.refl _) ?_
  show Exec _ _ (Code.cond _ _ _) _ _ _
  refine exec_cond (b := decide (i < l.length)) (by first | rfl | (show Value.bool _ = _; congr 1; exact decide_eq_decide.2 (by omega))) (fun hp => exec_skip ?_) (fun hp => exec_exit ?_)
  · have hil : i < l.length := by have := of_decide_eq_true hp; omega
    have hiI : (i : Int) < l.length := by omega
    obtain ⟨ad, hA, hcl⟩ := row_n (hr.below hB) hil
    have hx : l.getD i 0 < 1024 := by
      rw [getD_lt hil]
      exact hlt _ (List.getElem_mem _)
    have hbt' := hbt hil
    obtain ⟨q, hq⟩ : ∃ q, l.getD i 0 = q := ⟨_, rfl⟩
    rw [hq] at hcl hx hbt'
    clear hq hbt hbe
    subst hA
    show Exec _ _ (Code.seq (Code.block _ _) _) _ _ _
    have hcall := has71 q j (by omega) hj Y
    refine exec_cut (fun t' Z => Below W.heap.size W Z ∧ Slots (none :: some (.slice (some ad) l.length c) :: some (iv n) :: some (iv s) :: some (.pointer (some ⟨w.heap.size, 0, none⟩)) :: o4 (some (iv j) :: some (iv (busyL (l.take (i + 1)) j + 1)) :: some (iv i) :: none :: none :: o4 (o4 (o4 (o16 (o16 [])))))) t') (exec_block ?_) ?_
    · rw [hbt']
      have HB := Lib.hid hbt'
      clear hbt'
      show Exec _ _ (Code.seq _ (Code.cond _ _ _)) _ _ _
      refine exec_seq (exec_region_o fun ds => ?_)
      gi_wp2_with fail
      refine ⟨trivial, rfl, (callsIn_wide.2 hcall).mono ?_⟩
      rintro e Z ⟨rfl, hz⟩
      have hBZ := hB.trans (hz.mono hB.size)
      have hK := Keep.of_below hz
      clear hcall hz hcl
      gi_wp2
      refine eq_mk hK ?_
      show Exec _ _ (Code.cond _ _ _) _ _ _
      refine exec_cond (b := q.testBit j) rfl (fun hp => ?_) (fun hp => exec_skip ?_)
      · rw [hp]
        simp only [b1, if_true]
        have hw : IntKind.i64.wrap (((v + 1 : Nat) : Int) + 1) = ((v + 1 + 1 : Nat) : Int) := by rw [IntWalk.i64_in _ (by omega)]; norm_cast
        obtain ⟨v1, hv1⟩ : ∃ v1, v + 1 = v1 := ⟨_, rfl⟩
        rw [hv1] at hw ⊢
        refine exec_region_o fun ds => ?_
        gi_wp2
        exact eq_mk (Keep.refl _) ⟨hBZ, by simp [Slots, Fits]⟩
      · rw [hp]
        exact ⟨hBZ, by simp [Slots, Fits, b1]⟩
    · clear hB x hcl hcall hbt'
      clear Y
      rintro t' Y ⟨hB, hSl⟩
      have hend : ∀ t, Slots (none :: some (.slice (some ad) l.length c) :: some (iv n) :: some (iv s) :: some (.pointer (some ⟨w.heap.size, 0, none⟩)) :: o4 (some (iv j) :: some (iv (busyL (l.take (i + 1)) j + 1)) :: some (iv (i + 1)) :: none :: none :: o4 (o4 (o4 (o16 (o16 [])))))) t → ∃ m', m' < m ∧ FiI w a (some ad) l c n s j W m' t Y := fun t hS => ⟨m - 1, by rw [HN.out]; omega, i + 1, by omega, by rw [HN.out]; omega, hB, hS⟩
      generalize busyL (l.take (i + 1)) j + 1 = v2 at *
      obtain ⟨x, hx⟩ := Slots.open_ hSl; simp only [fill, Nat.reduceAdd] at hx; subst hx; clear hSl
      have hw : IntKind.i64.wrap ((i : Int) + 1) = ((i + 1 : Nat) : Int) := by rw [IntWalk.i64_in _ (by omega)]; norm_cast
      refine exec_region_o fun ds => ?_
      gi_wp2
      exact eq_mk (Keep.refl _) (hend _ (by simp only [Slots, Fits, and_self]; simp))
  · have hk2 : i = l.length := by have := of_decide_eq_false hp; omega
    rw [hbe hk2]
    exact ⟨hB, by simp [Slots, Fits]⟩
theorem fits_no {a : XP} {l : List Nat} {n s j : Nat} (hj : j < a.L.length) (h : fitJ a l n s j = false) : fitsF a l n s = false := by
  unfold fitsF
  rw [Bool.and_eq_false_iff]
  left
  rw [List.all_eq_false]
  exact ⟨j, List.mem_range.2 hj, by rw [h]; simp⟩
theorem fits_yes {a : XP} {l : List Nat} {n s : Nat} (h : ∀ i, i < a.L.length → fitJ a l n s i = true) : fitsF a l n s = decide (pop s = a.s3.2.1.getD n 0) := by
  unfold fitsF
  rw [List.all_eq_true.2 fun i hi => h i (List.mem_range.1 hi), Bool.true_and]
def FoI (w : World) (a : XP) (A : Option Addr) (l : List Nat) (c n s : Nat) (m : Nat) (t : Array Value) (W : World) : Prop :=
  ∃ j : Nat, j ≤ a.L.length ∧ m = a.L.length - j ∧ (∀ i, i < j → fitJ a l n s i = true) ∧ PBx W w.heap.size a ∧ Below w.heap.size w W ∧ Slots (none :: some (.slice A l.length c) :: some (iv n) :: some (iv s) :: some (.pointer (some ⟨w.heap.size, 0, none⟩)) :: o4 (some (iv j) :: o16 (o16 (o16 [])))) t
set_option maxRecDepth 100000 in
set_option maxHeartbeats 2000000 in
theorem fits111 (a : XP) (hf : a.Fine) (l : List Nat) (hl : l.length ≤ 6) (hlt : ∀ x ∈ l, x < 1024) (A : Option Addr) (c n s : Nat) (hn : n < a.N.length) (hs : s < 1024) (w : World) (ha : a.At w) (hr : RowV w A (l.map iv)) : Calls Try.prog 111 #[a.val, .slice A l.length c, iv n, iv s] w fun e w' => e = .returned (.bool (fitsF a l n s)) ∧ Below w.heap.size w w' := by
  have hu25 := Try.underlying25
  have hu22 := Try.underlying22
  have hj6 := hf.j
  obtain ⟨R, hR⟩ : ∃ R, fitsF a l n s = R := ⟨_, rfl⟩
  rw [hR]
  have HR := Lib.hid hR
  clear hR
  refine calls_of_exec Try.func111 rfl ?_
  simp only [Try.ntmps111, List.size_toArray, List.length_cons, List.length_nil, Nat.reduceAdd, Nat.reduceSub, Array.replicate_succ, Array.replicate_zero, List.push_toArray, List.append_toArray, List.nil_append, List.cons_append]
  simp only [XP.val]
  refine exec_seq (exec_region_o fun ds => ?_)
  gi_wp2
  refine eq_mk ((Keep.refl w).alloc _) ?_
  show Exec _ _ (Code.seq (Code.seq _ _) _) _ (w.alloc (.cells #[a.sL, a.sN, a.sK] 25)) _
  have hB := (Below.refl w.heap.size w).alloc (Nat.le_refl _) (.cells #[a.sL, a.sN, a.sK] 25)
  have hX : PBx (w.alloc (.cells #[a.sL, a.sN, a.sK] 25)) w.heap.size a := ⟨World.alloc_heap_new _ _, ha.below hB⟩
  generalize w.alloc (.cells #[a.sL, a.sN, a.sK] 25) = X at *
  refine exec_seq (exec_seq (exec_region_o fun ds => ?_))
  gi_wp2
  refine eq_mk (Keep.refl _) ?_
  show Exec _ _ (Code.block _ _) _ _ _
  refine exec_block ?_
  refine exec_loop (FoI w a A l c n s) a.L.length ⟨0, by omega, rfl, fun i hi => absurd hi (Nat.not_lt_zero _), hX, hB, by simp [Slots, Fits]⟩ ?_
  clear hX hB
  clear X
  rintro m t W ⟨j, hj, hm, hall, hX, hV, hSl⟩
  have HN := Lib.hid hm
  have HA := Lib.hid hall
  clear hm hall
  obtain ⟨x, hx⟩ := Slots.open_ hSl; simp only [fill, Nat.reduceAdd] at hx; subst hx; clear hSl
  have hh := hX.heap
  simp only [XP.sL] at hh
  have c0 := cells_get (cs := [_, _, _]) (k := 0) hh rfl
  clear hh
  show Exec _ _ (Code.seq (Code.seq _ _) (Code.seq _ _)) _ _ _
  refine exec_seq (exec_seq (exec_region_o fun ds => ?_))
  gi_wp2
  refine eq_mk (Keep.refl _) ?_
  show Exec _ _ (Code.cond _ _ _) _ _ _
  clear c0
  refine exec_cond (b := decide (j < a.L.length)) (by first | rfl | (show Value.bool _ = _; congr 1; exact decide_eq_decide.2 (by omega))) (fun hp => exec_skip ?_) (fun hp => exec_exit ?_)
  · have hjl : j < a.L.length := by have := of_decide_eq_true hp; omega
    have hjI : (j : Int) < a.L.length := by omega
    show Exec _ _ (Code.seq (Code.block _ _) _) _ _ _
    refine exec_seq (exec_block ?_)
    have hnext : ∀ Y, PBx Y w.heap.size a → Below w.heap.size w Y → fitJ a l n s j = true → ∀ t, Slots (none :: some (.slice A l.length c) :: some (iv n) :: some (iv s) :: some (.pointer (some ⟨w.heap.size, 0, none⟩)) :: o4 (some (iv j) :: o16 (o16 (o16 [])))) t → Exec Try.prog none (sub (Try.f111.body.getD .skip) [1, 0, 1, 0, 0, 1, 1]) t Y (andThen (fun t Y => ∃ m', m' < m ∧ FoI w a A l c n s m' t Y) fun _ _ _ => False) := by
      intro Y hY hB hfj t hS
      have hend : ∀ t, Slots (none :: some (.slice A l.length c) :: some (iv n) :: some (iv s) :: some (.pointer (some ⟨w.heap.size, 0, none⟩)) :: o4 (some (iv (j + 1)) :: o16 (o16 (o16 [])))) t → ∃ m', m' < m ∧ FoI w a A l c n s m' t Y := fun t hS => ⟨m - 1, by rw [HN.out]; omega, j + 1, by omega, by rw [HN.out]; omega, fun i hi => by
        rcases Nat.lt_or_ge i j with h | h
        · exact HA.out i h
        · rw [show i = j by omega]; exact hfj, hY, hB, hS⟩
      obtain ⟨y, hy⟩ := Slots.open_ hS; simp only [fill, Nat.reduceAdd] at hy; subst hy; clear hS
      have hw : IntKind.i64.wrap ((j : Int) + 1) = ((j + 1 : Nat) : Int) := by rw [IntWalk.i64_in _ (by omega)]; norm_cast
      show Exec _ _ (Code.region _ _ _) _ _ _
      refine exec_region_o fun ds => ?_
      gi_wp2
      exact eq_mk (Keep.refl _) (hend _ (by simp only [Slots, Fits, and_self]; simp))
    have HX := Lib.hid hnext
    clear hnext
    have hcall := has71 s j (by omega) (by omega) W
    show Exec _ _ (Code.seq (Code.seq _ _) _) _ _ _
    refine exec_seq (exec_seq (exec_region_o fun ds => ?_))
    gi_wp2_with fail
    refine ⟨trivial, rfl, (callsIn_wide.2 hcall).mono ?_⟩
    rintro e Z ⟨rfl, hz⟩
    have hBZ := hV.trans (hz.mono hV.size)
    have hXZ := hX.keep hz
    have hK := Keep.of_below hz
    clear hcall hz hX hV
    gi_wp2
    refine eq_mk hK ?_
    clear hK
    clear W
    show Exec _ _ (Code.cond _ _ _) _ _ _
    refine exec_cond (b := !s.testBit j) rfl (fun hp => exec_exit ?_) (fun hp => exec_skip ?_)
    · have hsb : s.testBit j = false := by simpa using hp
      show Exec Try.prog none (sub (Try.f111.body.getD .skip) [1, 0, 1, 0, 0, 1, 1]) _ _ _
      refine (HX.out Z hXZ hBZ (by unfold fitJ; rw [hsb]; rfl) _ (by simp [Slots, Fits])).mono ?_
      intro e t W hh
      obtain ⟨rfl, h⟩ := only_normal hh
      exact h
    · have hsb : s.testBit j = true := by simpa using hp
      show Exec _ _ (Code.seq _ (Code.seq _ _)) _ _ _
      refine exec_seq (exec_region_o fun ds => ?_)
      gi_wp2
      refine eq_mk (Keep.refl _) ?_
      show Exec _ _ (Code.seq _ _) _ _ _
      refine exec_seq ((fit_busy (w := w) (a := a) (A := A) (l := l) (c := c) (n := n) (s := s) (j := j) hl hlt (by omega) (hr.below hBZ) (by simp [Slots, Fits])).mono ?_)
      clear x
      intro e t Y hh
      obtain ⟨rfl, hBY, hSl⟩ := only_normal hh
      have hXY := hXZ.keep hBY
      have hVY := hBZ.trans (hBY.mono hBZ.size)
      clear hh hXZ hBZ hBY
      clear Z
      have hbl := busyL_le j l l.length (Nat.le_refl _)
      rw [List.take_length] at hbl
      obtain ⟨v, hv⟩ : ∃ v, busyL l j = v := ⟨_, rfl⟩
      rw [hv] at hSl hbl
      have HV := Lib.hid hv
      clear hv
      obtain ⟨x, hx⟩ := Slots.open_ hSl; simp only [fill, Nat.reduceAdd] at hx; subst hx; clear hSl
      obtain ⟨ad, hA, hcl⟩ := ldc_at hf hXY.at_ hjl
      obtain ⟨lo, hlo⟩ : ∃ lo, a.s3.1.getD j 0 = lo := ⟨_, rfl⟩
      rw [hlo] at hcl
      have HL := Lib.hid hlo
      have HAD := Lib.hid hA
      clear hlo
      obtain ⟨kb, hkb⟩ : ∃ kb, kinB a j n = kb := ⟨_, rfl⟩
      have hcall := kin29 a j n Y hXY.at_
      rw [hkb] at hcall
      have HK := Lib.hid hkb
      clear hkb
      have hh := hXY.heap
      have c0 := cells_get (cs := [_, _, _]) (k := 0) hh rfl
      have c1 := cells_get (cs := [_, _, _]) (k := 1) hh rfl
      have c2 := cells_get (cs := [_, _, _]) (k := 2) hh rfl
      clear hh hA
      have HXY := Lib.hid hXY
      have HVY := Lib.hid hVY
      clear hXY hVY
      show Exec _ _ (Code.seq _ (Code.cond _ _ _)) _ _ _
      refine exec_seq (exec_region_o fun ds => ?_)
      gi_wp2_with fail
      refine ⟨trivial, rfl, (callsIn_wide.2 hcall).mono ?_⟩
      rintro e Z ⟨rfl, hz⟩
      have hBZ := HVY.out.trans (hz.mono HVY.out.size)
      have hXZ := HXY.out.keep hz
      have hK := Keep.of_below hz
      replace hcl := (Grow.of_below (B := 0) hz).cell hcl
      have d0 := (Grow.of_below (B := 0) hz).cell c0
      have hA := HAD.out
      simp only [XP.sL, hA] at d0
      clear hA
      clear hcall hz HXY HVY c0 c1 c2
      cases kb with
      | true =>
        have hfj : fitJ a l n s j = false := by unfold fitJ; rw [hsb, HK.out]; rfl
        clear hcl d0
        gi_wp2
        refine eq_mk hK ?_
        show Exec _ _ (Code.cond _ _ _) _ _ _
        refine exec_cond (b := true) rfl (fun hp => ?_) (fun h => by cases h)
        refine exec_seq (exec_region_o fun ds => ?_)
        gi_wp2
        refine eq_mk (Keep.refl _) ?_
        have hRf : R = false := by rw [← HR.out]; exact fits_no hjl hfj
        exact exec_ret ⟨.inr rfl, fun W' hG => ⟨.bool false, by simp [results, Try.f111, go_sem], by rw [hRf], hBZ.trans (hG.below (Nat.le_refl _) hBZ.size)⟩⟩
      | false =>
        by_cases hlo : v + 1 ≤ lo
        · have hfj : fitJ a l n s j = true := by unfold fitJ; rw [hsb, HK.out, HV.out, HL.out, decide_eq_true hlo]; rfl
          have hno : ¬ (((v + 1 : Nat) : Int) > (lo : Int)) := by omega
          clear hlo
          obtain ⟨v1, hv1⟩ : ∃ v1, v + 1 = v1 := ⟨_, rfl⟩
          rw [hv1] at hno ⊢
          gi_wp2
          refine eq_mk hK ?_
          show Exec _ _ (Code.cond _ _ _) _ _ _
          refine exec_cond (b := false) (by first | rfl | (show Value.bool _ = _; congr 1; exact decide_eq_false (by omega))) (fun h => by cases h) (fun _ => exec_skip ?_)
          show Exec Try.prog none (sub (Try.f111.body.getD .skip) [1, 0, 1, 0, 0, 1, 1]) _ _ _
          refine (HX.out Z hXZ hBZ hfj _ (by simp [Slots, Fits])).mono ?_
          intro e t W hh
          obtain ⟨rfl, h⟩ := only_normal hh
          exact h
        · have hfj : fitJ a l n s j = false := by unfold fitJ; rw [hsb, HK.out, HV.out, HL.out, decide_eq_false hlo]; rfl
          have hno : ((v + 1 : Nat) : Int) > (lo : Int) := by omega
          clear hlo
          obtain ⟨v1, hv1⟩ : ∃ v1, v + 1 = v1 := ⟨_, rfl⟩
          rw [hv1] at hno ⊢
          gi_wp2
          refine eq_mk hK ?_
          show Exec _ _ (Code.cond _ _ _) _ _ _
          refine exec_cond (b := true) (by first | rfl | (show Value.bool _ = _; congr 1; exact decide_eq_true (by omega))) (fun hp => ?_) (fun h => by cases h)
          refine exec_seq (exec_region_o fun ds => ?_)
          gi_wp2
          refine eq_mk (Keep.refl _) ?_
          have hRf : R = false := by rw [← HR.out]; exact fits_no hjl hfj
          exact exec_ret ⟨.inr rfl, fun W' hG => ⟨.bool false, by simp [results, Try.f111, go_sem], by rw [hRf], hBZ.trans (hG.below (Nat.le_refl _) hBZ.size)⟩⟩
  · have hk2 : j = a.L.length := by have := of_decide_eq_false hp; omega
    have hall : ∀ i, i < a.L.length → fitJ a l n s i = true := by rw [← hk2]; exact HA.out
    obtain ⟨ad, hA, _⟩ := ndc_at hf ha hn
    have hck : ∀ Y, Below w.heap.size w Y → Y.cell? (ad.add n) = some (iv (a.s3.2.1.getD n 0)) := fun Y hY => by
      obtain ⟨_, e, h⟩ := ndc_at hf (ha.below hY) hn
      rw [hA] at e
      cases e
      exact h
    have hT : Tr w W W [(w.heap.size, .cells #[a.sL, a.sN, a.sK] 25 (0, 0))] := (Tr.start hV).push hX.heap (Nat.le_refl _) (fun p hp => by cases hp)
    have hRq : decide (pop s = a.s3.2.1.getD n 0) = R := by rw [← HR.out]; exact (fits_yes hall).symm
    show Exec _ _ (Code.seq (sub (Try.f111.body.getD .skip) [1, 1, 0]) Code.ret) _ _ _
    refine exec_seq ((fit_r13 (A := A) (l := l) (c := c) hs hn hA hck hRq hT (by simp [Slots, Fits])).mono ?_)
    clear x
    intro e t Z hh
    obtain ⟨rfl, hb, hSl⟩ := only_normal hh
    have hBZ := hV.trans (hb.mono hV.size)
    obtain ⟨x, hx⟩ := Slots.open_ hSl; simp only [fill, Nat.reduceAdd] at hx; subst hx; clear hSl
    exact exec_ret ⟨.inr rfl, fun W' hG => ⟨.bool R, by simp [results, Try.f111, go_sem], rfl, hBZ.trans (hG.below (Nat.le_refl _) hBZ.size)⟩⟩
end Go.Proofs.Ytbdmmikflkpmpaa
end

section
namespace Go.Proofs.Ytbdmmikflkpmpaa
open Go.RowKit Go.TL Go.Shelf Go.Pn
def sitW (a : XP) (l : List Nat) (s : Nat) : Bool := decide (pop s ≤ a.s3.2.1.getD l.length 0) && (List.range a.L.length).all (fitJ a l l.length s)
def seatsG (a : XP) : Nat → List Nat → Nat
  | 0, _ => 0
  | r + 1, l => (List.range (2 ^ a.L.length)).foldl (fun b s => if sitW a l s then max b (pop s + seatsG a r (l ++ [s])) else b) 0
def seatsTo (a : XP) (r : Nat) (l : List Nat) (s : Nat) : Nat := (List.range s).foldl (fun b s => if sitW a l s then max b (pop s + seatsG a r (l ++ [s])) else b) 0
theorem seatsTo_succ (a : XP) (r : Nat) (l : List Nat) (s : Nat) : seatsTo a r l (s + 1) = if sitW a l s then max (seatsTo a r l s) (pop s + seatsG a r (l ++ [s])) else seatsTo a r l s := by
  unfold seatsTo
  rw [List.range_succ, List.foldl_append]
  rfl
def okW (a : XP) : List Nat → List Nat → Prop
  | _, [] => True
  | l, s :: t => sitW a l s = true ∧ okW a (l ++ [s]) t
def pops : List Nat → Nat
  | [] => 0
  | s :: t => pop s + pops t
theorem fold_max (p : Nat → Bool) (g : Nat → Nat) : ∀ (L : List Nat) (b : Nat), b ≤ L.foldl (fun b s => if p s then max b (g s) else b) b ∧ (∀ s ∈ L, p s = true → g s ≤ L.foldl (fun b s => if p s then max b (g s) else b) b) ∧ (L.foldl (fun b s => if p s then max b (g s) else b) b = b ∨ ∃ s ∈ L, p s = true ∧ L.foldl (fun b s => if p s then max b (g s) else b) b = g s)
  | [], b => ⟨Nat.le_refl _, fun s hs => (by cases hs), Or.inl rfl⟩
  | x :: L, b => by
    rw [List.foldl_cons]
    obtain ⟨h1, h2, h3⟩ := fold_max p g L (if p x then max b (g x) else b)
    generalize L.foldl (fun b s => if p s then max b (g s) else b) (if p x then max b (g x) else b) = R at *
    refine ⟨?_, ?_, ?_⟩
    · split at h1
      · omega
      · exact h1
    · intro s hs hp
      rcases List.mem_cons.1 hs with rfl | hs
      · rw [if_pos hp] at h1
        omega
      · exact h2 s hs hp
    · rcases h3 with h3 | ⟨s, hs, hp, h3⟩
      · split at h3
        · rename_i hp
          by_cases hm : b ≤ g x
          · exact .inr ⟨x, List.mem_cons_self, hp, by omega⟩
          · exact .inl (by omega)
        · exact .inl h3
      · exact .inr ⟨s, List.mem_cons_of_mem _ hs, hp, h3⟩
theorem seatsG_le (a : XP) : ∀ (r : Nat) (l t : List Nat), t.length = r → (∀ s ∈ t, s < 2 ^ a.L.length) → okW a l t → pops t ≤ seatsG a r l
  | 0, l, t, hl, _, _ => by
    rw [List.eq_nil_of_length_eq_zero hl]
    exact Nat.zero_le _
  | r + 1, l, [], hl, _, _ => by cases hl
  | r + 1, l, s :: t, hl, hx, hok => by
    have ih := seatsG_le a r (l ++ [s]) t (by simpa using hl) (fun x h => hx x (List.mem_cons_of_mem _ h)) hok.2
    have h2 := (fold_max (sitW a l) (fun s => pop s + seatsG a r (l ++ [s])) (List.range (2 ^ a.L.length)) 0).2.1 s (List.mem_range.2 (hx s List.mem_cons_self)) hok.1
    show pop s + pops t ≤ _
    refine Nat.le_trans ?_ h2
    show pop s + pops t ≤ pop s + seatsG a r (l ++ [s])
    omega
theorem sitW_zero (a : XP) (l : List Nat) : sitW a l 0 = true := by
  unfold sitW
  have h0 : pop 0 = 0 := by decide
  rw [h0, decide_eq_true (Nat.zero_le _), Bool.true_and, List.all_eq_true]
  intro j _
  unfold fitJ
  rw [Nat.zero_testBit]
  rfl
theorem seatsG_at (a : XP) : ∀ (r : Nat) (l : List Nat), ∃ t, t ∈ seqs a.L.length r ∧ okW a l t ∧ pops t = seatsG a r l
  | 0, l => ⟨[], by rw [mem_seqs]; exact ⟨rfl, fun s hs => by cases hs⟩, trivial, rfl⟩
  | r + 1, l => by
    obtain ⟨h1, h2, h3⟩ := fold_max (sitW a l) (fun s => pop s + seatsG a r (l ++ [s])) (List.range (2 ^ a.L.length)) 0
    have he : seatsG a (r + 1) l = (List.range (2 ^ a.L.length)).foldl (fun b s => if sitW a l s then max b (pop s + seatsG a r (l ++ [s])) else b) 0 := rfl
    rw [he]
    generalize (List.range (2 ^ a.L.length)).foldl (fun b s => if sitW a l s then max b (pop s + seatsG a r (l ++ [s])) else b) 0 = R at *
    have hz : 0 ∈ List.range (2 ^ a.L.length) := List.mem_range.2 (Nat.pow_pos (by omega))
    have key : ∀ s ∈ List.range (2 ^ a.L.length), sitW a l s = true → R = pop s + seatsG a r (l ++ [s]) → ∃ t, t ∈ seqs a.L.length (r + 1) ∧ okW a l t ∧ pops t = R := fun s hs hp e => by
      obtain ⟨t, ht, hok, hpt⟩ := seatsG_at a r (l ++ [s])
      obtain ⟨hl, hx⟩ := (mem_seqs _ _ _).1 ht
      refine ⟨s :: t, (mem_seqs _ _ _).2 ⟨by rw [List.length_cons, hl], fun x h => ?_⟩, ⟨hp, hok⟩, ?_⟩
      · rcases List.mem_cons.1 h with rfl | h
        · exact List.mem_range.1 hs
        · exact hx x h
      · show pop s + pops t = R
        rw [hpt, e]
    rcases h3 with h3 | ⟨s, hs, hp, h3⟩
    · refine key 0 hz (sitW_zero a l) ?_
      have := h2 0 hz (sitW_zero a l)
      omega
    · exact key s hs hp h3
theorem okW_iff (a : XP) : ∀ (t l : List Nat), okW a l t ↔ ∀ i, i < t.length → sitW a (l ++ t.take i) (t.getD i 0) = true
  | [], l => by simp [okW]
  | s :: t, l => by
    show (sitW a l s = true ∧ okW a (l ++ [s]) t) ↔ _
    rw [okW_iff a t]
    constructor
    · rintro ⟨h1, h2⟩ i hi
      cases i with
      | zero => simpa using h1
      | succ i =>
        have := h2 i (by simpa using hi)
        simpa using this
    · intro h
      refine ⟨by simpa using h 0 (by simp), fun i hi => ?_⟩
      have := h (i + 1) (by simpa using hi)
      simpa using this
theorem sitW_iff {a : XP} {l : List Nat} {s : Nat} : sitW a l s = true ↔ pop s ≤ a.s3.2.1.getD l.length 0 ∧ ∀ j, j < a.L.length → s.testBit j = true → kinB a j l.length = false ∧ busyL l j + 1 ≤ a.s3.1.getD j 0 := by
  unfold sitW
  rw [Bool.and_eq_true, decide_eq_true_eq, List.all_eq_true]
  refine and_congr Iff.rfl ⟨fun h j hj hb => ?_, fun h j hj => ?_⟩
  · have := h j (List.mem_range.2 hj)
    unfold fitJ at this
    rw [hb] at this
    simpa using this
  · rw [List.mem_range] at hj
    unfold fitJ
    cases hb : s.testBit j with
    | false => rfl
    | true =>
      have := h j hj hb
      rw [this.1, decide_eq_true this.2]
      rfl
theorem pops_sum : ∀ t : List Nat, pops t = sumN (fun p => pop (t.getD p 0)) t.length
  | [] => rfl
  | s :: t => by
    rw [List.length_cons, sumN_shift]
    show pop s + pops t = _
    rw [pops_sum t]
    rfl
theorem fill_iff {a : XP} (hf : a.Fine) {t : List Nat} (ht : t ∈ seqs a.L.length a.N.length) : (okW a [] t ↔ Fill (toP a.s3) (asg t)) ∧ total (toP a.s3) (asg t) = pops t := by
  have hj6 := hf.j
  have hL : (toP a.s3).loads.length = a.L.length := by simp [toP, XP.s3]
  have hN : (toP a.s3).needs.length = a.N.length := by simp [toP, XP.s3]
  obtain ⟨h1, h2⟩ := (mem_seqs _ _ _).1 ht
  have hlt : ∀ p, p < a.N.length → t.getD p 0 < 2 ^ a.L.length := fun p hp => h2 _ (mem_getD (by omega))
  have hcj : ∀ p, p < a.N.length → cntJ (asg t) (toP a.s3).loads.length p = pop (t.getD p 0) := fun p hp => by
    rw [hL, pop_n (hlt p hp) (by omega)]
    rfl
  have hcp : ∀ j, cntP (asg t) (toP a.s3).needs.length j = busyL t j := fun j => by
    rw [hN, busy_sum, h1]
    rfl
  have hlen : ∀ i, i < t.length → ([] ++ t.take i).length = i := fun i hi => by rw [List.nil_append, List.length_take]; omega
  refine ⟨?_, ?_⟩
  · rw [okW_iff]
    constructor
    · intro h
      have h' : ∀ i, i < a.N.length → pop (t.getD i 0) ≤ a.s3.2.1.getD i 0 ∧ ∀ j, j < a.L.length → (t.getD i 0).testBit j = true → kinB a j i = false ∧ busyL (t.take i) j + 1 ≤ a.s3.1.getD j 0 := fun i hi => by
        have := sitW_iff.1 (h i (by omega))
        rwa [hlen i (by omega), List.nil_append] at this
      refine ⟨⟨fun p j hp hj hb => ?_, fun j hj => ?_⟩, fun p hp => ?_⟩
      · rw [hN] at hp
        rw [hL] at hj
        rw [fit_kin hf hp hj, ((h' p hp).2 j hj hb).1]
        rfl
      · rw [hL] at hj
        rw [hcp]
        show _ ≤ a.s3.1.getD j 0
        have hi : ∀ i, i ≤ t.length → busyL (t.take i) j ≤ a.s3.1.getD j 0 := fun i => by
          induction i with
          | zero => intro _; simp [busyL]
          | succ i ih =>
            intro hi
            rw [busyL_take j (by omega)]
            cases hb : (t.getD i 0).testBit j with
            | false => exact ih (by omega)
            | true => exact ((h' i (by omega)).2 j hj hb).2
        have := hi t.length (Nat.le_refl _)
        rwa [List.take_length] at this
      · rw [hN] at hp
        rw [hcj p hp]
        exact (h' p hp).1
    · intro h i hi
      rw [sitW_iff, hlen i hi, List.nil_append]
      refine ⟨?_, fun j hj hb => ⟨?_, ?_⟩⟩
      · have := h.le i (by omega)
        rwa [hcj i (by omega)] at this
      · have := h.feas.fit i j (by omega) (by omega) hb
        rw [fit_kin hf (by omega) hj] at this
        simpa using this
      · have h3 := h.feas.load j (by omega)
        rw [hcp] at h3
        have e := busyL_take j hi
        rw [hb] at e
        have hm := busyL_mono j t (i + 1) (t.length - (i + 1)) (by omega)
        rw [show i + 1 + (t.length - (i + 1)) = t.length by omega, List.take_length] at hm
        have e2 : b1 true = 1 := rfl
        have h4 : busyL t j ≤ a.s3.1.getD j 0 := h3
        omega
  · rw [pops_sum, h1]
    unfold total
    rw [hN]
    exact sumN_congr _ fun p hp => hcj p hp
theorem fill_congr {P : Pnl} {a b : Asg} (h : Fill P a) (e : ∀ p j, p < P.needs.length → j < P.loads.length → b p j = a p j) : Fill P b ∧ total P b = total P a := by
  have hJ : ∀ p, p < P.needs.length → cntJ b P.loads.length p = cntJ a P.loads.length p := fun p hp => sumN_congr _ fun j hj => by rw [e p j hp hj]
  refine ⟨⟨⟨fun p j hp hj hb => h.feas.fit p j hp hj (by rw [← e p j hp hj]; exact hb), fun j hj => ?_⟩, fun p hp => ?_⟩, sumN_congr _ hJ⟩
  · have : cntP b P.needs.length j = cntP a P.needs.length j := sumN_congr _ fun p hp => by rw [e p j hp hj]
    rw [this]
    exact h.feas.load j hj
  · rw [hJ p hp]
    exact h.le p hp
theorem seatsG_is {a : XP} (hf : a.Fine) : seatsG a a.N.length [] = seatsV (toP a.s3) := by
  have hL : (toP a.s3).loads.length = a.L.length := by simp [toP, XP.s3]
  have hN : (toP a.s3).needs.length = a.N.length := by simp [toP, XP.s3]
  obtain ⟨⟨g, hg, hge⟩, hmax⟩ := seats_is (toP_Fit (XP.good hf)).ok
  apply Nat.le_antisymm
  · obtain ⟨t, ht, hok, hp⟩ := seatsG_at a a.N.length []
    obtain ⟨h1, h2⟩ := fill_iff hf ht
    rw [← hp, ← h2]
    exact hmax _ (h1.1 hok)
  · have ht := setsOf_mem (toP a.s3) g
    rw [hL, hN] at ht
    obtain ⟨hc, hct⟩ := fill_congr hg (b := asg (setsOf (toP a.s3) g)) fun p j hp hj => setsOf_at _ _ hp hj
    obtain ⟨h1, h2⟩ := fill_iff hf ht
    obtain ⟨hl, hx⟩ := (mem_seqs _ _ _).1 ht
    have := seatsG_le a a.N.length [] _ hl hx (h1.2 hc)
    omega
theorem pop_10 (s : Nat) : pop s ≤ 10 := by
  unfold pop
  have : sumN (fun j => b1 (s.testBit j)) 10 ≤ sumN (fun _ => 1) 10 := sumN_le 10 fun i _ => by
    cases s.testBit i <;> simp [b1]
  exact this
theorem seatsG_bound (a : XP) : ∀ (r : Nat) (l : List Nat), seatsG a r l ≤ 10 * r := fun r l => by
  obtain ⟨t, ht, hk, hp⟩ := seatsG_at a r l
  obtain ⟨hl, hx⟩ := (mem_seqs _ _ _).1 ht
  rw [← hp, ← hl]
  clear ht hp hl hk hx
  induction t with
  | nil => exact Nat.zero_le _
  | cons s t ih =>
    have := pop_10 s
    show pop s + pops t ≤ 10 * (t.length + 1)
    omega
end Go.Proofs.Ytbdmmikflkpmpaa
end

section
namespace Go.Proofs.Ytbdmmikflkpmpaa
open Go.RowKit Go.TL Go.Shelf Go.Pn
def seatF (a : XP) (most : Nat) : Nat → List Nat → List (List Nat) → List (List Nat)
  | 0, b, out => if most ≤ out.length then out else out ++ [b]
  | r + 1, b, out => if most ≤ out.length then out else (List.range (2 ^ a.L.length)).foldl (fun o s => if fitsF a b b.length s then seatF a most r (b ++ [s]) o else o) out
def allF (a : XP) : Nat → List Nat → List (List Nat)
  | 0, b => [b]
  | r + 1, b => (List.range (2 ^ a.L.length)).flatMap fun s => if fitsF a b b.length s then allF a r (b ++ [s]) else []
theorem take_app {α : Type} {o X Y : List α} {m : Nat} (h : ¬ m ≤ o.length) : (if m ≤ ((o ++ X).take m).length then (o ++ X).take m else ((o ++ X).take m ++ Y).take m) = (o ++ (X ++ Y)).take m := by
  by_cases hm : m ≤ (o ++ X).length
  · rw [if_pos (by rw [List.length_take]; omega), ← List.append_assoc, List.take_append_of_le_length hm]
  · rw [if_neg (by rw [List.length_take]; omega), List.take_of_length_le (l := o ++ X) (by omega), List.append_assoc]
theorem seatF_eq (a : XP) (most : Nat) : ∀ (r : Nat) (b : List Nat) (out : List (List Nat)), seatF a most r b out = if most ≤ out.length then out else (out ++ allF a r b).take most
  | 0, b, out => by
    unfold seatF allF
    split
    · rfl
    · rw [List.take_of_length_le (by simp; omega)]
  | r + 1, b, out => by
    have key : ∀ (L : List Nat) (o : List (List Nat)), L.foldl (fun o s => if fitsF a b b.length s then seatF a most r (b ++ [s]) o else o) o = if most ≤ o.length then o else (o ++ L.flatMap fun s => if fitsF a b b.length s then allF a r (b ++ [s]) else []).take most := by
      intro L
      induction L with
      | nil =>
        intro o
        split
        · rfl
        · rw [List.flatMap_nil, List.append_nil, List.take_of_length_le (by omega)]
          rfl
      | cons s L ih =>
        intro o
        rw [List.foldl_cons, List.flatMap_cons, ih]
        by_cases hm : most ≤ o.length
        · have e : (if fitsF a b b.length s = true then seatF a most r (b ++ [s]) o else o) = o := by
            split
            · rw [seatF_eq a most r, if_pos hm]
            · rfl
          rw [e, if_pos hm, if_pos hm]
        · rw [if_neg hm]
          by_cases hf : fitsF a b b.length s = true
          · rw [if_pos hf, if_pos hf, seatF_eq a most r, if_neg hm]
            exact take_app hm
          · rw [if_neg hf, if_neg hf, if_neg hm, List.nil_append]
    show (if most ≤ out.length then out else _) = _
    split
    · rfl
    · rename_i hm
      rw [key, if_neg hm]
      rfl
def okFrom (a : XP) : List Nat → List Nat → Bool
  | _, [] => true
  | b, s :: t => fitsF a b b.length s && okFrom a (b ++ [s]) t
theorem allF_eq (a : XP) : ∀ (r : Nat) (b : List Nat), allF a r b = ((seqs a.L.length r).filter (okFrom a b)).map (b ++ ·)
  | 0, b => by
    show [b] = (([[]] : List (List Nat)).filter (okFrom a b)).map (b ++ ·)
    rw [List.filter_cons_of_pos (by simp [okFrom])]
    simp
  | r + 1, b => by
    show ((List.range (2 ^ a.L.length)).flatMap fun s => if fitsF a b b.length s then allF a r (b ++ [s]) else []) = ((((List.range (2 ^ a.L.length)).flatMap fun s => (seqs a.L.length r).map (s :: ·))).filter (okFrom a b)).map (b ++ ·)
    rw [List.filter_flatMap, List.map_flatMap]
    congr 1
    funext s
    rw [List.filter_map, List.map_map]
    cases hf : fitsF a b b.length s with
    | true =>
      rw [if_pos rfl, allF_eq a r]
      have e : (okFrom a b ∘ fun x => s :: x) = okFrom a (b ++ [s]) := by
        funext t
        show (fitsF a b b.length s && okFrom a (b ++ [s]) t) = _
        rw [hf, Bool.true_and]
      rw [e]
      refine List.map_congr_left fun t _ => ?_
      simp
    | false =>
      rw [if_neg (by simp)]
      have e : (seqs a.L.length r).filter (okFrom a b ∘ fun x => s :: x) = [] := by
        rw [List.filter_eq_nil_iff]
        intro t _
        show ¬ (fitsF a b b.length s && okFrom a (b ++ [s]) t) = true
        rw [hf]
        simp
      rw [e]
      rfl
theorem okFrom_iff (a : XP) : ∀ (t b : List Nat), okFrom a b t = true ↔ ∀ i, i < t.length → fitsF a (b ++ t.take i) (b.length + i) (t.getD i 0) = true
  | [], b => by simp [okFrom]
  | s :: t, b => by
    show (fitsF a b b.length s && okFrom a (b ++ [s]) t) = true ↔ _
    rw [Bool.and_eq_true, okFrom_iff a t]
    constructor
    · rintro ⟨h1, h2⟩ i hi
      cases i with
      | zero => simpa using h1
      | succ i =>
        have := h2 i (by simpa using hi)
        simpa [Nat.add_assoc, Nat.add_comm 1 i] using this
    · intro h
      refine ⟨by simpa using h 0 (by simp), fun i hi => ?_⟩
      have := h (i + 1) (by simpa using hi)
      simpa [Nat.add_assoc, Nat.add_comm 1 i] using this
theorem fits_ok {a : XP} {l : List Nat} {i : Nat} : fitsF a (l.take i) i (l.getD i 0) = true ↔ okJ a i (bzL a l i) (l.getD i 0) a.L.length ∧ pop (l.getD i 0) = a.s3.2.1.getD i 0 := by
  unfold fitsF
  rw [Bool.and_eq_true, List.all_eq_true, decide_eq_true_eq]
  refine and_congr ⟨fun h j hj hb => ?_, fun h j hj => ?_⟩ Iff.rfl
  · have := h j (List.mem_range.2 hj)
    unfold fitJ at this
    rw [hb] at this
    rw [bzL_getD hj]
    simpa using this
  · rw [List.mem_range] at hj
    unfold fitJ
    cases hb : (l.getD i 0).testBit j with
    | false => rfl
    | true =>
      have := h j hj hb
      rw [bzL_getD hj] at this
      rw [this.1, decide_eq_true this.2]
      rfl
theorem okT_zero (a : XP) (l : List Nat) : okT a l 0 := ⟨fun p hp => absurd hp (Nat.not_lt_zero _), fun j _ => by simp [busyL]⟩
theorem okFrom_ok {a : XP} (hf : a.Fine) {l : List Nat} (hl : l ∈ seqs a.L.length a.N.length) : okFrom a [] l = okL (nf (toP a.s3)) a.s3.1 l := by
  obtain ⟨hl1, hl2⟩ := (mem_seqs _ _ _).1 hl
  cases hq : okFrom a [] l with
  | true =>
    have h := (okFrom_iff a l []).1 hq
    have hT : ∀ i, i ≤ a.N.length → okT a l i := fun i => by
      induction i with
      | zero => exact fun _ => okT_zero a l
      | succ i ih =>
        intro hi
        have h2 := h i (by omega)
        rw [List.nil_append, List.length_nil, Nat.zero_add] at h2
        obtain ⟨h3, h4⟩ := fits_ok.1 h2
        exact okT_step hf (by omega) hl1 (by rw [getD_lt (by omega)]; exact hl2 _ (List.getElem_mem _)) (ih (by omega)) h4 h3
    exact (okT_end hf hl (hT _ (Nat.le_refl _))).symm
  | false =>
    have h : ¬ ∀ i, i < l.length → fitsF a ([] ++ l.take i) (([] : List Nat).length + i) (l.getD i 0) = true := fun c => by
      rw [(okFrom_iff a l []).2 c] at hq
      cases hq
    obtain ⟨i, hi⟩ := Classical.not_forall.1 h
    obtain ⟨hil, hi⟩ := Classical.not_imp.1 hi
    rw [List.nil_append, List.length_nil, Nat.zero_add] at hi
    refine (okT_bad hf hl (i := i) (by omega) ?_).symm
    by_cases hp : pop (l.getD i 0) = a.s3.2.1.getD i 0
    · exact .inr fun c => hi (fits_ok.2 ⟨c, hp⟩)
    · exact .inl hp
theorem allF_ok {a : XP} (hf : a.Fine) : allF a a.N.length [] = (seqs a.L.length a.N.length).filter (okL (nf (toP a.s3)) a.s3.1) := by
  rw [allF_eq]
  have e : (fun t : List Nat => [] ++ t) = id := by funext t; rfl
  rw [e, List.map_id]
  exact List.filter_congr fun t ht => okFrom_ok hf ht
end Go.Proofs.Ytbdmmikflkpmpaa
end

section
namespace Go.Proofs.Ytbdmmikflkpmpaa
open Go.RowKit Go.TL Go.Shelf Go.Pn
end Go.Proofs.Ytbdmmikflkpmpaa
end

section
namespace Go.Proofs.Ytbdmmikflkpmpaa
open Go.RowKit Go.TL Go.Shelf Go.Pn
attribute [local go_sem] Oper.semAt_some
attribute [local go_sem] run_store_func
structure Wid (P Q : Pnl) : Prop where
  jl : Q.loads.length = P.loads.length
  pl : Q.needs.length = P.needs.length
  ld : ∀ j, j < P.loads.length → P.loads.getD j 0 ≤ Q.loads.getD j 0
  ft : ∀ p j, p < P.needs.length → j < P.loads.length → (P.fit.getD p 0).testBit j = true → (Q.fit.getD p 0).testBit j = true
theorem Wid.feas {P Q : Pnl} (h : Wid P Q) {a : Asg} (ha : Feas P a) : Feas Q a := by
  refine ⟨fun p j hp hj hb => ?_, fun j hj => ?_⟩
  · rw [h.pl] at hp
    rw [h.jl] at hj
    exact h.ft p j hp hj (ha.fit p j hp hj hb)
  · rw [h.jl] at hj
    rw [h.pl]
    exact Nat.le_trans (ha.load j hj) (h.ld j hj)
theorem Wid.seats {P Q : Pnl} (hP : P.Ok) (hQ : Q.Ok) (h : Wid P Q) (hn : ∀ p, p < P.needs.length → P.needs.getD p 0 ≤ Q.needs.getD p 0) : seatsV P ≤ seatsV Q := by
  obtain ⟨⟨a, ha, ht⟩, _⟩ := seats_is hP
  have h2 := (seats_is hQ).2 a ⟨h.feas ha.feas, fun p hp => by
    rw [h.pl] at hp
    rw [h.jl]
    exact Nat.le_trans (ha.le p hp) (hn p hp)⟩
  unfold total at *
  rw [h.jl, h.pl] at h2
  omega
theorem Wid.can {P Q : Pnl} (hP : P.Ok) (hQ : Q.Ok) (h : Wid P Q) (hn : ∀ p, p < P.needs.length → Q.needs.getD p 0 ≤ P.needs.getD p 0) (hc : canV P = true) : canV Q = true := by
  refine (can_hall hQ).2 fun T => ?_
  have h1 := (can_hall hP).1 hc T
  have h2 : needS Q T ≤ needS P T := by
    unfold needS
    rw [h.pl]
    refine sumN_le _ fun p hp => ?_
    split
    · exact hn p hp
    · exact Nat.le_refl _
  have h3 : capS P T ≤ capS Q T := by
    unfold capS
    rw [h.pl, h.jl]
    refine sumN_le _ fun j hj => Nat.le_min.2 ⟨Nat.le_trans (Nat.min_le_left _ _) (h.ld j hj), Nat.le_trans (Nat.min_le_right _ _) (sumN_le _ fun p hp => b1_le fun hb => ?_)⟩
    rw [Bool.and_eq_true] at hb ⊢
    exact ⟨hb.1, h.ft p j hp hj hb.2⟩
  omega
theorem Wid.less {P Q : Pnl} (hP : P.Ok) (hQ : Q.Ok) (h : Wid P Q) {r : Nat} (hr : r < P.needs.length) (hn : ∀ p, p < P.needs.length → p ≠ r → P.needs.getD p 0 ≤ Q.needs.getD p 0) (hnr : P.needs.getD r 0 ≤ Q.needs.getD r 0 + 1) : seatsV P ≤ seatsV Q + 1 := by
  obtain ⟨⟨a, ha, ht⟩, _⟩ := seats_is hP
  have hQ2 := (seats_is hQ).2
  by_cases hle : cntJ a P.loads.length r ≤ Q.needs.getD r 0
  · have h2 := hQ2 a ⟨h.feas ha.feas, fun p hp => by
      rw [h.pl] at hp
      rw [h.jl]
      by_cases e : p = r
      · rw [e]; exact hle
      · exact Nat.le_trans (ha.le p hp) (hn p hp e)⟩
    unfold total at *
    rw [h.jl, h.pl] at h2
    omega
  · obtain ⟨j0, hj0, hb0⟩ : ∃ j, j < P.loads.length ∧ a r j = true := by
      refine Classical.byContradiction fun hno => ?_
      have : cntJ a P.loads.length r = 0 := by
        unfold cntJ
        rw [sumN_congr (g := fun _ => 0) _ fun j hj => ?_, sumN_zero]
        cases hb : a r j with
        | false => rfl
        | true => exact absurd ⟨j, hj, hb⟩ hno
      omega
    have hsub : ∀ p j, (a p j && !(decide (p = r) && decide (j = j0))) = true → a p j = true := fun p j hb => (Bool.and_eq_true_iff.1 hb).1
    generalize hbd : (fun p j => a p j && !(decide (p = r) && decide (j = j0)) : Asg) = b at *
    have hbv : ∀ p j, b p j = (a p j && !(decide (p = r) && decide (j = j0))) := fun p j => by rw [← hbd]
    have hfe : Feas P b := by
      refine ⟨fun p j hp hj hb => ha.feas.fit p j hp hj (hsub p j (by rw [← hbv]; exact hb)), fun j hj => Nat.le_trans (sumN_le _ fun p hp => b1_le fun hb => hsub p j (by rw [← hbv]; exact hb)) (ha.feas.load j hj)⟩
    have hc : ∀ p, p ≠ r → cntJ a P.loads.length p = cntJ b P.loads.length p := fun p hp => by
      unfold cntJ
      refine sumN_congr _ fun j _ => ?_
      rw [hbv, decide_eq_false hp]
      simp
    have hcr : cntJ a P.loads.length r = cntJ b P.loads.length r + 1 := by
      unfold cntJ
      rw [sumN_upd (fun j => b1 (b r j)) (fun j => b1 (a r j)) j0 1 P.loads.length (fun j _ hne => ?_) (fun _ => ?_), if_pos hj0]
      · show b1 (a r j) = b1 (b r j)
        rw [hbv, decide_eq_false hne]
        simp
      · show b1 (a r j0) = b1 (b r j0) + 1
        rw [hbv, hb0]
        simp [b1]
    have hler := ha.le r hr
    have h2 := hQ2 b ⟨h.feas hfe, fun p hp => by
      rw [h.pl] at hp
      rw [h.jl]
      by_cases e : p = r
      · rw [e]; omega
      · rw [← hc p e]; exact Nat.le_trans (ha.le p hp) (hn p hp e)⟩
    have h3 : total P a = total P b + 1 := by
      unfold total
      rw [sumN_upd (cntJ b P.loads.length) (cntJ a P.loads.length) r 1 P.needs.length (fun p _ hne => hc p hne) (fun _ => hcr), if_pos hr]
    unfold total at *
    rw [h.jl, h.pl] at h2
    omega
end Go.Proofs.Ytbdmmikflkpmpaa
end

section
namespace Go.Proofs.Ytbdmmikflkpmpaa
open Go.RowKit Go.TL Go.Shelf Go.Pn
structure Tn (a x : S3) (s si t ti : Nat → Nat) : Prop where
  jl : x.1.length = a.1.length
  pl : x.2.1.length = a.2.1.length
  js : Ren a.1.length s si
  ps : Ren a.2.1.length t ti
  ld : ∀ j, j < a.1.length → x.1.getD (s j) 0 = a.1.getD j 0
  nd : ∀ p, p < a.2.1.length → x.2.1.getD (t p) 0 = a.2.1.getD p 0
  kn : ∀ p j, p < a.2.1.length → j < a.1.length → ((s j, t p) ∈ x.2.2 ↔ (j, p) ∈ a.2.2)
section
variable {a x : S3} {s si t ti : Nat → Nat}
theorem Tn.symm (h : Tn a x s si t ti) : Tn x a si s ti t := by
  refine ⟨h.jl.symm, h.pl.symm, by rw [h.jl]; exact h.js.symm, by rw [h.pl]; exact h.ps.symm, fun j hj => ?_, fun p hp => ?_, fun p j hp hj => ?_⟩
  · rw [h.jl] at hj
    rw [← h.ld _ (h.js.ilt j hj), h.js.si j hj]
  · rw [h.pl] at hp
    rw [← h.nd _ (h.ps.ilt p hp), h.ps.si p hp]
  · rw [h.jl] at hj
    rw [h.pl] at hp
    rw [← h.kn _ _ (h.ps.ilt p hp) (h.js.ilt j hj), h.ps.si p hp, h.js.si j hj]
theorem Tn.loaded (h : Tn a x s si t ti) {j0 n : Nat} (hj0 : j0 < a.1.length) : Tn (a.loaded j0 n) (x.loaded (s j0) n) s si t ti := by
  have l1 : (a.loaded j0 n).1.length = a.1.length := List.length_set
  have l2 : (x.loaded (s j0) n).1.length = x.1.length := List.length_set
  refine ⟨by rw [l1, l2]; exact h.jl, h.pl, by rw [l1]; exact h.js, h.ps, fun j hj => ?_, h.nd, fun p j hp hj => h.kn p j hp (by rwa [l1] at hj)⟩
  rw [l1] at hj
  exact h.js.set rfl h.jl h.ld hj0 hj
theorem map_min_getD (l : List Nat) (n j : Nat) (hj : j < l.length) : (l.map (min n)).getD j 0 = min n (l.getD j 0) := by
  rw [List.getD_eq_getElem?_getD, List.getElem?_map, List.getElem?_eq_getElem hj, getD_lt hj]
  rfl
theorem Tn.atMost (h : Tn a x s si t ti) (n : Nat) : Tn (a.atMost n) (x.atMost n) s si t ti := by
  have l1 : (a.atMost n).1.length = a.1.length := List.length_map ..
  have l2 : (x.atMost n).1.length = x.1.length := List.length_map ..
  refine ⟨by rw [l1, l2]; exact h.jl, h.pl, by rw [l1]; exact h.js, h.ps, fun j hj => ?_, h.nd, fun p j hp hj => h.kn p j hp (by rwa [l1] at hj)⟩
  rw [l1] at hj
  show (x.1.map (min n)).getD (s j) 0 = (a.1.map (min n)).getD j 0
  rw [map_min_getD _ _ _ (by rw [h.jl]; exact h.js.lt j hj), map_min_getD _ _ _ hj, h.ld j hj]
def onT (ti : Nat → Nat) (n w : Nat) : Nat := mkS (fun p => w.testBit (ti p)) n
theorem Tn.only (h : Tn a x s si t ti) (w : Nat) : Tn (a.only w) (x.only (onT ti a.2.1.length w)) s si t ti := by
  have l1 : (a.only w).2.1.length = a.2.1.length := onlyTo_len _ _ _
  have l2 : (x.only (onT ti a.2.1.length w)).2.1.length = x.2.1.length := onlyTo_len _ _ _
  refine ⟨h.jl, by rw [l1, l2]; exact h.pl, h.js, by rw [l1]; exact h.ps, h.ld, fun p hp => ?_, fun p j hp hj => h.kn p j (by rwa [l1] at hp) hj⟩
  rw [l1] at hp
  have h6 := h.ps.lt p hp
  show (onlyTo _ x.2.1 x.2.1.length).getD (t p) 0 = (onlyTo w a.2.1 a.2.1.length).getD p 0
  rw [onlyTo_get, onlyTo_get, h.nd p hp]
  have e : (onT ti a.2.1.length w).testBit (t p) = w.testBit p := by
    unfold onT
    rw [mkS_bit, decide_eq_true h6, Bool.true_and, h.ps.is p hp]
  rw [e]
  have e2 : (t p < x.2.1.length ∧ w.testBit p = false) = (p < a.2.1.length ∧ w.testBit p = false) := by
    apply propext
    rw [h.pl]
    exact ⟨fun c => ⟨hp, c.2⟩, fun c => ⟨h6, c.2⟩⟩
  simp only [e2]
structure KRev (a x : S3) (s t : Nat → Nat) : Prop where
  len : x.2.2.length = a.2.2.length
  get : ∀ i k, a.2.2[i]? = some k → x.2.2[a.2.2.length - 1 - i]? = some (s k.1, t k.2)
theorem KRev.back (ha : a.Good) (js : Ren a.1.length s si) (ps : Ren a.2.1.length t ti) (h : KRev a x s t) {i j p : Nat} (hj : j < a.1.length) (hp : p < a.2.1.length) (hx : x.2.2[i]? = some (s j, t p)) : i < a.2.2.length ∧ a.2.2[a.2.2.length - 1 - i]? = some (j, p) := by
  have hi := (List.getElem?_eq_some_iff.1 hx).1
  rw [h.len] at hi
  have hk : a.2.2[a.2.2.length - 1 - i]? = some a.2.2[a.2.2.length - 1 - i] := List.getElem?_eq_getElem (by omega)
  have h2 := h.get _ _ hk
  rw [show a.2.2.length - 1 - (a.2.2.length - 1 - i) = i by omega, hx] at h2
  have hm : a.2.2[a.2.2.length - 1 - i] ∈ a.2.2 := List.getElem_mem _
  have b1 := ha.k1 _ hm
  have b2 := ha.k2 _ hm
  generalize a.2.2[a.2.2.length - 1 - i] = k at *
  have h3 := Option.some.inj h2
  refine ⟨hi, ?_⟩
  rw [hk]
  congr 1
  refine Prod.ext ?_ ?_
  · rw [← js.is _ b1, ← (Prod.mk.inj h3).1, js.is _ hj]
  · rw [← ps.is _ b2, ← (Prod.mk.inj h3).2, ps.is _ hp]
theorem KRev.symm (ha : a.Good) (js : Ren a.1.length s si) (ps : Ren a.2.1.length t ti) (h : KRev a x s t) : KRev x a si ti := by
  refine ⟨h.len.symm, fun i k hk => ?_⟩
  have hi := (List.getElem?_eq_some_iff.1 hk).1
  rw [h.len] at hi ⊢
  have hk0 : a.2.2[a.2.2.length - 1 - i]? = some a.2.2[a.2.2.length - 1 - i] := List.getElem?_eq_getElem (by omega)
  have h2 := h.get _ _ hk0
  rw [show a.2.2.length - 1 - (a.2.2.length - 1 - i) = i by omega, hk] at h2
  have hm : a.2.2[a.2.2.length - 1 - i] ∈ a.2.2 := List.getElem_mem _
  have b1 := ha.k1 _ hm
  have b2 := ha.k2 _ hm
  rw [hk0]
  generalize a.2.2[a.2.2.length - 1 - i] = k0 at *
  have h3 := Option.some.inj h2
  rw [h3]
  congr 1
  exact Prod.ext (js.is _ b1).symm (ps.is _ b2).symm
theorem Tn.waive (ha : a.Good) (h : Tn a x s si t ti) (hk : KRev a x s t) (w : Nat) : Tn (a.waive w) (x.waive (onT (fun i => a.2.2.length - 1 - i) a.2.2.length w)) s si t ti := by
  refine ⟨h.jl, h.pl, h.js, h.ps, h.ld, h.nd, fun p j hp hj => ?_⟩
  show _ ∈ waiveK _ x.2.2 ↔ _ ∈ waiveK w a.2.2
  rw [waiveK_mem, waiveK_mem]
  constructor
  · rintro ⟨i, hi, hx⟩
    obtain ⟨h1, h2⟩ := hk.back ha h.js h.ps hj hp hx
    unfold onT at hi
    rw [mkS_bit, decide_eq_true h1, Bool.true_and] at hi
    exact ⟨_, hi, h2⟩
  · rintro ⟨i, hi, hx⟩
    have hil := (List.getElem?_eq_some_iff.1 hx).1
    refine ⟨a.2.2.length - 1 - i, ?_, hk.get _ _ hx⟩
    unfold onT
    rw [mkS_bit, decide_eq_true (by omega), Bool.true_and]
    show w.testBit (a.2.2.length - 1 - (a.2.2.length - 1 - i)) = false
    rw [show a.2.2.length - 1 - (a.2.2.length - 1 - i) = i by omega]
    exact hi
end
/-! ### what is told -/
section
variable {a x : XP} {s si t ti : Nat → Nat}
end
end Go.Proofs.Ytbdmmikflkpmpaa
end

section
namespace Go.Proofs.Ytbdmmikflkpmpaa
open Go.RowKit Go.TL Go.Shelf Go.Pn
end Go.Proofs.Ytbdmmikflkpmpaa
end

section
namespace Go.Proofs.Ytbdmmikflkpmpaa
open Go.RowKit Go.TL Go.Shelf Go.Pn
end Go.Proofs.Ytbdmmikflkpmpaa
end

section
namespace Go.Proofs.Ytbdmmikflkpmpaa
open Go.RowKit Go.TL Go.Shelf Go.Pn
end Go.Proofs.Ytbdmmikflkpmpaa
end

section
namespace Go.Proofs.Ytbdmmikflkpmpaa
open Go.RowKit Go.TL Go.Shelf Go.Pn
theorem Tr.app_pair {W V X : World} {l : List (Nat × Obj)} {g k1 k2 : Nat} (h : Tr W V X ((g, .cells #[iv k1, iv k2] 50 (0, 0)) :: l)) {base n : Nat} {v : Value} {K : List (Nat × Nat)} (hn : n = K.length) (ho : X.ownsRow base 50 2 v n (flatV K)) (hne : ∀ p ∈ l, v.ownBlock ≠ some p.1) (hg : ∀ q, v.ownBlock = some q → q < X.heap.size) (h1000 : n ≤ 1000) (hb : base ≤ X.heap.size) (hw : W.heap.size ≤ base) :
    ∃ g2 c2 Y, (Builtin.append_ #[23, 23] 23 #[v, .slice (some ⟨g, 0, none⟩) 1 1]).run Try.prog X = .ok (.slice (some ⟨g2, 0, none⟩) (n + 1) c2) Y ∧ Tr W V Y l ∧ Y.ownsRow base 50 2 (.slice (some ⟨g2, 0, none⟩) (n + 1) c2) (n + 1) (flatV (K ++ [(k1, k2)])) ∧ X.heap.size ≤ Y.heap.size ∧ (∀ j, j < X.heap.size → v.ownBlock ≠ some j → Y.heap[j]? = X.heap[j]?) ∧ ∀ p ∈ l, p.1 ≠ g2 := by
  subst hn
  obtain ⟨i0, z, hi0, hz, hzs, hsz, hby⟩ := info50
  have hcg := h.get 0 rfl
  obtain ⟨v', Y, hrun, hown, hgr, _, hat⟩ := run_append_own_at (P := Try.prog) (w := X) base 23 23 50 i0 z 2 16 Try.underlying23 hi0 hz hsz hby hzs (by decide) v K.length (flatV K) ho ⟨g, 0, none⟩ 1 1 [iv k1, iv k2] rfl (by
    intro j y hj
    match j, hj with
    | 0, hj =>
      cases hj
      exact cells_get (cs := [iv k1, iv k2]) (k := 0) hcg rfl
    | 1, hj =>
      cases hj
      exact cells_get (cs := [iv k1, iv k2]) (k := 1) hcg rfl) (by
    intro y hy
    simp at hy
    rcases hy with rfl | rfl <;> rfl) (by unfold maxLen; omega) (by omega) hb
  have hbq : ∀ q, v.ownBlock = some q → base ≤ q := fun q e => (ho.lt q e).1
  obtain ⟨g2, c2, rfl⟩ : ∃ g2 c2, v' = .slice (some ⟨g2, 0, none⟩) (K.length + 1) c2 := by
    rcases hown.2 with ⟨_, h0⟩ | ⟨g2, c2, _, e, _⟩
    · omega
    · exact ⟨g2, c2, e⟩
  refine ⟨g2, c2, Y, hrun, ⟨h.below.grown hgr h.below.size fun q e => Nat.le_trans hw (hbq q e), h.keep.grown hgr fun j o hj ho' => ?_, fun p hp => h.ge p (List.mem_cons_of_mem _ hp), fun p hp => ?_, (List.nodup_cons.1 h.nd).2⟩, ?_, hgr.size, fun j hj hne => hgr.block j hj (Ne.symm hne), fun p hp e => ?_⟩
  · rcases ho.2 with ⟨rfl, _⟩ | ⟨g, cap, cur, rfl, _, hg', _⟩
    · simp [Value.ownBlock] at hj
    · simp only [Value.ownBlock, Option.some.injEq] at hj
      subst hj
      rw [hg'] at ho'
      cases ho'
      rfl
  · exact (hgr.block _ (h.lt p (List.mem_cons_of_mem _ hp)) (Ne.symm (hne p hp))).trans (h.at_ p (List.mem_cons_of_mem _ hp))
  · rw [flatV_app]
    exact hown
  · subst e
    rcases hat with h2 | h2
    · exact hne p hp h2.symm
    · have := h.lt p (List.mem_cons_of_mem _ hp)
      simp only [Value.ownBlock, Option.some.injEq] at h2
      omega
theorem own_off {X : World} {base e size n : Nat} {v u : Value} {xs : List Value} (h : X.ownsRow base e size v n xs) {b j : Nat} (hb : ∀ q, v.ownBlock = some q → q ≠ b) : (X.setCell ⟨b, j, none⟩ u).ownsRow base e size v n xs := by
  refine ⟨h.1, h.2.imp id ?_⟩
  rintro ⟨g, cap, cur, h1, h2, h3, h4⟩
  exact ⟨g, cap, cur, h1, h2, (Below.heap_setCell X ⟨b, j, none⟩ u g (hb g (by rw [h1]; rfl))).trans h3, h4⟩
theorem own_set {X : World} {base e size n : Nat} {v u : Value} {xs : List Value} (h : X.ownsRow base e size v n xs) {b j : Nat} (hb : b < base) : (X.setCell ⟨b, j, none⟩ u).ownsRow base e size v n xs := by
  refine ⟨h.1, h.2.imp id ?_⟩
  rintro ⟨g, cap, cur, h1, h2, h3, h4⟩
  exact ⟨g, cap, cur, h1, h2, (Below.heap_setCell X ⟨b, j, none⟩ u g (by show g ≠ b; omega)).trans h3, h4⟩
end Go.Proofs.Ytbdmmikflkpmpaa
end

section
namespace Go.Proofs.Ytbdmmikflkpmpaa
open Go.RowKit Go.TL Go.Shelf Go.Pn
end Go.Proofs.Ytbdmmikflkpmpaa
end

section
namespace Go.Proofs.Ytbdmmikflkpmpaa
open Go.RowKit Go.TL Go.Shelf Go.Pn
theorem rowK_of {a : XP} (hf : a.Fine) {w : World} (ha : a.At w) : RowK w a.AK a.s3.2.2 := (XP.np_at ha hf).k
theorem wpListIn_app {F : Fence} {nF : Nat} {P : Program} {ops : Array Oper} {rest : List Oper} {o : Oper} {a : Act} {Q : Exit → Act → World → Prop} {w : World} (hgd : o.guard = none) (s y : Operand) (t : TypeId) (ho : o.op = .call { callee := .builtin .append, args := #[s, y], argTypes := #[t, t] }) {v xv v' : Value} {w' : World} (hs : a.eval s = v) (hx : a.eval y = xv)
    (hr : (Builtin.append_ #[t, t] o.type #[v, xv]).run P w = .ok v' w') (h : wpListIn F nF P ops Q rest (a.put o.dst v') w') : wpListIn F nF P ops Q (o :: rest) a w := by
  refine wpListIn_plain hgd fun K hK => ?_
  unfold Oper.wpIn
  refine ⟨by simp [Oper.about, ho, resolve, Target.leads, Sem.run_pure], ?_⟩
  rw [Oper.semAt_plain F _ _ (by rw [ho]; intro c hc'; cases hc')]
  simp [execOp, ho, resolve, invoke, builtin, hs, hx, hr, Result.andThen]
  exact hK _ _ h
end Go.Proofs.Ytbdmmikflkpmpaa
end

section
namespace Go.Proofs.Ytbdmmikflkpmpaa
open Go.RowKit Go.TL Go.Shelf Go.Pn
end Go.Proofs.Ytbdmmikflkpmpaa
end
