/- Parts of the proof: Panels: the ways are gone through. Panels: plot by plot the ways are counted. Panels: all ways are added up. Panels: how many seatings there are. Panels: two rows are compared. Panels: the chapter's examples. Panels: the examples hold. Panels: small things of the document. Panels: whether panels are valid, by the document. Panels: too much to be gone through. Panels: kin and size, by the document. Panels: pairs that are left out, by the law. Panels: whether there is a seating with pairs left out; the least set. Panels: what must be waived: the law's walk. Panels: some plots alone, by the law. Panels: what the plots that go short are. Panels: what a seating must be like. Panels: what must be waived: the law. Panels: what changes with more room: the plain law. Panels: numbered otherwise: the plain law. Panels: numbered otherwise: what is told of them. Panels: PanelTurned: the new numbers.  -/
import Derived.Test.YtbdmmikflkpmpaaProg
import Derived.Test.YtbdmmikflkpmpaaTP1
import Derived.Test.YtbdmmikflkpmpaaTP3
import Derived.Maps.AppendAt
import Derived.Test.YtbdmmikflkpmpaaTP2
import Derived.WalkKit
import Derived.WalkSpells
import Derived.WalkLawsBesides
import Derived.Outline
import Derived.OwnWalkIn
import Derived.TacticsInMore
import Derived.LoopNIn
import Derived.LoopIn
import Derived.Shelf.RegionOpen
import Derived.Deep.QuietTactic
import Derived.BigQuiet
import Derived.Lib.Hide
set_option linter.unusedVariables false
set_option linter.unusedSimpArgs false
section
namespace Go.Proofs.Ytbdmmikflkpmpaa
open Go.RowKit Go.TL Go.Shelf Go.Pn
attribute [local go_sem] Oper.semAt_some
attribute [local go_sem] run_store_func
set_option maxRecDepth 100000 in
set_option maxHeartbeats 2000000 in
theorem cnt_entry {V0 : World} {pp : Nat} {P : Pnl} {mm : PM} (hP : PnlAt V0 pp P mm) {W : World} (hV : Below V0.heap.size V0 W) {bn it b nL cL : Nat} {AL : Option Addr} (hbn : V0.heap.size ≤ bn) (hcL : W.cell? ⟨b, 0, none⟩ = some (.slice AL nL cL)) (hnL : nL ≤ 6) {xk : A6} (hx : okA xk) {ln : LW} (hM : MapR encA okA W bn (lwV ln)) {i kd m : Nat} (hi : i < P.needs.length) (hb : wsum (fun _ => 1) ln + 65 * m < 2 ^ 59)
    (hen : (Instr.entry (.pointer (some ⟨it, 0, none⟩))).run Try.prog W = .ok (.tuple #[encA xk, iv m]) W) {u2 u3 u6 u30 u31 : Value} {t : Array Value} (hSl : Slots (none :: some (.pointer (some ⟨b, 0, none⟩)) :: some (u2) :: some (u3) :: some (.pointer (some ⟨pp, 0, none⟩)) :: none :: some (u6) :: some (iv i) :: some (iv kd) :: some (.map (some bn)) :: o4 (o16 (some (u30) :: some (u31) :: some (iv i) :: none :: none :: o4 (some (.pointer (some ⟨it, 0, none⟩)) :: none :: none :: none :: o4 (o16 (o16 (o16 []))))))) t) :
    Exec Try.prog none centry t W (andThen (CsE W bn (P.fit.getD i 0) xk ln pp i kd m (2 ^ nL) (.pointer (some ⟨b, 0, none⟩)) u2 u3 u6 u30 u31 (.pointer (some ⟨it, 0, none⟩))) fun _ _ _ => False) := by
  have hu25 := Try.underlying25
  have hu88 := Try.underlying88
  obtain ⟨l, hl⟩ := xk
  obtain ⟨x0, x1, x2, x3, x4, x5, rfl⟩ := six hl
  obtain ⟨X6, hX6⟩ : ∃ X6 : A6, X6 = ⟨[x0, x1, x2, x3, x4, x5], hl⟩ := ⟨_, rfl⟩
  have hval : X6.1 = [x0, x1, x2, x3, x4, x5] := by rw [hX6]
  rw [← hX6] at hx ⊢
  replace hen : (Instr.entry (.pointer (some ⟨it, 0, none⟩))).run Try.prog W = .ok (.tuple #[.agg #[iv x0, iv x1, iv x2, iv x3, iv x4, iv x5], iv m]) W := hen
  clear hX6
  obtain ⟨f, hfe⟩ : ∃ f, P.fit.getD i 0 = f := ⟨_, rfl⟩
  obtain ⟨Q, hQ⟩ : ∃ Q, (andThen (CsE W bn (P.fit.getD i 0) X6 ln pp i kd m (2 ^ nL) (.pointer (some ⟨b, 0, none⟩)) u2 u3 u6 u30 u31 (.pointer (some ⟨it, 0, none⟩))) fun _ _ _ => False) = Q := ⟨_, rfl⟩
  rw [hQ]
  have HQ := Lib.hid hQ
  clear hQ hfe
  obtain ⟨x, hx⟩ := Slots.open_ hSl; simp only [fill, Nat.reduceAdd] at hx; subst hx; clear hSl
  show Exec _ _ (Code.seq _ (Code.seq _ _)) _ _ _
  refine exec_seq (exec_region_o fun ds => ?_)
  gi_wp2
  refine eq_mk ((Keep.refl _).alloc _) ?_
  show Exec _ _ (Code.seq _ _) _ (W.alloc (.cells #[iv x0, iv x1, iv x2, iv x3, iv x4, iv x5] 88)) _
  have hal := (Below.refl W.heap.size W).alloc (Nat.le_refl _) (.cells #[iv x0, iv x1, iv x2, iv x3, iv x4, iv x5] 88)
  have h10 : (W.alloc (.cells #[iv x0, iv x1, iv x2, iv x3, iv x4, iv x5] 88)).heap[W.heap.size]? = some (.cells #[iv x0, iv x1, iv x2, iv x3, iv x4, iv x5] 88 (0, 0)) := World.alloc_heap_new _ _
  have hMX : MapR encA okA (W.alloc (.cells #[iv x0, iv x1, iv x2, iv x3, iv x4, iv x5] 88)) bn (lwV ln) := hM.kept (hal.block _ hM.lt)
  have hVX := hV.trans (hal.mono hV.size)
  have hcX := (Grow.of_below (B := 0) hal).cell hcL
  have hgX : W.grownBy (W.alloc (.cells #[iv x0, iv x1, iv x2, iv x3, iv x4, iv x5] 88)) (some bn) := grownBy_below hal
  have hbl := hM.lt
  clear hal hM hcL hen hV
  generalize W.alloc (.cells #[iv x0, iv x1, iv x2, iv x3, iv x4, iv x5] 88) = X at *
  have hsh := shl_u nL (by omega)
  obtain ⟨N, hN⟩ : ∃ N, 2 ^ nL = N := ⟨_, rfl⟩
  have hN64 : N ≤ 64 := by rw [← hN]; exact Nat.pow_le_pow_right (n := 2) (by omega) hnL
  refine exec_seq (exec_region_o fun ds => ?_)
  gi_wp2
  refine eq_mk (Keep.refl _) ?_
  show Exec _ _ (sub centry [1, 1]) _ _ _
  have hNI : (2 : Int) ^ nL = (N : Int) := by rw [pow_cast, hN]
  refine (cnt_sets (b10 := W.heap.size) (ln := ln) (m := m) (i := i) (kd := kd) (N := N) (s := 0) (u1 := .pointer (some ⟨b, 0, none⟩)) (u2 := u2) (u3 := u3) (u6 := u6) (u30 := u30) (u31 := u31) (u39 := .pointer (some ⟨it, 0, none⟩)) hP hVX hbn hx (by rw [hval]; exact h10) (by omega) hMX hi hN64 hb rfl (by simp [Slots, Fits, hNI])).mono ?_
  intro e t Z hh
  obtain ⟨rfl, hg, hM', hSl'⟩ := only_normal hh
  rw [← HQ.out, hN]
  exact ⟨hgX.trans hg, hM', hSl'⟩
def CrE (V0 : World) (bn : Nat) (G G' : A6 → Nat) (lw : LW) (pp b i kd bw : Nat) (u2 u3 u30 u31 : Value) (t : Array Value) (W : World) : Prop :=
  ∃ ln, Below V0.heap.size V0 W ∧ MapR encA okA W bn (lwV ln) ∧ wsum G' ln = wsum G lw ∧ wsum (fun _ => 1) ln ≤ 64 * wsum (fun _ => 1) lw ∧ Slots (none :: some (.pointer (some ⟨b, 0, none⟩)) :: some (u2) :: some (u3) :: some (.pointer (some ⟨pp, 0, none⟩)) :: none :: some (.map (some bw)) :: some (iv i) :: some (iv kd) :: some (.map (some bn)) :: o4 (o16 (some (u30) :: some (u31) :: some (iv i) :: none :: none :: o4 (o4 (o4 (o16 (o16 (o16 [])))))))) t
def CrI (V0 : World) (bn it : Nat) (G G' : A6 → Nat) (lw : LW) (pp b i kd bw : Nat) (u2 u3 u30 u31 : Value) (n : Nat) (t : Array Value) (W : World) : Prop :=
  ∃ rem ln, n = rem.length ∧ Below V0.heap.size V0 W ∧ MapR encA okA W bn (lwV ln) ∧ IterR encA W it bw (lwV rem) ∧ (∀ p ∈ rem, okA p.1) ∧ wsum G' ln + wsum G rem = wsum G lw ∧ wsum (fun _ => 1) ln + 64 * wsum (fun _ => 1) rem ≤ 64 * wsum (fun _ => 1) lw ∧ Slots (none :: some (.pointer (some ⟨b, 0, none⟩)) :: some (u2) :: some (u3) :: some (.pointer (some ⟨pp, 0, none⟩)) :: none :: some (.map (some bw)) :: some (iv i) :: some (iv kd) :: some (.map (some bn)) :: o4 (o16 (some (u30) :: some (u31) :: some (iv i) :: none :: none :: o4 (some (.pointer (some ⟨it, 0, none⟩)) :: none :: none :: none :: o4 (o16 (o16 (o16 []))))))) t
set_option maxRecDepth 100000 in
set_option maxHeartbeats 2000000 in
theorem cnt_range {V0 : World} {pp : Nat} {P : Pnl} {mm : PM} (hP : PnlAt V0 pp P mm) {W : World} (hV : Below V0.heap.size V0 W) {bn bw b nL cL : Nat} {AL : Option Addr} (hbn : V0.heap.size ≤ bn) (hb0 : ∀ X, Below V0.heap.size V0 X → X.cell? ⟨b, 0, none⟩ = some (.slice AL nL cL)) (hnL : nL ≤ 6) {lw : LW} (hw : MapR encA okA W bw (lwV lw)) (hM : MapR encA okA W bn (lwV [])) (hne : bw ≠ bn) {i kd : Nat} {r : List (Nat × Nat)} (hi : i < P.needs.length) (hb : wsum (fun _ => 1) lw ≤ 2 ^ 40)
    {u2 u3 u30 u31 : Value} {t : Array Value} (hSl : Slots (none :: some (.pointer (some ⟨b, 0, none⟩)) :: some (u2) :: some (u3) :: some (.pointer (some ⟨pp, 0, none⟩)) :: none :: some (.map (some bw)) :: some (iv i) :: some (iv kd) :: some (.map (some bn)) :: o4 (o16 (some (u30) :: some (u31) :: some (iv i) :: none :: none :: o4 (o4 (o4 (o16 (o16 (o16 [])))))))) t) :
    Exec Try.prog none (sub ccode [1, 1, 1, 1, 1, 1, 1, 0, 1, 0, 0, 1, 1, 0, 0, 1, 1, 0]) t W (andThen (CrE V0 bn (fun y => ways nL ((kd, P.fit.getD i 0) :: r) y.1) (fun y => ways nL r y.1) lw pp b i kd bw u2 u3 u30 u31) fun _ _ _ => False) := by
  obtain ⟨G, hG⟩ : ∃ G : A6 → Nat, (fun y : A6 => ways nL ((kd, P.fit.getD i 0) :: r) y.1) = G := ⟨_, rfl⟩
  obtain ⟨G', hG'⟩ : ∃ G' : A6 → Nat, (fun y : A6 => ways nL r y.1) = G' := ⟨_, rfl⟩
  have hstep : ∀ (x : A6) (m : Nat) (ln : LW), (keysW ln).Nodup → wsum G' (setsTo kd (P.fit.getD i 0) x m ln (2 ^ nL)) = wsum G' ln + G x * m := fun x m ln hn => by
    rw [← hG, ← hG']
    exact setsTo_ways hn
  rw [hG, hG']
  have HG := Lib.hid hstep
  clear hG hG' hstep
  have hok : ∀ p ∈ lw, okA p.1 := by
    obtain ⟨es, c, _, R⟩ := hw
    intro p hp
    exact R.ok (p.1, iv p.2) (List.mem_map.2 ⟨p, hp, rfl⟩)
  obtain ⟨x, hx⟩ := Slots.open_ hSl; simp only [fill, Nat.reduceAdd] at hx; subst hx; clear hSl
  show Exec _ _ (Code.seq _ (Code.block _ _)) _ _ _
  refine exec_seq (exec_region_o fun ds => ?_)
  gi_wp2_with (gi_at_range; refine walk_range rfl rfl rfl hw Try.underlying89 ?_; intro since hit)
  refine eq_mk ((Keep.refl _).alloc _) ?_
  show Exec _ _ (Code.block _ _) _ _ _
  have hal := (Below.refl W.heap.size W).alloc (Nat.le_refl _) (.mapIter (some bw) since #[] since)
  have hVX := hV.trans (hal.mono hV.size)
  have hMX : MapR encA okA (W.alloc (.mapIter (some bw) since #[] since)) bn (lwV []) := hM.kept (hal.block _ hM.lt)
  have hitw : W.heap.size ≠ bw := by have := hw.lt; omega
  have hitn : W.heap.size ≠ bn := by have := hM.lt; omega
  have hVit := hV.size
  clear hal hM hw hV
  generalize W.alloc (.mapIter (some bw) since #[] since) = X at *
  generalize W.heap.size = it at *
  clear W
  refine exec_block ?_
  refine exec_loop (CrI V0 bn it G G' lw pp b i kd bw u2 u3 u30 u31) lw.length ⟨lw, [], rfl, hVX, hMX, hit, hok, by simp [wsum], by simp [wsum], by simp [Slots, Fits]⟩ ?_
  clear hVX hMX hit x
  clear X
  rintro n t W ⟨rem, ln, hn, hV, hM, hit, hok, hsum, hbnd, hSl⟩
  have HN := Lib.hid hn
  clear hn
  obtain ⟨x, hx⟩ := Slots.open_ hSl; simp only [fill, Nat.reduceAdd] at hx; subst hx; clear hSl
  show Exec _ _ (Code.seq _ (Code.seq _ _)) _ _ _
  refine exec_seq (exec_region_o fun ds => ?_)
  gi_wp2_with (gi_at_next; refine walk_next rfl rfl rfl hit hitw (fun hnil => ?_) (fun pq pre post W' hl' hit' hgr hen => ?_))
  · refine eq_mk (Keep.refl _) ?_
    show Exec _ _ (Code.seq (Code.cond _ _ _) _) _ _ _
    refine exec_seq (exec_cond (b := false) rfl (fun h => by cases h) (fun _ => ?_))
    have hr : rem = [] := by simpa [lwV] using hnil
    subst hr
    refine exec_exit ⟨ln, hV, hM, by simpa [wsum] using hsum, by simpa [wsum] using hbnd, by simp [Slots, Fits]⟩
  · skip
    have hli : it < W.heap.size := by
      obtain ⟨_, _, _, _, _, _, hi, _⟩ := hit
      exact heap_lt hi
    obtain ⟨ob, hob⟩ : ∃ ob, W.heap[it]? = some ob ∧ book ob = false := by
      obtain ⟨_, _, _, _, _, _, hi, _⟩ := hit
      exact ⟨_, hi, rfl⟩
    refine eq_mk ((Keep.refl _).grown hgr fun j o e ho => by cases e; rw [hob.1] at ho; cases ho; exact hob.2) ?_
    show Exec _ _ (Code.seq (Code.cond _ _ _) _) _ _ _
    obtain ⟨pre', post', y, rfl, rfl, rfl, rfl⟩ : ∃ pre' post' y, rem = pre' ++ y :: post' ∧ pre = lwV pre' ∧ post = lwV post' ∧ pq = (y.1, iv y.2) := by
      obtain ⟨a, b, e1, e2, e3⟩ := List.map_eq_append_iff.1 hl'
      obtain ⟨y, b', e4, e5, e6⟩ := List.map_eq_cons_iff.1 e3
      exact ⟨a, b', y, by rw [e1, e4], e2.symm, e6.symm, e5.symm⟩
    clear hl' hob
    obtain ⟨xk, m⟩ := y
    have hlen : (pre' ++ (xk, m) :: post').length = (pre' ++ post').length + 1 := by simp only [List.length_append, List.length_cons]; omega
    have hit2 : IterR encA W' it bw (lwV (pre' ++ post')) := by
      have : lwV (pre' ++ post') = lwV pre' ++ lwV post' := by simp [lwV]
      rw [this]
      exact hit'
    have hok2 : ∀ p ∈ pre' ++ post', okA p.1 := fun p hp => hok p (by
      rcases List.mem_append.1 hp with h | h
      · exact List.mem_append.2 (.inl h)
      · exact List.mem_append.2 (.inr (List.mem_cons_of_mem _ h)))
    have hxk : okA xk := hok (xk, m) (by simp)
    have hs1 := wsum_split G pre' post' (xk, m)
    have hs2 := wsum_split (fun _ => 1) pre' post' (xk, m)
    simp only [Nat.one_mul] at hs1 hs2
    have hV' : Below V0.heap.size V0 W' := hV.grown hgr hV.size (fun q e => by cases e; exact hVit)
    have hM' : MapR encA okA W' bn (lwV ln) := hM.kept (hgr.block _ hM.lt (fun e => hitn (Option.some.inj e).symm))
    have hlt' : it < W'.heap.size := Nat.lt_of_lt_of_le hli hgr.size
    have hen' : (Instr.entry (.pointer (some ⟨it, 0, none⟩))).run Try.prog W' = .ok (.tuple #[encA xk, iv m]) W' := hen
    have HL := Lib.hid hlen
    clear hit hgr hit' hV hM hok hlen hen hli
    clear W
    refine exec_seq (exec_cond (b := true) rfl (fun _ => exec_skip ?_) (fun h => by cases h))
    show Exec _ _ (Code.block 3 centry) _ _ _
    refine exec_block ((cnt_entry (nL := nL) (xk := xk) (m := m) (ln := ln) (i := i) (kd := kd) (b := b) (it := it) (bn := bn) (u2 := u2) (u3 := u3) (u6 := .map (some bw)) (u30 := u30) (u31 := u31) hP hV' hbn (hb0 W' hV') hnL hxk hM' hi (by omega) hen' (by simp [Slots, Fits])).mono ?_)
    intro e t Z hh
    obtain ⟨rfl, hg, hMZ, hSl'⟩ := only_normal hh
    clear hh
    have hst := HG.out xk m ln (map_nodup hM')
    have hle := setsTo_le (k := kd) (f := P.fit.getD i 0) (x := xk) (m := m) (map_nodup hM') (2 ^ nL)
    have hN64 : 2 ^ nL * m ≤ 64 * m := Nat.mul_le_mul_right m (Nat.pow_le_pow_right (n := 2) (by omega) hnL)
    have hVZ : Below V0.heap.size V0 Z := hV'.grown hg hV'.size (fun q e => by cases e; exact hbn)
    have hitZ : IterR encA Z it bw (lwV (pre' ++ post')) := grown_iter hit2 hg hitn hne
    refine ⟨(pre' ++ post').length, by rw [HN.out, HL.out]; omega, pre' ++ post', _, rfl, hVZ, hMZ, hitZ, hok2, ?_, ?_, ?_⟩
    · rw [hst]
      omega
    · omega
    · obtain ⟨x, hx⟩ := Slots.open_ hSl'; simp only [fill, Nat.reduceAdd] at hx; subst hx; clear hSl'
      simp [Slots, Fits]
end Go.Proofs.Ytbdmmikflkpmpaa
end

section
namespace Go.Proofs.Ytbdmmikflkpmpaa
open Go.RowKit Go.TL Go.Shelf Go.Pn
attribute [local go_sem] Oper.semAt_some
attribute [local go_sem] run_store_func
theorem nf_drop {P : Pnl} (h : PFit P) {i : Nat} (hi : i < P.needs.length) : (nf P).drop i = (P.needs.getD i 0, P.fit.getD i 0) :: (nf P).drop (i + 1) := by
  have hl : i < (nf P).length := by rw [nf_len h]; exact hi
  rw [List.drop_eq_getElem_cons hl]
  congr 1
  have := nf_get h hi
  rw [List.getElem?_eq_getElem hl] at this
  exact Option.some.inj this
def ClI (V0 : World) (a : XP) (b pp T n0 : Nat) (n : Nat) (t : Array Value) (W : World) : Prop :=
  ∃ i bw lw, i ≤ a.N.length ∧ n = a.N.length - i ∧ Below V0.heap.size V0 W ∧ MapR encA okA W bw (lwV lw) ∧ wsum (fun y => ways n0 ((nf (toP a.s3)).drop i) y.1) lw = T ∧ wsum (fun _ => 1) lw ≤ 64 ^ i ∧ Slots (none :: some (.pointer (some ⟨b, 0, none⟩)) :: some (iv 0) :: some (.pointer (some ⟨b + 1, 0, none⟩)) :: some (.pointer (some ⟨pp, 0, none⟩)) :: none :: some (.map (some bw)) :: none :: none :: none :: o4 (o16 (some (.slice a.AN a.N.length a.cN) :: some (iv a.N.length) :: some (iv i) :: none :: none :: o4 (o4 (o4 (o16 (o16 (o16 [])))))))) t
def ClE (V0 : World) (b T : Nat) (t : Array Value) (W : World) : Prop :=
  ∃ bw lw, Below V0.heap.size V0 W ∧ MapR encA okA W bw (lwV lw) ∧ wsum (fun _ => 1) lw = T ∧ T ≤ 2 ^ 36 ∧ Slots (none :: some (.pointer (some ⟨b, 0, none⟩)) :: some (iv 0) :: some (.pointer (some ⟨b + 1, 0, none⟩)) :: none :: none :: some (.map (some bw)) :: o4 (o4 (o16 (o64 [])))) t
set_option maxRecDepth 100000 in
set_option maxHeartbeats 2000000 in
theorem cnt_plots {w : World} {a : XP} {b : Nat} (hf : a.Fine) {V0 : World} (hS : SpB w a b V0) {pp : Nat} {mm : PM} (hP : PnlAt V0 pp (toP a.s3) mm) {bw : Nat} {lw : LW} (hw : MapR encA okA V0 bw (lwV lw)) (hb : wsum (fun _ => 1) lw ≤ 1) {t : Array Value} (hSl : Slots (none :: some (.pointer (some ⟨b, 0, none⟩)) :: some (iv 0) :: some (.pointer (some ⟨b + 1, 0, none⟩)) :: some (.pointer (some ⟨pp, 0, none⟩)) :: none :: some (.map (some bw)) :: o4 (o4 (o16 (o64 [])))) t) :
    Exec Try.prog none (sub ccode [1, 1, 1, 1, 1, 1, 1, 0]) t V0 (andThen (ClE V0 b (wsum (fun y => ways a.L.length (nf (toP a.s3)) y.1) lw)) fun _ _ _ => False) := by
  have hu25 := Try.underlying25
  have hu22 := Try.underlying22
  have h6 := hf.j
  have hn6 := hf.p
  have hfit := toP_Fit (XP.good hf)
  have hnl : (toP a.s3).needs.length = a.N.length := by simp [toP, XP.s3]
  have hnfl : (nf (toP a.s3)).length = a.N.length := by rw [nf_len hfit, hnl]
  obtain ⟨T, hT⟩ : ∃ T, wsum (fun y : A6 => ways a.L.length (nf (toP a.s3)) y.1) lw = T := ⟨_, rfl⟩
  rw [hT]
  obtain ⟨x, hx⟩ := Slots.open_ hSl; simp only [fill, Nat.reduceAdd] at hx; subst hx; clear hSl
  have hh := hS.p.heap
  simp only [XP.sN] at hh
  have c1 := cells_get (cs := [_, _, _]) (k := 1) hh rfl
  clear hh
  show Exec _ _ (Code.seq _ (Code.block _ _)) _ _ _
  refine exec_seq (exec_region_o fun ds => ?_)
  gi_wp2
  refine eq_mk (Keep.refl _) ?_
  show Exec _ _ (Code.block _ _) _ _ _
  refine exec_block ?_
  refine exec_loop (ClI V0 a b pp T a.L.length) a.N.length ⟨0, bw, lw, by omega, rfl, Below.refl _ _, hw, by rw [List.drop_zero]; exact hT, by simpa using hb, by simp [Slots, Fits]⟩ ?_
  clear c1 hT hw hb x
  clear bw lw
  rintro n t W ⟨i, bw, lw, hi, hn, hV, hw, hsum, hle, hSl⟩
  have HN := Lib.hid hn
  have HT := Lib.hid hsum
  clear hn hsum
  obtain ⟨x, hx⟩ := Slots.open_ hSl; simp only [fill, Nat.reduceAdd] at hx; subst hx; clear hSl
  show Exec _ _ (Code.seq _ (Code.seq _ _)) _ _ _
  refine exec_seq (exec_region_o fun ds => ?_)
  gi_wp2
  refine eq_mk (Keep.refl _) ?_
  show Exec _ _ (Code.seq (Code.cond _ _ _) _) _ _ _
  have hpow : 64 ^ i ≤ 64 ^ 6 := Nat.pow_le_pow_right (by omega) (by omega)
  refine exec_seq (exec_cond (b := decide (i < a.N.length)) (by first | rfl | (show Value.bool _ = _; congr 1; exact decide_eq_decide.2 (by omega))) (fun hp => exec_skip ?_) (fun hp => exec_exit ?_))
  · have hil : i < a.N.length := by have := of_decide_eq_true hp; omega
    show Exec _ _ (Code.seq (Code.block _ _) _) _ _ _
    have hSW : SpB w a b W := ⟨⟨(hV.block _ (heap_lt hS.p.heap)).trans hS.p.heap, hS.p.at_.below hV⟩, (hV.block _ hS.e.lt).trans hS.e, hS.below.trans (hV.mono hS.below.size)⟩
    obtain ⟨ad, hA, hcN⟩ := hSW.p.at_.n i (vi (a.N.getD i 0)) (by rw [List.getElem?_map, List.getElem?_eq_getElem hil, List.getD_eq_getElem?_getD, List.getElem?_eq_getElem hil]; rfl)
    have hN0 : 0 ≤ a.N.getD i 0 := by
      rw [List.getD_eq_getElem?_getD, List.getElem?_eq_getElem hil]
      exact (hf.nb _ (List.getElem_mem hil)).1
    obtain ⟨kd, hkd⟩ : ∃ kd : Nat, a.N.getD i 0 = kd := ⟨(a.N.getD i 0).toNat, by omega⟩
    have hneed : (toP a.s3).needs.getD i 0 = kd := by
      show (a.N.map Int.toNat).getD i 0 = kd
      rw [List.getD_eq_getElem?_getD, List.getElem?_map, List.getElem?_eq_getElem hil]
      rw [List.getD_eq_getElem?_getD, List.getElem?_eq_getElem hil] at hkd
      simp only [Option.map_some, Option.getD_some] at hkd ⊢
      omega
    rw [hkd] at hcN
    have hdrop := nf_drop hfit (by rw [hnl]; exact hil)
    rw [hneed] at hdrop
    have HD := Lib.hid hdrop
    clear hkd hN0 hneed hdrop
    have hiI : (i : Int) < a.N.length := by omega
    simp only [hA]
    refine exec_cut (fun t' W' => ∃ bn ln, Below V0.heap.size V0 W' ∧ MapR encA okA W' bn (lwV ln) ∧ wsum (fun y => ways a.L.length ((nf (toP a.s3)).drop (i + 1)) y.1) ln = T ∧ wsum (fun _ => 1) ln ≤ 64 ^ (i + 1) ∧ Slots (none :: some (.pointer (some ⟨b, 0, none⟩)) :: some (iv 0) :: some (.pointer (some ⟨b + 1, 0, none⟩)) :: some (.pointer (some ⟨pp, 0, none⟩)) :: none :: some (.map (some bn)) :: none :: none :: none :: o4 (o16 (some (.slice a.AN a.N.length a.cN) :: some (iv a.N.length) :: some (iv i) :: none :: none :: o4 (o4 (o4 (o16 (o16 (o16 [])))))))) t') (exec_block ?_) ?_
    · show Exec _ _ (Code.seq _ (Code.seq _ _)) _ _ _
      refine exec_seq (exec_region_o fun ds => ?_)
      gi_wp2
      refine eq_mk (Keep.refl _) ?_
      show Exec _ _ (Code.seq _ _) _ _ _
      have hmm := @run_makeMap Try.prog
      refine exec_seq (exec_region_o fun ds => ?_)
      gi_wp2
      clear hmm
      refine eq_mk ((Keep.refl _).alloc _) ?_
      show Exec _ _ (Code.seq (sub ccode [1, 1, 1, 1, 1, 1, 1, 0, 1, 0, 0, 1, 1, 0, 0, 1, 1, 0]) _) _ _ _
      have hal := (Below.refl W.heap.size W).alloc (Nat.le_refl _) (.map #[] 0)
      have hVX := hV.trans (hal.mono hV.size)
      have hMn : MapR encA okA (W.alloc (.map #[] 0)) W.heap.size (lwV []) := MapR.new encA okA W
      have hMw : MapR encA okA (W.alloc (.map #[] 0)) bw (lwV lw) := hw.kept (hal.block _ hw.lt)
      have hne : bw ≠ W.heap.size := by have := hw.lt; omega
      have hbn := hV.size
      clear hal hcN hSW
      generalize W.alloc (.map #[] 0) = X at *
      generalize W.heap.size = bn at *
      have hb0 : ∀ Y, Below V0.heap.size V0 Y → Y.cell? ⟨b, 0, none⟩ = some (.slice a.AL a.L.length a.cL) := fun Y hY => cells_get (cs := [_, _, _]) ((hY.block _ (heap_lt hS.p.heap)).trans hS.p.heap) rfl
      rw [← hA]
      refine exec_seq ((cnt_range (b := b) (kd := kd) (i := i) (lw := lw) (bw := bw) (bn := bn) (r := (nf (toP a.s3)).drop (i + 1)) (u2 := iv 0) (u3 := .pointer (some ⟨b + 1, 0, none⟩)) (u30 := .slice a.AN a.N.length a.cN) (u31 := iv a.N.length) hP hVX hbn hb0 h6 hMw hMn hne (by rw [hnl]; exact hil) (by omega) (by simp [Slots, Fits, hA])).mono ?_)
      intro e t Z hh
      obtain ⟨rfl, ln, hVZ, hMZ, hsZ, hlZ, hSl'⟩ := only_normal hh
      clear hh x
      rw [← HD.out, HT.out] at hsZ
      have HZ := Lib.hid hsZ
      clear hsZ
      have hlZ2 : wsum (fun _ => 1) ln ≤ 64 ^ (i + 1) := by rw [Nat.pow_succ]; omega
      have HL := Lib.hid hlZ2
      clear hlZ hlZ2
      obtain ⟨x, hx⟩ := Slots.open_ hSl'; simp only [fill, Nat.reduceAdd] at hx; subst hx; clear hSl'
      show Exec _ _ _ _ _ _
      refine exec_region_o fun ds => ?_
      gi_wp2
      exact eq_mk (Keep.refl _) ⟨bn, ln, hVZ, hMZ, HZ.out, HL.out, by simp [Slots, Fits]⟩
    · clear hV hw hSW hcN hle x HT
      rintro t' Z ⟨bn, ln, hV, hw, hsum, hle, hSl⟩
      have HZ := Lib.hid hsum
      have HL := Lib.hid hle
      clear hsum hle
      obtain ⟨x, hx⟩ := Slots.open_ hSl; simp only [fill, Nat.reduceAdd] at hx; subst hx; clear hSl
      have hwp : IntKind.i64.wrap ((i : Int) + 1) = ((i + 1 : Nat) : Int) := by rw [IntWalk.i64_in _ (by omega)]; norm_cast
      refine exec_region_o fun ds => ?_
      gi_wp2
      exact eq_mk (Keep.refl _) ⟨n - 1, by rw [HN.out]; omega, i + 1, bn, ln, by omega, by rw [HN.out]; omega, hV, hw, HZ.out, HL.out, by simp only [Slots, Fits, and_self]; simp⟩
  · have hil : i = a.N.length := by have := of_decide_eq_false hp; omega
    have hsum := HT.out
    have hd : (nf (toP a.s3)).drop i = [] := List.drop_eq_nil_of_le (by rw [hnfl]; omega)
    rw [hd] at hsum
    have hs1 : wsum (fun _ => 1) lw = T := hsum
    have h36 : (64 : Nat) ^ 6 = 2 ^ 36 := by decide
    exact ⟨bw, lw, hV, hw, hs1, by omega, by simp [Slots, Fits]⟩
end Go.Proofs.Ytbdmmikflkpmpaa
end

section
namespace Go.Proofs.Ytbdmmikflkpmpaa
open Go.RowKit Go.TL Go.Shelf Go.Pn
attribute [local go_sem] Oper.semAt_some
attribute [local go_sem] run_store_func
def FsI (V0 : World) (b bw it T : Nat) (n : Nat) (t : Array Value) (W : World) : Prop :=
  ∃ rem acc, n = rem.length ∧ Below V0.heap.size V0 W ∧ IterR encA W it bw (lwV rem) ∧ acc + wsum (fun _ => 1) rem = T ∧ Slots (none :: none :: some (iv acc) :: some (.pointer (some ⟨b + 1, 0, none⟩)) :: none :: none :: o16 (o64 (some (.pointer (some ⟨it, 0, none⟩)) :: o4 (o4 [])))) t
def FsE (V0 : World) (b T : Nat) (t : Array Value) (W : World) : Prop :=
  Below V0.heap.size V0 W ∧ Slots (none :: none :: some (iv T) :: some (.pointer (some ⟨b + 1, 0, none⟩)) :: none :: none :: none :: o4 (o4 (o16 (o64 [])))) t
set_option maxRecDepth 100000 in
set_option maxHeartbeats 2000000 in
theorem cnt_sum {V0 : World} {b T : Nat} {W : World} {t : Array Value} (h : ClE V0 b T t W) : Exec Try.prog none (sub ccode [1, 1, 1, 1, 1, 1, 1, 1, 0]) t W (andThen (FsE V0 b T) fun _ _ _ => False) := by
  obtain ⟨bw, lw, hV, hw, hsum, hT, hSl⟩ := h
  have HS := Lib.hid hsum
  clear hsum
  obtain ⟨x, hx⟩ := Slots.open_ hSl; simp only [fill, Nat.reduceAdd] at hx; subst hx; clear hSl
  show Exec _ _ (Code.seq _ (Code.block _ _)) _ _ _
  refine exec_seq (exec_region_o fun ds => ?_)
  gi_wp2_with (gi_at_range; refine walk_range rfl rfl rfl hw Try.underlying89 ?_; intro since hit)
  refine eq_mk ((Keep.refl _).alloc _) ?_
  show Exec _ _ (Code.block _ _) _ _ _
  have hal := (Below.refl W.heap.size W).alloc (Nat.le_refl _) (.mapIter (some bw) since #[] since)
  have hVX := hV.trans (hal.mono hV.size)
  have hitw : W.heap.size ≠ bw := by have := hw.lt; omega
  have hVit := hV.size
  clear hal hw hV
  generalize W.alloc (.mapIter (some bw) since #[] since) = X at *
  generalize W.heap.size = it at *
  clear W
  refine exec_block ?_
  refine exec_loop (FsI V0 b bw it T) lw.length ⟨lw, 0, rfl, hVX, hit, by rw [HS.out]; omega, by simp [Slots, Fits]⟩ ?_
  clear hVX hit x
  clear X
  rintro n t W ⟨rem, acc, hn, hV, hit, hacc, hSl⟩
  have HN := Lib.hid hn
  clear hn
  obtain ⟨x, hx⟩ := Slots.open_ hSl; simp only [fill, Nat.reduceAdd] at hx; subst hx; clear hSl
  show Exec _ _ (Code.seq _ (Code.seq _ _)) _ _ _
  refine exec_seq (exec_region_o fun ds => ?_)
  gi_wp2_with (gi_at_next; refine walk_next rfl rfl rfl hit hitw (fun hnil => ?_) (fun pq pre post W' hl' hit' hgr hen => ?_))
  · refine eq_mk (Keep.refl _) ?_
    show Exec _ _ (Code.seq (Code.cond _ _ _) _) _ _ _
    refine exec_seq (exec_cond (b := false) rfl (fun h => by cases h) (fun _ => ?_))
    have hr : rem = [] := by simpa [lwV] using hnil
    subst hr
    have : acc = T := by simpa [wsum] using hacc
    subst this
    exact exec_exit ⟨hV, by simp [Slots, Fits]⟩
  · skip
    have hli : it < W.heap.size := by
      obtain ⟨_, _, _, _, _, _, hi, _⟩ := hit
      exact heap_lt hi
    obtain ⟨ob, hob⟩ : ∃ ob, W.heap[it]? = some ob ∧ book ob = false := by
      obtain ⟨_, _, _, _, _, _, hi, _⟩ := hit
      exact ⟨_, hi, rfl⟩
    refine eq_mk ((Keep.refl _).grown hgr fun j o e ho => by cases e; rw [hob.1] at ho; cases ho; exact hob.2) ?_
    show Exec _ _ (Code.seq (Code.cond _ _ _) _) _ _ _
    obtain ⟨pre', post', y, rfl, rfl, rfl, rfl⟩ : ∃ pre' post' y, rem = pre' ++ y :: post' ∧ pre = lwV pre' ∧ post = lwV post' ∧ pq = (y.1, iv y.2) := by
      obtain ⟨a, b, e1, e2, e3⟩ := List.map_eq_append_iff.1 hl'
      obtain ⟨y, b', e4, e5, e6⟩ := List.map_eq_cons_iff.1 e3
      exact ⟨a, b', y, by rw [e1, e4], e2.symm, e6.symm, e5.symm⟩
    clear hl' hob
    obtain ⟨xk, m⟩ := y
    have hlen : (pre' ++ (xk, m) :: post').length = (pre' ++ post').length + 1 := by simp only [List.length_append, List.length_cons]; omega
    have hit2 : IterR encA W' it bw (lwV (pre' ++ post')) := by
      have : lwV (pre' ++ post') = lwV pre' ++ lwV post' := by simp [lwV]
      rw [this]
      exact hit'
    have hs2 := wsum_split (fun _ => 1) pre' post' (xk, m)
    simp only [Nat.one_mul] at hs2
    have hV' : Below V0.heap.size V0 W' := hV.grown hgr hV.size (fun q e => by cases e; exact hVit)
    have hen' : (Instr.entry (.pointer (some ⟨it, 0, none⟩))).run Try.prog W' = .ok (.tuple #[encA xk, iv m]) W' := hen
    have hacc2 : acc + m + wsum (fun _ => 1) (pre' ++ post') = T := by omega
    have HL := Lib.hid hlen
    have HA := Lib.hid hacc2
    have hm : acc + m ≤ T := by omega
    clear hit hgr hit' hV hlen hen hli hs2 hacc hacc2
    clear W
    refine exec_seq (exec_cond (b := true) rfl (fun _ => exec_skip ?_) (fun h => by cases h))
    show Exec _ _ (Code.block _ (Code.seq _ _)) _ _ _
    refine exec_block (exec_seq (exec_region_o fun ds => ?_))
    gi_wp2
    refine eq_mk (Keep.refl _) ?_
    show Exec _ _ (Code.region _ _ _) _ _ _
    clear hen'
    have hwp : IntKind.i64.wrap ((acc : Int) + m) = ((acc + m : Nat) : Int) := by rw [IntWalk.i64_in _ (by omega)]; norm_cast
    refine exec_region_o fun ds => ?_
    gi_wp2
    exact eq_mk (Keep.refl _) ⟨(pre' ++ post').length, by rw [HN.out, HL.out]; omega, pre' ++ post', acc + m, rfl, hV', hit2, HA.out, by simp only [Slots, Fits, and_self]; simp⟩
theorem run_copy6 (W : World) (ty : TypeId) (g n c : Nat) (A : Option Addr) (l : List Nat) (hl : l.length = n) (hn : n ≤ 6) (hg : W.heap[g]? = some (.cells #[iv 0, iv 0, iv 0, iv 0, iv 0, iv 0] 88 (0, 0))) (hsrc : RowV W A (l.map iv)) :
    ∃ W', (Builtin.copy_ #[22, 22] ty #[.slice (some ⟨g, 0, none⟩) 6 6, .slice A n c]).run Try.prog W = .ok (iv n) W' ∧ W'.heap[g]? = some (.cells ((l ++ List.replicate (6 - n) 0).map iv).toArray 88 (0, 0)) ∧ W.grownBy W' (some g) := by
  obtain ⟨i0, hi0, hz, hsz, hby⟩ := info3q
  have hst := run_storeCells_at Try.prog g 0 88 (l.map iv) 0 #[iv 0, iv 0, iv 0, iv 0, iv 0, iv 0] W hg (by simp [hl]; omega) (by intro x hx; obtain ⟨y, _, rfl⟩ := List.mem_map.1 hx; rfl)
  have hcur : (#[iv 0, iv 0, iv 0, iv 0, iv 0, iv 0] : Array Value).toList.drop n = (List.replicate (6 - n) 0).map iv := by
    have : ∀ k, k ≤ 6 → ([iv 0, iv 0, iv 0, iv 0, iv 0, iv 0] : List Value).drop k = (List.replicate (6 - k) 0).map iv := by
      intro k hk
      match k, hk with
      | 0, _ => rfl
      | 1, _ => rfl
      | 2, _ => rfl
      | 3, _ => rfl
      | 4, _ => rfl
      | 5, _ => rfl
      | 6, _ => rfl
    exact this n hn
  simp only [Nat.zero_add, Nat.add_zero, List.take_zero, List.nil_append, List.length_map, hl, hcur] at hst
  rw [← List.map_append] at hst
  refine ⟨W.setRow g ((l ++ List.replicate (6 - n) 0).map iv).toArray, ?_, setRow_heap W g _ _ 88 _ hg, ⟨rfl, rfl, rfl, by simp, fun k _ hk => setRow_other W g k _ (fun e => hk (by rw [e]))⟩⟩
  have hmin : min 6 n = n := by omega
  have hmin2 : n.min 6 = n := by show min n 6 = n; omega
  have hst2 := hst
  simp only [List.map_append, List.map_replicate] at hst2
  cases A with
  | some a =>
    have hlo := run_loadCells_list (P := Try.prog) W a (l.map iv) (fun j v hv => by
      obtain ⟨a', e, hc⟩ := hsrc j v hv
      cases e
      exact hc)
    rw [List.length_map, hl] at hlo
    simp [Builtin.copy_, run_underlying Try.underlying22, Builtin.lenOf, Builtin.firstCells, sizeOf, typeInfo, hi0, hsz, hlo, hst2, goInt, hmin, hmin2]
  | none =>
    have hl0 : l = [] := by
      cases l with
      | nil => rfl
      | cons x r =>
        obtain ⟨a', e, _⟩ := hsrc 0 _ rfl
        cases e
    subst hl0
    have hn0 : n = 0 := by simpa using hl.symm
    subst hn0
    simp at hst
    simp [Builtin.copy_, run_underlying Try.underlying22, Builtin.lenOf, Builtin.firstCells, sizeOf, typeInfo, hi0, hsz, hst, goInt]
end Go.Proofs.Ytbdmmikflkpmpaa
end

section
namespace Go.Proofs.Ytbdmmikflkpmpaa
open Go.RowKit Go.TL Go.Shelf Go.Pn
attribute [local go_sem] Oper.semAt_some
attribute [local go_sem] run_store_func
theorem exec_copy {P : Program} {a : Act} {w w' : World} {v u v' : Value} {o : Oper} (d s : Operand) (t : TypeId) (ho : o.op = .call { callee := .builtin .copy, args := #[d, s], argTypes := #[t, t] }) (hd : a.eval d = v) (hs : a.eval s = u)
    (hr : (Builtin.copy_ #[t, t] o.type #[v, u]).run P w = .ok v' w') : (execOp a.eval o).run P w = .ok (.value v') w' := by
  unfold execOp
  simp only [ho, resolve, invoke, builtin, Sem.run_bind, Sem.run_pure, Result.andThen_ok, List.map_toArray, List.map_cons, List.map_nil, hd, hs, hr]
def padL (l : List Nat) : List Nat := l ++ List.replicate (6 - l.length) 0
def countF (a : XP) : Nat := ways a.L.length (nf (toP a.s3)) (padL a.s3.1)
def countA (a : XP) : Int × Int := if a.isP then ((countF a : Nat), 0) else (0, 1)
set_option maxRecDepth 100000 in
set_option maxHeartbeats 600000 in
theorem Count_any (a : XP) (w : World) (h : a.At w) : Calls Try.prog 17 #[a.val] w fun e w' => e = .returned (.tuple #[vi (countA a).1, vi (countA a).2]) ∧ Below w.heap.size w w' := by
  have hmf : ∀ fn first cap w, (Instr.makeFunc fn first cap).run Try.prog w = .ok (.func fn first cap) w := fun _ _ _ _ => rfl
  have hu25 := Try.underlying25
  obtain ⟨A, hA⟩ : ∃ A, countA a = A := ⟨_, rfl⟩
  rw [hA]
  have HA := Lib.hid hA
  clear hA
  refine (callsIn_wide (n := 0)).1 (callsIn_of_wp_marks Try.func17 rfl trivial ?_)
  simp only [Try.ntmps17, List.size_toArray, List.length_cons, List.length_nil, Nat.reduceAdd, Nat.reduceSub, Array.replicate_succ, Array.replicate_zero, List.push_toArray, List.append_toArray, List.nil_append, List.cons_append]
  simp only [XP.val]
  refine split_rest fun rest hR => ?_
  gi_wp2
  have hB := ((Below.refl w.heap.size w).alloc (Nat.le_refl _) (.cells #[a.sL, a.sN, a.sK] 25)).alloc (by simp) (.cells #[.int .i64 0] 28)
  have b1 : PBx ((w.alloc (.cells #[a.sL, a.sN, a.sK] 25)).alloc (.cells #[.int .i64 0] 28)) w.heap.size a := ⟨heap_next (World.alloc_heap_new _ _) _, h.below hB⟩
  have b3 : Boxed ((w.alloc (.cells #[a.sL, a.sN, a.sK] 25)).alloc (.cells #[.int .i64 0] 28)) (w.heap.size + 1) 28 (.int .i64 0) := by (simp only [Boxed, Box2, heap_alloc_at, heap_set_at, World.size_alloc, World.size_setCell]; repeat (first | rfl | rw [if_pos (by omega)] | rw [if_neg (by omega)]))
  refine guard_rest (lo := w.heap.size) (T := 133) (b := w.heap.size + 1) catches63 ⟨_, _, rfl⟩ (fun W => by simp [go_sem]) hB.size ?_
  subst hR
  generalize (w.alloc (.cells #[a.sL, a.sN, a.sK] 25)).alloc (.cells #[.int .i64 0] 28) = V at *
  clear hmf
  have c0 := cells_get (cs := [_, _, _]) (k := 0) b1.heap rfl
  have c1 := cells_get (cs := [_, _, _]) (k := 1) b1.heap rfl
  have c2 := cells_get (cs := [_, _, _]) (k := 2) b1.heap rfl
  refine exec_seq (exec_region_o fun ds => ?_)
  gi_wp2_with fail
  cases hp : a.isP with
  | false =>
    refine ⟨trivial, rfl, (callsIn_wide.2 (checked_no a V b1.at_ hp)).mono ?_⟩
    rintro e W2 ⟨rfl, hw2⟩
    refine eq_mk (Keep.of_below hw2) (.inr ⟨1, 28, 0, rfl, (hw2.block _ b3.lt).trans b3, ?_⟩)
    rintro W' W'' hG rfl
    have hB2 := hB.trans (hw2.mono hB.size)
    have d3 := hG.boxed (show Boxed W2 (w.heap.size + 1) 28 (.int .i64 0) from (hw2.block _ b3.lt).trans b3)
    exact ⟨_, results_num rfl rfl rfl (boxed_set d3 _), by rw [← HA.out]; simp [countA, hp], (hB2.trans (hG.below (Nat.le_refl _) hB2.size)).setCell (by show w.heap.size ≤ w.heap.size + 1; omega) _⟩
  | true =>
    refine ⟨trivial, rfl, (callsIn_wide.2 (checked_yes a V b1.at_ hp)).mono ?_⟩
    rintro e W2 ⟨rfl, hw2⟩
    have hA : A = (((countF a : Nat) : Int), 0) := by rw [← HA.out]; simp [countA, hp]
    have hf := a.fine hp
    have HA := Lib.hid hA
    clear hp hA
    gi_wp2
    refine eq_mk (Keep.of_below hw2) ?_
    show Exec _ _ _ _ _ _
    have hB2 := hB.trans (hw2.mono hB.size)
    have b2 := b1.keep hw2
    have d3 : Boxed W2 (w.heap.size + 1) 28 (.int .i64 0) := (hw2.block _ b3.lt).trans b3
    clear b1 b3 c0 c1 c2 hB hw2
    clear V
    have c0 := cells_get (cs := [_, _, _]) (k := 0) b2.heap rfl
    have c1 := cells_get (cs := [_, _, _]) (k := 1) b2.heap rfl
    have c2 := cells_get (cs := [_, _, _]) (k := 2) b2.heap rfl
    have hS2 : SpB w a w.heap.size W2 := ⟨b2, d3, hB2⟩
    have h6 := hf.j
    refine exec_seq (exec_region_o fun ds => ?_)
    gi_wp2_with fail
    refine ⟨trivial, rfl, (callsIn_wide.2 (open_plain a hf W2 b2.at_)).mono ?_⟩
    rintro e Y ⟨pp, mm, rfl, hpp, hy, hP⟩
    have hSY := hS2.keep hy
    gi_wp2
    refine eq_mk (Keep.of_below hy) ?_
    show Exec _ _ (Code.seq _ (Code.seq _ _)) _ _ _
    clear c0 c1 c2 b2 d3 hB2 hS2 hy hpp
    refine exec_seq (exec_region_o fun ds => ?_)
    gi_wp2
    refine eq_mk ((Keep.refl _).alloc _) ?_
    show Exec _ _ (Code.seq _ (Code.seq _ _)) _ (Y.alloc (.cells #[iv 0, iv 0, iv 0, iv 0, iv 0, iv 0] 88)) _
    have hal := (Below.refl Y.heap.size Y).alloc (Nat.le_refl _) (.cells #[iv 0, iv 0, iv 0, iv 0, iv 0, iv 0] 88)
    have h5 : (Y.alloc (.cells #[iv 0, iv 0, iv 0, iv 0, iv 0, iv 0] 88)).heap[Y.heap.size]? = some (.cells #[iv 0, iv 0, iv 0, iv 0, iv 0, iv 0] 88 (0, 0)) := World.alloc_heap_new _ _
    have hSX := hSY.keep hal
    have hYe := hSY.e.lt
    clear W2
    generalize Y.alloc (.cells #[iv 0, iv 0, iv 0, iv 0, iv 0, iv 0] 88) = X at *
    have hlen : a.s3.1.length = a.L.length := by simp [XP.s3]
    have hrow : ∀ Z, Below X.heap.size X Z → RowV Z a.AL (a.s3.1.map iv) := fun Z hZ => by
      rw [show a.s3.1.map iv = a.L.map vi from map_iv fun y hy => (hf.lb y hy).1]
      exact (hSX.keep hZ).p.at_.l
    have hu88 := Try.underlying88
    have hu89 := Try.underlying89
    have hu22 := Try.underlying22
    have hd : Below X.heap.size X X.drew := (Below.refl _ X).drew
    have h5d : X.drew.heap[Y.heap.size]? = some (.cells #[iv 0, iv 0, iv 0, iv 0, iv 0, iv 0] 88 (0, 0)) := (hd.block _ (heap_lt h5)).trans h5
    obtain ⟨Z, hcp, hZ5, hZg⟩ := run_copy6 X.drew 3 Y.heap.size a.L.length a.cL a.AL a.s3.1 hlen h6 h5d (hrow _ hd)
    have hpad : a.s3.1 ++ List.replicate (6 - a.L.length) 0 = padL a.s3.1 := by unfold padL; rw [hlen]
    rw [hpad] at hZ5
    have hp6 : (padL a.s3.1).length = 6 := by unfold padL; rw [List.length_append, List.length_replicate, hlen]; omega
    have hpok : ∀ n ∈ padL a.s3.1, n ≤ 1000000 := fun n hn => by
      rcases List.mem_append.1 hn with h | h
      · obtain ⟨y, hy, rfl⟩ := List.mem_map.1 (show n ∈ a.L.map Int.toNat from h)
        have := hf.lb y hy
        omega
      · have := (List.mem_replicate.1 h).2
        omega
    have HF : countF a = ways a.L.length (nf (toP a.s3)) (padL a.s3.1) := rfl
    have HF := Lib.hid HF
    generalize padL a.s3.1 = pl at *
    have hYZ : Below Y.heap.size Y Z := (hal.trans (hd.mono hal.size)).grown hZg (Nat.le_trans hal.size hd.size) (fun q e => by cases e; exact Nat.le_refl _)
    have hSZ := hSY.keep hYZ
    have hPZ := hP.below hYZ
    have hc0X : X.drew.cell? ⟨w.heap.size, 0, none⟩ = some (.slice a.AL a.L.length a.cL) := cells_get (cs := [_, _, _]) ((hSX.keep hd).p.heap) rfl
    have hc0Z : Z.cell? ⟨w.heap.size, 0, none⟩ = some (.slice a.AL a.L.length a.cL) := cells_get (cs := [_, _, _]) hSZ.p.heap rfl
    have hKZ : Keep X Z := (Keep.of_below hd).grown hZg (fun j o hj ho => by cases hj; rw [h5d] at ho; cases ho; rfl)
    have hZl := heap_lt hZ5
    refine exec_seq (region_of_tail 4 (by kernel_rfl) (by kernel_rfl) (by kernel_rfl) (fun V => V.cell? ⟨w.heap.size, 0, none⟩ = some (.slice a.AL a.L.length a.cL)) (fun _ _ _ => False) (fun _ _ _ h => h.elim) fun ds => ?_)
    have hS := hc0X
    refine held_take 0 (.slice (some ⟨Y.heap.size, 0, none⟩) 6 6) rfl (by kernel_rfl) (by kernel_rfl) (by kernel_rfl) (by intro _ _ _ h; first | exact h | (simpa [behind, Act.put] using h)) rfl (by first | exact hS | assumption) (fun wq hq => ?_) ?_; (focus (simp [go_sem, hu88]; done)); simp only [Act.put, Array.getInternal_eq_getElem, List.take_succ_cons, List.take_zero, List.take_nil, List.getElem_toArray, List.getElem_cons_succ, List.getElem_cons_zero, List.setIfInBounds_toArray, List.set_cons_succ, List.set_cons_zero]
    refine held_take 1 (.pointer (some ⟨w.heap.size, 0, none⟩)) rfl (by kernel_rfl) (by kernel_rfl) (by kernel_rfl) (by intro _ _ _ h; first | exact h | (simpa [behind, Act.put] using h)) rfl (by first | exact hS | assumption) (fun wq hq => ?_) ?_; (focus (simp [go_sem, hu25]; done)); simp only [Act.put, Array.getInternal_eq_getElem, List.take_succ_cons, List.take_zero, List.take_nil, List.getElem_toArray, List.getElem_cons_succ, List.getElem_cons_zero, List.setIfInBounds_toArray, List.set_cons_succ, List.set_cons_zero]
    refine held_take 2 (.slice a.AL a.L.length a.cL) rfl (by kernel_rfl) (by kernel_rfl) (by kernel_rfl) (by intro _ _ _ h; first | exact h | (simpa [behind, Act.put] using h)) rfl (by first | exact hS | assumption) (fun wq hq => ?_) ?_; (focus (simp [go_sem, hq]; done)); simp only [Act.put, Array.getInternal_eq_getElem, List.take_succ_cons, List.take_zero, List.take_nil, List.getElem_toArray, List.getElem_cons_succ, List.getElem_cons_zero, List.setIfInBounds_toArray, List.set_cons_succ, List.set_cons_zero]
    refine held_mk 3 (iv a.L.length) Z rfl (by kernel_rfl) rfl ?_ hc0Z ?_
    · exact exec_copy _ _ 22 rfl rfl rfl hcp
    simp only [Act.put, Array.getInternal_eq_getElem, List.take_succ_cons, List.take_zero, List.take_nil, List.getElem_toArray, List.getElem_cons_succ, List.getElem_cons_zero, List.setIfInBounds_toArray, List.set_cons_succ, List.set_cons_zero]
    refine held_done (by kernel_rfl) ?_
    refine any_done (by kernel_rfl) ⟨rfl, hKZ, ?_⟩
    show Exec _ _ (Code.seq _ (Code.seq _ _)) _ _ _
    clear hS hc0X hc0Z hcp hrow hSX hSY hP hd h5d h5 hal hZg hKZ hYZ hpad
    clear X
    generalize hb5 : Y.heap.size = b5 at *
    clear hb5
    clear Y
    obtain ⟨m0, m1, m2, m3, m4, m5, rfl⟩ := six hp6
    have hMn : MapR encA okA (Z.alloc (.map #[] 0)) Z.heap.size [] := MapR.new encA okA Z
    have hal := (Below.refl Z.heap.size Z).alloc (Nat.le_refl _) (.map #[] 0)
    obtain ⟨V, hrun, hMV, hgV⟩ := hMn.update (P := Try.prog) keyA hu89 (x := ⟨[m0, m1, m2, m3, m4, m5], hp6⟩) hpok (iv 1)
    have hrun' : (Instr.mapUpdate 89 (.map (some Z.heap.size)) (.agg #[iv m0, iv m1, iv m2, iv m3, iv m4, iv m5]) (.int .i64 1)).run Try.prog (Z.alloc (.map #[] 0)) = .ok () V := hrun
    clear hrun
    obtain ⟨e0, e1, e2, e3, e4, e5⟩ := six_get ((hal.block _ hZl).trans hZ5)
    have hVB : Below Z.heap.size Z V := hal.grown hgV hal.size (fun q e => by cases e; exact Nat.le_refl _)
    have hKV : Keep Z V := ((Keep.refl Z).alloc _).grown hgV (map_book hMn)
    have hmm := @run_makeMap Try.prog
    refine exec_seq (exec_region_o fun ds => ?_)
    gi_wp2
    clear hmm hrun' e0 e1 e2 e3 e4 e5
    refine eq_mk hKV ?_
    have hSV := hSZ.keep hVB
    have hPV := hPZ.below hVB
    have hlw : (put [] (⟨[m0, m1, m2, m3, m4, m5], hp6⟩ : A6) (iv 1)) = lwV [(⟨[m0, m1, m2, m3, m4, m5], hp6⟩, 1)] := rfl
    rw [hlw] at hMV
    clear hMn hal hgV hSZ hPZ hVB hKV hZ5 hZl
    generalize Z.heap.size = bw at *
    clear Z
    show Exec _ _ (Code.seq (sub ccode [1, 1, 1, 1, 1, 1, 1, 0]) (Code.seq (sub ccode [1, 1, 1, 1, 1, 1, 1, 1, 0]) _)) _ _ _
    refine exec_seq ((cnt_plots (bw := bw) (pp := pp) hf hSV hPV hMV (by simp [wsum]) (by simp [Slots, Fits])).mono ?_)
    intro e t Z hh
    obtain ⟨rfl, hE⟩ := only_normal hh
    clear hh
    have hT : wsum (fun y => ways a.L.length (nf (toP a.s3)) y.1) [((⟨[m0, m1, m2, m3, m4, m5], hp6⟩ : A6), 1)] = countF a := by
      rw [HF.out]
      simp [wsum]
    rw [hT] at hE
    refine exec_seq ((cnt_sum hE).mono ?_)
    clear hE
    intro e t Z hh
    obtain ⟨rfl, hZB, hSl⟩ := only_normal hh
    clear hh
    have hSZ : SpB w a w.heap.size Z := ⟨⟨(hZB.block _ (heap_lt hSV.p.heap)).trans hSV.p.heap, hSV.p.at_.below hZB⟩, (hZB.block _ hSV.e.lt).trans hSV.e, hSV.below.trans (hZB.mono hSV.below.size)⟩
    clear hSV hPV hMV hZB
    obtain ⟨x, hx⟩ := Slots.open_ hSl; simp only [fill, Nat.reduceAdd] at hx; subst hx; clear hSl
    have e1 := hSZ.e.cell
    have e2 := hSZ.e.frozen
    show Exec _ _ (Code.seq _ _) _ _ _
    obtain ⟨T, hTe⟩ : ∃ T, countF a = T := ⟨_, rfl⟩
    rw [hTe] at HA
    simp only [hTe]
    refine exec_seq (exec_region_o fun ds => ?_)
    gi_wp2
    refine eq_mk ((Keep.refl _).setCell _ _) ?_
    show Exec _ _ _ _ _ _
    have g7 := boxed_set hSZ.e (.int .i64 0)
    have hB5 : Below w.heap.size w (Z.setCell ⟨w.heap.size + 1, 0, none⟩ (.int .i64 0)) := hSZ.below.setCell (by show w.heap.size ≤ w.heap.size + 1; omega) _
    exact exec_ret (.inl ⟨.inr rfl, g7.lt, fun W' hG => ⟨_, results_num rfl rfl rfl (hG.boxed g7), by rw [HA.out], hB5.trans (hG.below (Nat.le_refl _) hB5.size)⟩⟩)
end Go.Proofs.Ytbdmmikflkpmpaa
end

section
namespace Go.Proofs.Ytbdmmikflkpmpaa
open Go.RowKit Go.TL Go.Shelf Go.Pn
attribute [local go_sem] Oper.semAt_some
attribute [local go_sem] run_store_func
theorem row_int {W : World} {A : Option Addr} {l : List Int} (h : RowV W A (l.map vi)) {i : Nat} (hi : i < l.length) : ∃ ad, A = some ad ∧ W.cell? (ad.add i) = some (vi (l[i])) :=
  h i _ (by rw [List.getElem?_map, List.getElem?_eq_getElem hi]; rfl)
def InI (w : World) (A B : Option Addr) (c d : Nat) (l m : List Int) (n : Nat) (t : Array Value) (W : World) : Prop :=
  ∃ k : Nat, k ≤ l.length ∧ n = l.length - k ∧ l.take k = m.take k ∧ Below w.heap.size w W ∧ Slots (some (.slice A l.length c) :: some (.slice B m.length d) :: none :: none :: none :: some (iv k) :: o4 (o16 [])) t
set_option maxRecDepth 100000 in
set_option maxHeartbeats 1000000 in
theorem ints21 (A B : Option Addr) (c d : Nat) (l m : List Int) (hl : l.length ≤ 1000000) (hm : m.length ≤ 1000000) (w : World) (hA : RowV w A (l.map vi)) (hB : RowV w B (m.map vi)) : Calls Try.prog 21 #[.slice A l.length c, .slice B m.length d] w fun e w' => e = .returned (.bool (decide (l = m))) ∧ Below w.heap.size w w' := by
  have hu22 := Try.underlying22
  obtain ⟨R, hR⟩ : ∃ R, decide (l = m) = R := ⟨_, rfl⟩
  rw [hR]
  have HR := Lib.hid hR
  clear hR
  refine calls_of_exec Try.func21 rfl ?_
  simp only [Try.ntmps21, List.size_toArray, List.length_cons, List.length_nil, Nat.reduceAdd, Nat.reduceSub, Array.replicate_succ, Array.replicate_zero, List.push_toArray, List.append_toArray, List.nil_append, List.cons_append]
  refine exec_seq (exec_region_o fun ds => ?_)
  gi_wp2
  refine eq_mk (Keep.refl _) ?_
  show Exec _ _ (Code.seq (Code.seq _ _) _) _ _ _
  refine exec_seq (exec_seq (exec_region_o fun ds => ?_))
  gi_wp2
  refine eq_mk (Keep.refl _) ?_
  show Exec _ _ (Code.cond _ _ _) _ _ _
  by_cases hlm : l.length = m.length
  · refine exec_cond (b := false) (by first | rfl | (show Value.bool (decide _) = _; simp [hlm]; done) | (show Value.bool (!decide _) = _; simp [hlm]; done)) (fun h => by cases h) (fun _ => exec_skip ?_)
    show Exec _ _ (Code.seq (Code.seq _ _) _) _ _ _
    refine exec_seq (exec_seq (exec_region_o fun ds => ?_))
    gi_wp2
    refine eq_mk (Keep.refl _) ?_
    show Exec _ _ (Code.block _ _) _ _ _
    refine exec_block ?_
    refine exec_loop (InI w A B c d l m) l.length ⟨0, by omega, rfl, rfl, Below.refl _ _, by simp [Slots, Fits, hlm]⟩ ?_
    rintro n t W ⟨k, hk, hn, htk, hV, hSl⟩
    have HT := Lib.hid htk
    clear htk
    have HL := Lib.hid hlm
    clear hlm
    obtain ⟨x, hx⟩ := Slots.open_ hSl; simp only [fill, Nat.reduceAdd] at hx; subst hx; clear hSl
    show Exec _ _ (Code.seq (Code.seq _ _) _) _ _ _
    refine exec_seq (exec_seq (exec_region_o fun ds => ?_))
    gi_wp2
    refine eq_mk (Keep.refl _) ?_
    show Exec _ _ (Code.cond _ _ _) _ _ _
    refine (exec_cond (b := decide (k < l.length)) (by first | rfl | (show Value.bool _ = _; congr 1; exact decide_eq_decide.2 (by omega))) (fun hp => exec_skip ?_) (fun hp => exec_exit ?_))
    · have hkl : k < l.length := by have := of_decide_eq_true hp; omega
      have hkm : k < m.length := by have := HL.out; omega
      show Exec _ _ (Code.seq (Code.block _ _) _) _ _ _
      obtain ⟨a1, e1, h1⟩ := row_int (hA.below hV) hkl
      obtain ⟨a2, e2, h2⟩ := row_int (hB.below hV) hkm
      obtain ⟨y1, hy1⟩ : ∃ y, l[k] = y := ⟨_, rfl⟩
      obtain ⟨y2, hy2⟩ : ∃ y, m[k] = y := ⟨_, rfl⟩
      rw [hy1] at h1
      rw [hy2] at h2
      have HY : y1 = y2 → l.take (k + 1) = m.take (k + 1) := fun e => by
        rw [List.take_succ_eq_append_getElem hkl, List.take_succ_eq_append_getElem hkm, HT.out, hy1, hy2, e]
      have HN : y1 ≠ y2 → l ≠ m := fun e c => e (by rw [← hy1, ← hy2]; simp only [c])
      have HY := Lib.hid HY
      have HN := Lib.hid HN
      clear hy1 hy2
      have hkI : (k : Int) < l.length := by omega
      have hkJ : (k : Int) < m.length := by omega
      simp only [e1, e2]
      have E1 := Lib.hid e1
      have E2 := Lib.hid e2
      clear e1 e2
      refine exec_cut (fun t' Y => y1 = y2 ∧ Below w.heap.size w Y ∧ Slots (some (.slice A l.length c) :: some (.slice B m.length d) :: none :: none :: none :: some (iv k) :: o4 (o16 [])) t') (exec_block ?_) ?_
      · have hd : Below W.heap.size W W.drew := (Below.refl _ W).drew
        show Exec _ _ (Code.seq _ _) _ _ _
        refine exec_seq (region_of_tail 9 (by kernel_rfl) (by kernel_rfl) (by kernel_rfl) (fun Y => Y.cell? (a1.add k) = some (vi y1) ∧ Y.cell? (a2.add k) = some (vi y2)) (fun _ _ _ => False) (fun _ _ _ h => h.elim) fun ds => ?_)
        have hS : W.drew.cell? (a1.add k) = some (vi y1) ∧ W.drew.cell? (a2.add k) = some (vi y2) := ⟨(Grow.of_below (B := 0) hd).cell h1, (Grow.of_below (B := 0) hd).cell h2⟩
        refine held_take 0 (.slice (some a1) l.length c) rfl (by kernel_rfl) (by kernel_rfl) (by kernel_rfl) (by intro _ _ _ h; first | exact h | (simpa [behind, Act.put] using h)) rfl (by first | exact hS | assumption) (fun wq hq => ?_) ?_; (focus (first | rfl | (simp [go_sem]; done))); simp only [Act.put, Array.getInternal_eq_getElem, List.take_succ_cons, List.take_zero, List.take_nil, List.getElem_toArray, List.getElem_cons_succ, List.getElem_cons_zero, List.setIfInBounds_toArray, List.set_cons_succ, List.set_cons_zero]
        refine held_take 1 (iv k) rfl (by kernel_rfl) (by kernel_rfl) (by kernel_rfl) (by intro _ _ _ h; first | exact h | (simpa [behind, Act.put] using h)) rfl (by first | exact hS | assumption) (fun wq hq => ?_) ?_; (focus (first | rfl | (simp [go_sem]; done))); simp only [Act.put, Array.getInternal_eq_getElem, List.take_succ_cons, List.take_zero, List.take_nil, List.getElem_toArray, List.getElem_cons_succ, List.getElem_cons_zero, List.setIfInBounds_toArray, List.set_cons_succ, List.set_cons_zero]
        refine held_take 2 (.pointer (some (a1.add k))) rfl (by kernel_rfl) (by kernel_rfl) (by kernel_rfl) (by intro _ _ _ h; first | exact h | (simpa [behind, Act.put] using h)) rfl (by first | exact hS | assumption) (fun wq hq => ?_) ?_; (focus (simp [go_sem, hu22, hkI]; done)); simp only [Act.put, Array.getInternal_eq_getElem, List.take_succ_cons, List.take_zero, List.take_nil, List.getElem_toArray, List.getElem_cons_succ, List.getElem_cons_zero, List.setIfInBounds_toArray, List.set_cons_succ, List.set_cons_zero]
        refine held_take 3 (vi y1) rfl (by kernel_rfl) (by kernel_rfl) (by kernel_rfl) (by intro _ _ _ h; first | exact h | (simpa [behind, Act.put] using h)) rfl (by first | exact hS | assumption) (fun wq hq => ?_) ?_; (focus (simp [go_sem, hq.1]; done)); simp only [Act.put, Array.getInternal_eq_getElem, List.take_succ_cons, List.take_zero, List.take_nil, List.getElem_toArray, List.getElem_cons_succ, List.getElem_cons_zero, List.setIfInBounds_toArray, List.set_cons_succ, List.set_cons_zero]
        refine held_take 4 (.slice (some a2) m.length d) rfl (by kernel_rfl) (by kernel_rfl) (by kernel_rfl) (by intro _ _ _ h; first | exact h | (simpa [behind, Act.put] using h)) rfl (by first | exact hS | assumption) (fun wq hq => ?_) ?_; (focus (first | rfl | (simp [go_sem]; done))); simp only [Act.put, Array.getInternal_eq_getElem, List.take_succ_cons, List.take_zero, List.take_nil, List.getElem_toArray, List.getElem_cons_succ, List.getElem_cons_zero, List.setIfInBounds_toArray, List.set_cons_succ, List.set_cons_zero]
        refine held_take 5 (iv k) rfl (by kernel_rfl) (by kernel_rfl) (by kernel_rfl) (by intro _ _ _ h; first | exact h | (simpa [behind, Act.put] using h)) rfl (by first | exact hS | assumption) (fun wq hq => ?_) ?_; (focus (first | rfl | (simp [go_sem]; done))); simp only [Act.put, Array.getInternal_eq_getElem, List.take_succ_cons, List.take_zero, List.take_nil, List.getElem_toArray, List.getElem_cons_succ, List.getElem_cons_zero, List.setIfInBounds_toArray, List.set_cons_succ, List.set_cons_zero]
        refine held_take 6 (.pointer (some (a2.add k))) rfl (by kernel_rfl) (by kernel_rfl) (by kernel_rfl) (by intro _ _ _ h; first | exact h | (simpa [behind, Act.put] using h)) rfl (by first | exact hS | assumption) (fun wq hq => ?_) ?_; (focus (simp [go_sem, hu22, hkJ]; done)); simp only [Act.put, Array.getInternal_eq_getElem, List.take_succ_cons, List.take_zero, List.take_nil, List.getElem_toArray, List.getElem_cons_succ, List.getElem_cons_zero, List.setIfInBounds_toArray, List.set_cons_succ, List.set_cons_zero]
        refine held_take 7 (vi y2) rfl (by kernel_rfl) (by kernel_rfl) (by kernel_rfl) (by intro _ _ _ h; first | exact h | (simpa [behind, Act.put] using h)) rfl (by first | exact hS | assumption) (fun wq hq => ?_) ?_; (focus (simp [go_sem, hq.2]; done)); simp only [Act.put, Array.getInternal_eq_getElem, List.take_succ_cons, List.take_zero, List.take_nil, List.getElem_toArray, List.getElem_cons_succ, List.getElem_cons_zero, List.setIfInBounds_toArray, List.set_cons_succ, List.set_cons_zero]
        refine held_take 8 (.bool (y1 != y2)) rfl (by kernel_rfl) (by kernel_rfl) (by kernel_rfl) (by intro _ _ _ h; first | exact h | (simpa [behind, Act.put] using h)) rfl (by first | exact hS | assumption) (fun wq hq => ?_) ?_; (focus (simp [go_sem]; done)); simp only [Act.put, Array.getInternal_eq_getElem, List.take_succ_cons, List.take_zero, List.take_nil, List.getElem_toArray, List.getElem_cons_succ, List.getElem_cons_zero, List.setIfInBounds_toArray, List.set_cons_succ, List.set_cons_zero]
        refine held_done (by kernel_rfl) ?_
        refine any_done (by kernel_rfl) ⟨rfl, Keep.of_below hd, ?_⟩
        show Exec _ _ (Code.cond _ _ _) _ _ _
        have hBd := hV.trans (hd.mono hV.size)
        by_cases hy : y1 = y2
        · refine exec_cond (b := false) (by show Value.bool (y1 != y2) = _; simp [hy]) (fun h => by cases h) (fun _ => exec_skip ?_)
          exact ⟨hy, hBd, by simp [Slots, Fits, E1.out, E2.out]⟩
        · refine exec_cond (b := true) (by show Value.bool (y1 != y2) = _; simp [hy]) (fun _ => ?_) (fun h => by cases h)
          refine exec_seq (exec_region_o fun ds => ?_)
          gi_wp2
          refine eq_mk (Keep.refl _) ?_
          show Exec _ _ _ _ _ _
          refine exec_ret ⟨.inr rfl, fun W' hG => ⟨.bool false, by simp [results, Try.f21, go_sem], ?_, hBd.trans (hG.below (Nat.le_refl _) hBd.size)⟩⟩
          rw [← HR.out, decide_eq_false (HN.out hy)]
      · clear hV h1 h2 x
        clear W
        rintro t' Y ⟨hy, hV, hSl⟩
        have hT2 := HY.out hy
        have HT2 := Lib.hid hT2
        clear hT2 hy
        obtain ⟨x, hx⟩ := Slots.open_ hSl; simp only [fill, Nat.reduceAdd] at hx; subst hx; clear hSl
        have hw : IntKind.i64.wrap ((k : Int) + 1) = ((k + 1 : Nat) : Int) := by rw [IntWalk.i64_in _ (by omega)]; norm_cast
        refine exec_region_o fun ds => ?_
        gi_wp2
        exact eq_mk (Keep.refl _) ⟨n - 1, by omega, k + 1, by omega, by omega, HT2.out, hV, by simp only [Slots, Fits, and_self]; simp [E1.out, E2.out]⟩
    · have hkl : k = l.length := by have := of_decide_eq_false hp; omega
      have htk := HT.out
      rw [hkl, List.take_length, List.take_of_length_le (by have := HL.out; omega)] at htk
      have hr : R = true := by rw [← HR.out]; exact decide_eq_true htk
      subst hr
      show Exec _ _ (Code.seq _ _) _ _ _
      refine exec_seq (exec_region_o fun ds => ?_)
      gi_wp2
      refine eq_mk (Keep.refl _) ?_
      show Exec _ _ _ _ _ _
      exact exec_ret ⟨.inr rfl, fun W' hG => ⟨.bool true, by simp [results, Try.f21, go_sem], rfl, hV.trans (hG.below (Nat.le_refl _) hV.size)⟩⟩
  · have hlI : ¬ ((l.length : Int) = m.length) := by omega
    refine exec_cond (b := true) (by first | rfl | (show Value.bool (decide _) = _; simp [hlI]; done) | (show Value.bool (!decide _) = _; simp [hlI]; done)) (fun _ => ?_) (fun h => by cases h)
    refine exec_seq (exec_region_o fun ds => ?_)
    gi_wp2
    refine eq_mk (Keep.refl _) ?_
    show Exec _ _ _ _ _ _
    refine exec_ret ⟨.inr rfl, fun W' hG => ⟨.bool false, by simp [results, Try.f21, go_sem], ?_, hG.below (Nat.le_refl _) (Nat.le_refl _)⟩⟩
    rw [← HR.out, decide_eq_false (fun c => hlm (by rw [c]))]
end Go.Proofs.Ytbdmmikflkpmpaa
end

section
namespace Go.Proofs.Ytbdmmikflkpmpaa
open Go.RowKit Go.TL Go.Shelf Go.Pn
attribute [local go_sem] Oper.semAt_some
attribute [local go_sem] run_store_func
def smK (b : Bool) : List (Int × Int) := if b then [(0, 2), (2, 1), (0, 1)] else [(0, 2), (2, 1)]
def SmX (b : Bool) (a : XP) : Prop := a.L = [2, 2, 1] ∧ a.N = [2, 1, 2] ∧ a.K = smK b
def smN (b : Bool) : List (Nat × Nat) := if b then [(0, 2), (2, 1), (0, 1)] else [(0, 2), (2, 1)]
theorem rowKI_of {W : World} {A : Option Addr} {K : List (Nat × Nat)} (h : RowK W A K) : RowKI W A (K.map fun k => ((k.1 : Int), (k.2 : Int))) := by
  intro i k hk
  rw [List.getElem?_map] at hk
  obtain ⟨y, hy, rfl⟩ := Option.map_eq_some_iff.1 hk
  exact h i y hy
theorem smN_K (b : Bool) : (smN b).map (fun k => ((k.1 : Int), (k.2 : Int))) = smK b := by cases b <;> rfl
structure SmW (w : World) (q : Nat) (A : Option Addr) (c : Nat) (K : List (Nat × Nat)) (X : World) : Prop where
  h0 : X.heap[q]? = some (.cells #[.slice none 0 0, .slice none 0 0, .slice none 0 0] 25 (0, 0))
  h1 : X.heap[q + 1]? = some (.cells #[vi 2, vi 2, vi 1] 3 (0, 0))
  h2 : X.heap[q + 1 + 1]? = some (.cells #[vi 2, vi 1, vi 2] 3 (0, 0))
  h4 : X.heap[q + 1 + 1 + 1 + 1]? = some (.cells #[.slice (some ⟨q + 1, 0, none⟩) 3 3, .slice (some ⟨q + 1 + 1, 0, none⟩) 3 3, .slice A K.length c] 25 (0, 0))
  rk : RowK X A K
  ra : ∀ ad, A = some ad → q < ad.block
  below : Below w.heap.size w X
theorem row3 {W : World} {q : Nat} {a b c : Int} (h : W.heap[q]? = some (.cells #[vi a, vi b, vi c] 3 (0, 0))) : RowV W (some ⟨q, 0, none⟩) ([a, b, c].map vi) := row_of_cells (vs := [vi a, vi b, vi c]) h
set_option maxRecDepth 100000 in
set_option maxHeartbeats 1000000 in
theorem sm_end {w : World} {b : Bool} {A : Option Addr} {c : Nat} {X : World} (h : SmW w w.heap.size A c (smN b) X) (t : Array Value) (hSl : Slots (none :: none :: some (.pointer (some ⟨w.heap.size, 0, none⟩)) :: some (.pointer (some ⟨w.heap.size + 1 + 1 + 1 + 1, 0, none⟩)) :: none :: none :: o4 (o4 (o4 []))) t) :
    Exec Try.prog none (sub (Try.f46.body.getD .skip) [1, 1, 1]) t X fun e t W => (e = .normal ∨ e = .ret) ∧ ∀ W', Grow w.heap.size W W' → ∃ v, (results Try.f46 t).run Try.prog W' = .ok v W' ∧ ∃ a : XP, Ending.returned v = .returned a.val ∧ SmX b a ∧ a.At W' ∧ Below w.heap.size w W' := by
  have hu25 := Try.underlying25
  obtain ⟨x, hx⟩ := Slots.open_ hSl; simp only [fill, Nat.reduceAdd] at hx; subst hx; clear hSl
  have c0 := cells_get (cs := [_, _, _]) (k := 0) h.h4 rfl
  have c1 := cells_get (cs := [_, _, _]) (k := 1) h.h4 rfl
  have c2 := cells_get (cs := [_, _, _]) (k := 2) h.h4 rfl
  have d0 := cells_get (cs := [_, _, _]) (k := 0) h.h0 rfl
  have d1 := cells_get (cs := [_, _, _]) (k := 1) h.h0 rfl
  have d2 := cells_get (cs := [_, _, _]) (k := 2) h.h0 rfl
  have df : ∀ o, X.frozen? ⟨w.heap.size, o, none⟩ = false := fun o => frozen_cells h.h0
  have hlen : (smN b).length ≤ 3 := by cases b <;> decide
  have e0 := box_set _ w.heap.size 0 [.slice none 0 0, .slice none 0 0, .slice none 0 0] 25 (.slice (some ⟨w.heap.size + 1, 0, none⟩) 3 3) h.h0
  have e1 := box_set _ w.heap.size 1 [.slice (some ⟨w.heap.size + 1, 0, none⟩) 3 3, .slice none 0 0, .slice none 0 0] 25 (.slice (some ⟨w.heap.size + 1 + 1, 0, none⟩) 3 3) e0
  have e2 := box_set _ w.heap.size 2 [.slice (some ⟨w.heap.size + 1, 0, none⟩) 3 3, .slice (some ⟨w.heap.size + 1 + 1, 0, none⟩) 3 3, .slice none 0 0] 25 (.slice A (smN b).length c) e1
  have hB := ((h.below.setCell (p := ⟨w.heap.size, 0, none⟩) (Nat.le_refl _) (.slice (some ⟨w.heap.size + 1, 0, none⟩) 3 3)).setCell (p := ⟨w.heap.size, 1, none⟩) (Nat.le_refl _) (.slice (some ⟨w.heap.size + 1 + 1, 0, none⟩) 3 3)).setCell (p := ⟨w.heap.size, 2, none⟩) (Nat.le_refl _) (.slice A (smN b).length c)
  have far : ∀ k o, k ≠ w.heap.size → X.heap[k]? = some o → (((X.setCell ⟨w.heap.size, 0, none⟩ (.slice (some ⟨w.heap.size + 1, 0, none⟩) 3 3)).setCell ⟨w.heap.size, 1, none⟩ (.slice (some ⟨w.heap.size + 1 + 1, 0, none⟩) 3 3)).setCell ⟨w.heap.size, 2, none⟩ (.slice A (smN b).length c)).heap[k]? = some o := fun k o hk ho => box_far _ _ _ _ _ _ (box_far _ _ _ _ _ _ (box_far _ _ _ _ _ _ ho hk) hk) hk
  have f1 := far _ _ (by omega) h.h1
  have f2 := far _ _ (by omega) h.h2
  have fk : RowK (((X.setCell ⟨w.heap.size, 0, none⟩ (.slice (some ⟨w.heap.size + 1, 0, none⟩) 3 3)).setCell ⟨w.heap.size, 1, none⟩ (.slice (some ⟨w.heap.size + 1 + 1, 0, none⟩) 3 3)).setCell ⟨w.heap.size, 2, none⟩ (.slice A (smN b).length c)) A (smN b) :=
    ((h.rk.far (fun _ ad e => by have := h.ra ad e; omega) _).far (fun _ ad e => by have := h.ra ad e; omega) _).far (fun _ ad e => by have := h.ra ad e; omega) _
  show Exec _ _ (Code.seq _ _) _ _ _
  refine exec_seq (exec_region_o fun ds => ?_)
  gi_wp2
  refine eq_mk ((((Keep.refl _).setCell _ _).setCell _ _).setCell _ _) ?_
  show Exec _ _ _ _ _ _
  refine exec_ret ⟨.inr rfl, fun W' hG => ?_⟩
  have g2 := hG.same _ _ e2 (.inr rfl)
  have k0 := cells_get (cs := [_, _, _]) (k := 0) g2 rfl
  have k1 := cells_get (cs := [_, _, _]) (k := 1) g2 rfl
  have k2 := cells_get (cs := [_, _, _]) (k := 2) g2 rfl
  refine ⟨.agg #[.slice (some ⟨w.heap.size + 1, 0, none⟩) 3 3, .slice (some ⟨w.heap.size + 1 + 1, 0, none⟩) 3 3, .slice A (smN b).length c], by simp [results, Try.f46, go_sem, hu25, k0, k1, k2], ⟨some ⟨w.heap.size + 1, 0, none⟩, 3, [2, 2, 1], some ⟨w.heap.size + 1 + 1, 0, none⟩, 3, [2, 1, 2], A, c, smK b⟩, ?_, ⟨rfl, rfl, rfl⟩, ⟨row3 (hG.same _ _ f1 (.inr rfl)), row3 (hG.same _ _ f2 (.inr rfl)), ?_, by simp, by simp, ?_⟩, hB.trans (hG.below (Nat.le_refl _) hB.size)⟩
  · simp only [XP.val, XP.sL, XP.sN, XP.sK]
    rw [← smN_K, List.length_map]
    rfl
  · rw [← smN_K]
    exact rowKI_of (fk.grow hG)
  · rw [← smN_K, List.length_map]
    omega
set_option maxRecDepth 100000 in
set_option maxHeartbeats 1000000 in
theorem sample46 (b : Bool) (w : World) : Calls Try.prog 46 #[.bool b] w fun e w' => ∃ a : XP, e = .returned a.val ∧ SmX b a ∧ a.At w' ∧ Below w.heap.size w w' := by
  have hu25 := Try.underlying25
  have hu22 := Try.underlying22
  have hu23 := Try.underlying23
  have hu50 := Try.underlying50
  refine calls_of_exec Try.func46 rfl ?_
  simp only [Try.ntmps46, List.size_toArray, List.length_cons, List.length_nil, Nat.reduceAdd, Nat.reduceSub, Array.replicate_succ, Array.replicate_zero, List.push_toArray, List.append_toArray, List.nil_append, List.cons_append]
  refine exec_seq (exec_region_o fun ds => ?_)
  gi_wp2
  refine eq_mk ((Keep.refl _).alloc _) ?_
  show Exec _ _ (Code.seq _ _) _ _ _
  refine exec_seq (exec_region_o fun ds => ?_)
  gi_wp2
  refine eq_mk (((((Keep.refl _).alloc _).alloc _).alloc _).alloc _) ?_
  show Exec _ _ (Code.seq (Code.seq _ _) _) _ (((((w.alloc (.cells #[.slice none 0 0, .slice none 0 0, .slice none 0 0] 25)).alloc (.cells #[vi 2, vi 2, vi 1] 3)).alloc (.cells #[vi 2, vi 1, vi 2] 3)).alloc (.cells #[iv 0, iv 2, iv 2, iv 1] 50)).alloc (.cells #[.slice (some ⟨w.heap.size + 1, 0, none⟩) 3 3, .slice (some ⟨w.heap.size + 1 + 1, 0, none⟩) 3 3, .slice (some ⟨w.heap.size + 1 + 1 + 1, 0, none⟩) 2 2] 25)) _
  have hB : Below w.heap.size w (((((w.alloc (.cells #[.slice none 0 0, .slice none 0 0, .slice none 0 0] 25)).alloc (.cells #[vi 2, vi 2, vi 1] 3)).alloc (.cells #[vi 2, vi 1, vi 2] 3)).alloc (.cells #[iv 0, iv 2, iv 2, iv 1] 50)).alloc (.cells #[.slice (some ⟨w.heap.size + 1, 0, none⟩) 3 3, .slice (some ⟨w.heap.size + 1 + 1, 0, none⟩) 3 3, .slice (some ⟨w.heap.size + 1 + 1 + 1, 0, none⟩) 2 2] 25)) := (((((Below.refl _ w).alloc (Nat.le_refl _) _).alloc (by simp) _).alloc (by simp; omega) _).alloc (by simp; omega) _).alloc (by simp; omega) _
  have o3 : (((((w.alloc (.cells #[.slice none 0 0, .slice none 0 0, .slice none 0 0] 25)).alloc (.cells #[vi 2, vi 2, vi 1] 3)).alloc (.cells #[vi 2, vi 1, vi 2] 3)).alloc (.cells #[iv 0, iv 2, iv 2, iv 1] 50)).alloc (.cells #[.slice (some ⟨w.heap.size + 1, 0, none⟩) 3 3, .slice (some ⟨w.heap.size + 1 + 1, 0, none⟩) 3 3, .slice (some ⟨w.heap.size + 1 + 1 + 1, 0, none⟩) 2 2] 25)).ownsRow (w.heap.size + 1) 50 2 (.slice (some ⟨w.heap.size + 1 + 1 + 1, 0, none⟩) 2 2) 2 (flatV (smN false)) := by
    have h := World.ownsRow_lit (base := w.heap.size + 1) (e := 50) (size := 2) (((w.alloc (.cells #[.slice none 0 0, .slice none 0 0, .slice none 0 0] 25)).alloc (.cells #[vi 2, vi 2, vi 1] 3)).alloc (.cells #[vi 2, vi 1, vi 2] 3)) #[iv 0, iv 2, iv 2, iv 1] 2 (by simp) (by unfold maxLen; omega) rfl
    simp only [World.size_alloc] at h
    exact h.alloc _
  have g0 : (((((w.alloc (.cells #[.slice none 0 0, .slice none 0 0, .slice none 0 0] 25)).alloc (.cells #[vi 2, vi 2, vi 1] 3)).alloc (.cells #[vi 2, vi 1, vi 2] 3)).alloc (.cells #[iv 0, iv 2, iv 2, iv 1] 50)).alloc (.cells #[.slice (some ⟨w.heap.size + 1, 0, none⟩) 3 3, .slice (some ⟨w.heap.size + 1 + 1, 0, none⟩) 3 3, .slice (some ⟨w.heap.size + 1 + 1 + 1, 0, none⟩) 2 2] 25)).heap[w.heap.size]? = some (.cells #[.slice none 0 0, .slice none 0 0, .slice none 0 0] 25 (0, 0)) := heap_next (heap_next (heap_next (heap_next (World.alloc_heap_new _ _) _) _) _) _
  have g1 : (((((w.alloc (.cells #[.slice none 0 0, .slice none 0 0, .slice none 0 0] 25)).alloc (.cells #[vi 2, vi 2, vi 1] 3)).alloc (.cells #[vi 2, vi 1, vi 2] 3)).alloc (.cells #[iv 0, iv 2, iv 2, iv 1] 50)).alloc (.cells #[.slice (some ⟨w.heap.size + 1, 0, none⟩) 3 3, .slice (some ⟨w.heap.size + 1 + 1, 0, none⟩) 3 3, .slice (some ⟨w.heap.size + 1 + 1 + 1, 0, none⟩) 2 2] 25)).heap[w.heap.size + 1]? = some (.cells #[vi 2, vi 2, vi 1] 3 (0, 0)) := by
    have := World.alloc_heap_new (w.alloc (.cells #[.slice none 0 0, .slice none 0 0, .slice none 0 0] 25)) (.cells #[vi 2, vi 2, vi 1] 3)
    simp only [World.size_alloc] at this
    exact heap_next (heap_next (heap_next this _) _) _
  have g2 : (((((w.alloc (.cells #[.slice none 0 0, .slice none 0 0, .slice none 0 0] 25)).alloc (.cells #[vi 2, vi 2, vi 1] 3)).alloc (.cells #[vi 2, vi 1, vi 2] 3)).alloc (.cells #[iv 0, iv 2, iv 2, iv 1] 50)).alloc (.cells #[.slice (some ⟨w.heap.size + 1, 0, none⟩) 3 3, .slice (some ⟨w.heap.size + 1 + 1, 0, none⟩) 3 3, .slice (some ⟨w.heap.size + 1 + 1 + 1, 0, none⟩) 2 2] 25)).heap[w.heap.size + 1 + 1]? = some (.cells #[vi 2, vi 1, vi 2] 3 (0, 0)) := by
    have := World.alloc_heap_new ((w.alloc (.cells #[.slice none 0 0, .slice none 0 0, .slice none 0 0] 25)).alloc (.cells #[vi 2, vi 2, vi 1] 3)) (.cells #[vi 2, vi 1, vi 2] 3)
    simp only [World.size_alloc] at this
    exact heap_next (heap_next this _) _
  have g4 := World.alloc_heap_new ((((w.alloc (.cells #[.slice none 0 0, .slice none 0 0, .slice none 0 0] 25)).alloc (.cells #[vi 2, vi 2, vi 1] 3)).alloc (.cells #[vi 2, vi 1, vi 2] 3)).alloc (.cells #[iv 0, iv 2, iv 2, iv 1] 50)) (.cells #[.slice (some ⟨w.heap.size + 1, 0, none⟩) 3 3, .slice (some ⟨w.heap.size + 1 + 1, 0, none⟩) 3 3, .slice (some ⟨w.heap.size + 1 + 1 + 1, 0, none⟩) 2 2] 25)
  simp only [World.size_alloc] at g4
  generalize ((((w.alloc (.cells #[.slice none 0 0, .slice none 0 0, .slice none 0 0] 25)).alloc (.cells #[vi 2, vi 2, vi 1] 3)).alloc (.cells #[vi 2, vi 1, vi 2] 3)).alloc (.cells #[iv 0, iv 2, iv 2, iv 1] 50)).alloc (.cells #[.slice (some ⟨w.heap.size + 1, 0, none⟩) 3 3, .slice (some ⟨w.heap.size + 1 + 1, 0, none⟩) 3 3, .slice (some ⟨w.heap.size + 1 + 1 + 1, 0, none⟩) 2 2] 25) = X at *
  have hr0 : RowK X (some ⟨w.heap.size + 1 + 1 + 1, 0, none⟩) (smN false) := by
    obtain ⟨A0, c0, ev, hr0, ha0⟩ := row_own_pairs o3 rfl
    simp only [Value.slice.injEq] at ev
    rw [ev.1]
    exact hr0
  have hlt4 := heap_lt g4
  refine exec_seq (exec_seq (exec_region_o fun ds => ?_))
  gi_wp2
  refine eq_mk (Keep.refl _) ?_
  show Exec _ _ (Code.cond _ _ _) _ _ _
  cases b with
  | false =>
    refine exec_cond (b := false) rfl (fun h => by cases h) (fun _ => exec_skip ?_)
    refine sm_end (b := false) (A := some ⟨w.heap.size + 1 + 1 + 1, 0, none⟩) (c := 2) ⟨g0, g1, g2, g4, hr0, fun ad e => by cases e; show w.heap.size < w.heap.size + 1 + 1 + 1; omega, hB⟩ _ (by simp [Slots, Fits])
  | true =>
    refine exec_cond (b := true) rfl (fun _ => ?_) (fun h => by cases h)
    have k2 := cells_get (cs := [_, _, _]) (k := 2) g4 rfl
    obtain ⟨i0, z, hi0, hz0, hz3, hz1, hz2⟩ := info50
    have hsz := hB.size
    refine exec_region_o fun ds => ?_
    gi_wp2_with (gi_at_builtin; refine wpListIn_append_own _ rfl _ _ 23 rfl (w.heap.size + 1) 50 i0 z 2 16 Try.underlying23 hi0 hz0 hz1 hz2 hz3 (by decide) (.slice (some ⟨w.heap.size + 1 + 1 + 1, 0, none⟩) 2 2) 2 (flatV (smN false)) rfl (o3.alloc _) ⟨X.heap.size, 0, none⟩ 1 1 [iv 0, iv 1] rfl rfl (cell_pair _ _ _ _) (by simp [Value.oneCell']) (by unfold maxLen; omega) (by omega) (by simp; omega) ?_; intro v' w' hown2 hgr _; obtain ⟨A1, c1, rfl, hr1, ha1⟩ := row_own_pairs (K := smN true) hown2 rfl; have hblk : ∀ k o, X.heap[k]? = some o → k ≠ w.heap.size + 1 + 1 + 1 → w'.heap[k]? = some o := (fun k o hk hne => (hgr.block k (by rw [World.size_alloc]; have := heap_lt hk; omega) (fun e => hne (by have := Option.some.inj e; exact this))).trans (heap_next hk _)); have hb4 := hblk _ _ g4 (by omega); have k2' := cells_get (cs := [_, _, _]) (k := 2) hb4 rfl; have kf := (frozen_cells hb4 : w'.frozen? ⟨w.heap.size + 1 + 1 + 1 + 1, 2, none⟩ = false))
    have hbk : ∀ j o, (Value.slice (some ⟨w.heap.size + 1 + 1 + 1, 0, none⟩) 2 2).ownBlock = some j → (X.alloc (.cells #[iv 0, iv 1] 50)).heap[j]? = some o → book o = false := by
      intro j o hv ho
      rcases (o3.alloc (.cells #[iv 0, iv 1] 50)).2 with ⟨h, _⟩ | ⟨g', cap', cur, h, _, hg', _⟩
      · cases h
      · rw [h] at hv
        simp only [Value.ownBlock, Option.some.injEq] at hv
        subst hv
        rw [hg'] at ho
        cases ho
        rfl
    have hB3 : Below w.heap.size w w' := (hB.alloc hsz (.cells #[iv 0, iv 1] 50)).grown hgr (by simp; omega) (fun q e => by simp only [Value.ownBlock, Option.some.injEq] at e; omega)
    refine eq_mk ((((Keep.refl _).alloc _).grown hgr hbk).setCell _ _) ?_
    have hbox := box_set w' (w.heap.size + 1 + 1 + 1 + 1) 2 _ 25 (.slice A1 (smN true).length c1) hb4
    have hfar : ∀ k o, X.heap[k]? = some o → k ≠ w.heap.size + 1 + 1 + 1 → k ≠ w.heap.size + 1 + 1 + 1 + 1 → (w'.setCell ⟨w.heap.size + 1 + 1 + 1 + 1, 2, none⟩ (.slice A1 (smN true).length c1)).heap[k]? = some o := fun k o hk h1 h2 => box_far _ _ _ _ _ _ (hblk k o hk h1) h2
    have hne4 : ∀ ad, A1 = some ad → ad.block ≠ w.heap.size + 1 + 1 + 1 + 1 := fun ad e c => by
      rcases hown2.2 with ⟨h, _⟩ | ⟨g, cap, cur, h, _, hg', _⟩
      · simp only [Value.slice.injEq] at h
        rw [e] at h
        cases h.1
      · simp only [Value.slice.injEq] at h
        rw [e] at h
        have := Option.some.inj h.1
        rw [this] at c
        simp only at c
        rw [c, hb4] at hg'
        cases hg'
    show Exec _ _ (Code.seq _ _) _ _ _
    have hSW : SmW w w.heap.size A1 c1 (smN true) (w'.setCell ⟨w.heap.size + 1 + 1 + 1 + 1, 2, none⟩ (.slice A1 (smN true).length c1)) := ⟨hfar _ _ g0 (by omega) (by omega), hfar _ _ g1 (by omega) (by omega), hfar _ _ g2 (by omega) (by omega), hbox, hr1.far (fun _ ad e => hne4 ad e) _, fun ad e => by have := ha1 ad e; omega, hB3.setCell (by show w.heap.size ≤ w.heap.size + 1 + 1 + 1 + 1; omega) _⟩
    refine (sm_end (b := true) hSW _ ?_).mono ?_
    · simp [Slots, Fits]
    · rintro e t W ⟨h1, h2⟩
      refine ⟨h1, fun W' hG => ?_⟩
      obtain ⟨v, hr, a, he, r⟩ := h2 W' hG
      exact ⟨v, hr, a, Ending.returned.inj he, r⟩
end Go.Proofs.Ytbdmmikflkpmpaa
end

section
namespace Go.Proofs.Ytbdmmikflkpmpaa
open Go.RowKit Go.TL Go.Shelf Go.Pn
attribute [local go_sem] Oper.semAt_some
attribute [local go_sem] run_store_func
theorem sm_sit {a : XP} (h : SmX false a) : sitA a = ([3, 1, 6], 0) := by
  obtain ⟨AL, cL, L, AN, cN, N, AK, cK, K⟩ := a
  obtain ⟨h1, h2, h3⟩ := h
  simp only at h1 h2 h3
  subst h1 h2 h3
  kernel_rfl
theorem sm_count {a : XP} (h : SmX false a) : countA a = (1, 0) := by
  obtain ⟨AL, cL, L, AN, cN, N, AK, cK, K⟩ := a
  obtain ⟨h1, h2, h3⟩ := h
  simp only at h1 h2 h3
  subst h1 h2 h3
  kernel_rfl
theorem sm_pair {a : XP} (h : SmX false a) : pairA a 0 0 = (2, 0) := by
  obtain ⟨AL, cL, L, AN, cN, N, AK, cK, K⟩ := a
  obtain ⟨h1, h2, h3⟩ := h
  simp only at h1 h2 h3
  subst h1 h2 h3
  kernel_rfl
theorem sm_busy {a : XP} (h : SmX false a) : busyA a = (2, 0) := by
  obtain ⟨AL, cL, L, AN, cN, N, AK, cK, K⟩ := a
  obtain ⟨h1, h2, h3⟩ := h
  simp only at h1 h2 h3
  subst h1 h2 h3
  kernel_rfl
theorem sm_seats {a : XP} (h : SmX true a) : seatsA a = (4, 0) := by
  obtain ⟨AL, cL, L, AN, cN, N, AK, cK, K⟩ := a
  obtain ⟨h1, h2, h3⟩ := h
  simp only at h1 h2 h3
  subst h1 h2 h3
  kernel_rfl
theorem sm_short {a : XP} (h : SmX true a) : shortA a = (7, 0) := by
  obtain ⟨AL, cL, L, AN, cN, N, AK, cK, K⟩ := a
  obtain ⟨h1, h2, h3⟩ := h
  simp only at h1 h2 h3
  subst h1 h2 h3
  kernel_rfl
theorem sm_waive {a : XP} (h : SmX true a) : waiveA a = (1, 0) := by
  obtain ⟨AL, cL, L, AN, cN, N, AK, cK, K⟩ := a
  obtain ⟨h1, h2, h3⟩ := h
  simp only at h1 h2 h3
  subst h1 h2 h3
  kernel_rfl
set_option maxRecDepth 100000 in
set_option maxHeartbeats 2000000 in
theorem alive14 (w : World) : Calls Try.prog 14 #[] w fun e w' => e = .returned (.bool true) ∧ Below w.heap.size w w' := by
  have hu22 := Try.underlying22
  refine calls_of_exec Try.func14 rfl ?_
  simp only [Try.ntmps14, List.size_toArray, List.length_cons, List.length_nil, Nat.reduceAdd, Nat.reduceSub, Array.replicate_succ, Array.replicate_zero, List.push_toArray, List.append_toArray, List.nil_append, List.cons_append]
  refine exec_seq (exec_region_o fun ds => ?_)
  gi_wp2
  refine eq_mk (Keep.refl w) ?_
  show Exec _ _ _ _ _ _
  refine exec_seq (exec_region_o fun ds => ?_)
  gi_wp2_with fail
  refine ⟨trivial, rfl, (callsIn_wide.2 (sample46 false w)).mono ?_⟩
  rintro e X0 ⟨a, rfl, hs, ha, hx⟩
  have hv0 := sm_sit hs
  gi_wp2_with fail
  refine ⟨trivial, rfl, (callsIn_wide.2 (Sit_any a X0 ha)).mono ?_⟩
  rintro e Y0 ⟨A, c, rfl, hr, hy⟩
  rw [hv0] at hr ⊢
  have hxy0 := hx.trans (hy.mono hx.size)
  have hB0 := hxy0
  gi_wp2
  refine eq_mk (Keep.of_below hxy0) ?_
  show Exec _ _ _ _ _ _
  clear hxy0 hx hy hv0 hs ha
  clear X0
  refine exec_seq (exec_region_o fun ds => ?_)
  gi_wp2_with fail
  refine ⟨trivial, rfl, (callsIn_wide.2 (sample46 false Y0)).mono ?_⟩
  rintro e X1 ⟨a, rfl, hs, ha, hx⟩
  have hv1 := sm_count hs
  gi_wp2_with fail
  have hc1 := Count_any a X1 ha
  rw [hv1] at hc1
  refine ⟨trivial, rfl, (callsIn_wide.2 hc1).mono ?_⟩
  rintro e Y1 ⟨rfl, hy⟩
  have hxy1 := hx.trans (hy.mono hx.size)
  have hB1 := hB0.trans (hxy1.mono hB0.size)
  replace hr := hr.below hxy1
  gi_wp2
  refine eq_mk (Keep.of_below hxy1) ?_
  show Exec _ _ _ _ _ _
  clear hxy1 hx hy hv1 hs ha hc1
  clear X1
  clear hB0
  clear Y0
  refine exec_seq (exec_region_o fun ds => ?_)
  gi_wp2_with fail
  refine ⟨trivial, rfl, (callsIn_wide.2 (sample46 false Y1)).mono ?_⟩
  rintro e X2 ⟨a, rfl, hs, ha, hx⟩
  have hv2 := sm_pair hs
  gi_wp2_with fail
  have hc2 := Pair_any a 0 0 X2 ha
  rw [hv2] at hc2
  refine ⟨trivial, rfl, (callsIn_wide.2 hc2).mono ?_⟩
  rintro e Y2 ⟨rfl, hy⟩
  have hxy2 := hx.trans (hy.mono hx.size)
  have hB2 := hB1.trans (hxy2.mono hB1.size)
  replace hr := hr.below hxy2
  gi_wp2
  refine eq_mk (Keep.of_below hxy2) ?_
  show Exec _ _ _ _ _ _
  clear hxy2 hx hy hv2 hs ha hc2
  clear X2
  clear hB1
  clear Y1
  refine exec_seq (exec_region_o fun ds => ?_)
  gi_wp2_with fail
  refine ⟨trivial, rfl, (callsIn_wide.2 (sample46 false Y2)).mono ?_⟩
  rintro e X3 ⟨a, rfl, hs, ha, hx⟩
  have hv3 := sm_busy hs
  gi_wp2_with fail
  have hc3 := Busy_any a X3 ha
  rw [hv3] at hc3
  refine ⟨trivial, rfl, (callsIn_wide.2 hc3).mono ?_⟩
  rintro e Y3 ⟨rfl, hy⟩
  have hxy3 := hx.trans (hy.mono hx.size)
  have hB3 := hB2.trans (hxy3.mono hB2.size)
  replace hr := hr.below hxy3
  gi_wp2
  refine eq_mk (Keep.of_below hxy3) ?_
  show Exec _ _ _ _ _ _
  clear hxy3 hx hy hv3 hs ha hc3
  clear X3
  clear hB2
  clear Y2
  refine exec_seq (exec_region_o fun ds => ?_)
  gi_wp2_with fail
  refine ⟨trivial, rfl, (callsIn_wide.2 (sample46 true Y3)).mono ?_⟩
  rintro e X4 ⟨a, rfl, hs, ha, hx⟩
  have hv4 := sm_seats hs
  gi_wp2_with fail
  have hc4 := Seats_any a X4 ha
  rw [hv4] at hc4
  refine ⟨trivial, rfl, (callsIn_wide.2 hc4).mono ?_⟩
  rintro e Y4 ⟨rfl, hy⟩
  have hxy4 := hx.trans (hy.mono hx.size)
  have hB4 := hB3.trans (hxy4.mono hB3.size)
  replace hr := hr.below hxy4
  gi_wp2
  refine eq_mk (Keep.of_below hxy4) ?_
  show Exec _ _ _ _ _ _
  clear hxy4 hx hy hv4 hs ha hc4
  clear X4
  clear hB3
  clear Y3
  refine exec_seq (exec_region_o fun ds => ?_)
  gi_wp2_with fail
  refine ⟨trivial, rfl, (callsIn_wide.2 (sample46 true Y4)).mono ?_⟩
  rintro e X5 ⟨a, rfl, hs, ha, hx⟩
  have hv5 := sm_short hs
  gi_wp2_with fail
  have hc5 := Short_any a X5 ha
  rw [hv5] at hc5
  refine ⟨trivial, rfl, (callsIn_wide.2 hc5).mono ?_⟩
  rintro e Y5 ⟨rfl, hy⟩
  have hxy5 := hx.trans (hy.mono hx.size)
  have hB5 := hB4.trans (hxy5.mono hB4.size)
  replace hr := hr.below hxy5
  gi_wp2
  refine eq_mk (Keep.of_below hxy5) ?_
  show Exec _ _ _ _ _ _
  clear hxy5 hx hy hv5 hs ha hc5
  clear X5
  clear hB4
  clear Y4
  refine exec_seq (exec_region_o fun ds => ?_)
  gi_wp2_with fail
  refine ⟨trivial, rfl, (callsIn_wide.2 (sample46 true Y5)).mono ?_⟩
  rintro e X6 ⟨a, rfl, hs, ha, hx⟩
  have hv6 := sm_waive hs
  gi_wp2_with fail
  have hc6 := Waive_any a X6 ha
  rw [hv6] at hc6
  refine ⟨trivial, rfl, (callsIn_wide.2 hc6).mono ?_⟩
  rintro e Y6 ⟨rfl, hy⟩
  have hxy6 := hx.trans (hy.mono hx.size)
  have hB6 := hB5.trans (hxy6.mono hB5.size)
  replace hr := hr.below hxy6
  gi_wp2
  refine eq_mk (Keep.of_below hxy6) ?_
  show Exec _ _ _ _ _ _
  clear hxy6 hx hy hv6 hs ha hc6
  clear X6
  clear hB5
  clear Y5
  have hal := (Below.refl Y6.heap.size Y6).alloc (Nat.le_refl _) (.cells #[vi 3, vi 1, vi 6] 3)
  have hr' : RowV (Y6.alloc (.cells #[vi 3, vi 1, vi 6] 3)) A (([3, 1, 6] : List Int).map vi) := hr.below hal
  have hi := ints21 A (some ⟨Y6.heap.size, 0, none⟩) c 3 [3, 1, 6] [3, 1, 6] (by decide) (by decide) (Y6.alloc (.cells #[vi 3, vi 1, vi 6] 3)) hr' (row3 (World.alloc_heap_new _ _))
  rw [decide_eq_true rfl] at hi
  refine exec_seq (exec_region_o fun ds => ?_)
  gi_wp2_with fail
  refine ⟨trivial, rfl, (callsIn_wide.2 hi).mono ?_⟩
  rintro e Z ⟨rfl, hz⟩
  have hB := hB6.trans ((hal.trans (hz.mono hal.size)).mono hB6.size)
  gi_wp2
  refine eq_mk (((Keep.refl _).alloc _).trans (Keep.of_below hz)) ?_
  show Exec _ _ _ _ _ _
  exact exec_ret ⟨.inr rfl, fun W' hG => ⟨.bool true, by simp [results, Try.f14, go_sem], rfl, hB.trans (hG.below (Nat.le_refl _) hB.size)⟩⟩
end Go.Proofs.Ytbdmmikflkpmpaa
end

section
namespace Go.Proofs.Ytbdmmikflkpmpaa
open Go.RowKit Go.TL Go.Shelf Go.Pn
attribute [local go_sem] Oper.semAt_some
attribute [local go_sem] run_store_func
theorem in70 (x lo hi : Int) (w : World) : Calls Try.prog 70 #[vi x, vi lo, vi hi] w fun e w' => e = .returned (.bool (inB x lo hi)) ∧ Below w.heap.size w w' := by
  refine calls_of_exec Try.func70 rfl ?_
  simp only [Try.ntmps70, List.size_toArray, List.length_cons, List.length_nil, Nat.reduceAdd, Nat.reduceSub, Array.replicate_succ, Array.replicate_zero, List.push_toArray, List.append_toArray, List.nil_append, List.cons_append]
  refine exec_seq (exec_region_o fun ds => ?_)
  gi_wp2
  refine eq_mk (Keep.refl w) ?_
  show Exec _ _ _ _ _ _
  refine exec_seq (exec_region_o fun ds => ?_)
  obtain ⟨R, hR⟩ : ∃ R, inB x lo hi = R := ⟨_, rfl⟩
  simp only [hR]
  have HR := Lib.hid hR
  clear hR
  by_cases h1 : lo ≤ x
  · gi_wp2
    refine eq_mk (Keep.refl w) ?_
    refine exec_ret ⟨.inr rfl, fun W' hG => ⟨.bool R, ?_, rfl, hG.below (Nat.le_refl _) (Nat.le_refl _)⟩⟩
    have : R = decide (x ≤ hi) := by rw [← HR.out]; simp [inB, h1]
    subst this
    simp [results, Try.f70, go_sem]
  · gi_wp2
    refine eq_mk (Keep.refl w) ?_
    refine exec_ret ⟨.inr rfl, fun W' hG => ⟨.bool R, ?_, rfl, hG.below (Nat.le_refl _) (Nat.le_refl _)⟩⟩
    have : R = false := by rw [← HR.out]; unfold inB; rw [decide_eq_false (by omega), Bool.false_and]
    subst this
    simp [results, Try.f70, go_sem]
    try (intro h; omega)
def AlI72 (w : World) (A : Option Addr) (c : Nat) (l : List Int) (hi : Int) (n : Nat) (t : Array Value) (W : World) : Prop :=
  ∃ k : Nat, k ≤ l.length ∧ n = l.length - k ∧ (∀ y ∈ l.take k, inB y 0 hi = true) ∧ Below w.heap.size w W ∧ Slots (some (.slice A l.length c) :: some (vi hi) :: none :: none :: none :: some (iv k) :: none :: o4 (o4 (o4 []))) t
set_option maxRecDepth 100000 in
set_option maxHeartbeats 1000000 in
theorem all72 (A : Option Addr) (c : Nat) (l : List Int) (hl : l.length ≤ 1000000) (hi : Int) (w : World) (hA : RowV w A (l.map vi)) : Calls Try.prog 72 #[.slice A l.length c, vi hi] w fun e w' => e = .returned (.bool (l.all fun y => inB y 0 hi)) ∧ Below w.heap.size w w' := by
  have hu22 := Try.underlying22
  obtain ⟨R, hR⟩ : ∃ R, (l.all fun y => inB y 0 hi) = R := ⟨_, rfl⟩
  rw [hR]
  have HR := Lib.hid hR
  clear hR
  refine calls_of_exec Try.func72 rfl ?_
  simp only [Try.ntmps72, List.size_toArray, List.length_cons, List.length_nil, Nat.reduceAdd, Nat.reduceSub, Array.replicate_succ, Array.replicate_zero, List.push_toArray, List.append_toArray, List.nil_append, List.cons_append]
  refine exec_seq (exec_region_o fun ds => ?_)
  gi_wp2
  refine eq_mk (Keep.refl _) ?_
  show Exec _ _ (Code.seq (Code.seq _ _) _) _ _ _
  refine exec_seq (exec_seq (exec_region_o fun ds => ?_))
  gi_wp2
  refine eq_mk (Keep.refl _) ?_
  show Exec _ _ (Code.block _ _) _ _ _
  refine exec_block ?_
  refine exec_loop (AlI72 w A c l hi) l.length ⟨0, by omega, rfl, by simp, Below.refl _ _, by simp [Slots, Fits]⟩ ?_
  rintro n t W ⟨k, hk, hn, htk, hV, hSl⟩
  have HT := Lib.hid htk
  clear htk
  obtain ⟨x, hx⟩ := Slots.open_ hSl; simp only [fill, Nat.reduceAdd] at hx; subst hx; clear hSl
  show Exec _ _ (Code.seq (Code.seq _ _) _) _ _ _
  refine exec_seq (exec_seq (exec_region_o fun ds => ?_))
  gi_wp2
  refine eq_mk (Keep.refl _) ?_
  show Exec _ _ (Code.cond _ _ _) _ _ _
  refine (exec_cond (b := decide (k < l.length)) (by first | rfl | (show Value.bool _ = _; congr 1; exact decide_eq_decide.2 (by omega))) (fun hp => exec_skip ?_) (fun hp => exec_exit ?_))
  · have hkl : k < l.length := by have := of_decide_eq_true hp; omega
    show Exec _ _ (Code.seq (Code.block _ _) _) _ _ _
    obtain ⟨a1, e1, h1⟩ := row_int (hA.below hV) hkl
    obtain ⟨y1, hy1⟩ : ∃ y, l[k] = y := ⟨_, rfl⟩
    rw [hy1] at h1
    have HY : inB y1 0 hi = true → ∀ y ∈ l.take (k + 1), inB y 0 hi = true := fun e y hy => by
      rw [List.take_succ_eq_append_getElem hkl, List.mem_append, List.mem_singleton] at hy
      rcases hy with hy | hy
      · exact HT.out y hy
      · rw [hy, hy1]; exact e
    have HN : inB y1 0 hi = false → (l.all fun y => inB y 0 hi) = false := fun e => by
      rw [List.all_eq_false]
      exact ⟨y1, by rw [← hy1]; exact List.getElem_mem hkl, by simp [e]⟩
    have HY := Lib.hid HY
    have HN := Lib.hid HN
    clear hy1
    have hkI : (k : Int) < l.length := by omega
    simp only [e1]
    have E1 := Lib.hid e1
    clear e1
    refine exec_cut (fun t' Y => inB y1 0 hi = true ∧ Below w.heap.size w Y ∧ Slots (some (.slice A l.length c) :: some (vi hi) :: none :: none :: none :: some (iv k) :: none :: o4 (o4 (o4 []))) t') (exec_block ?_) ?_
    · show Exec _ _ (Code.seq _ _) _ _ _
      refine exec_seq (exec_region_o fun ds => ?_)
      gi_wp2_with fail
      refine ⟨trivial, rfl, (callsIn_wide.2 (in70 y1 0 hi W)).mono ?_⟩
      rintro e Y ⟨rfl, hy⟩
      have hBd := hV.trans (hy.mono hV.size)
      gi_wp2
      refine eq_mk (Keep.of_below hy) ?_
      show Exec _ _ (Code.cond _ _ _) _ _ _
      cases hq : inB y1 0 hi with
      | true =>
        refine exec_cond (b := false) rfl (fun h => by cases h) (fun _ => exec_skip ?_)
        exact ⟨rfl, hBd, by simp [Slots, Fits, E1.out]⟩
      | false =>
        have hf := HN.out hq
        refine exec_cond (b := true) rfl (fun _ => ?_) (fun h => by cases h)
        have hr : R = false := by rw [← HR.out]; exact hf
        subst hr
        clear hf hq
        refine exec_seq (exec_region_o fun ds => ?_)
        gi_wp2
        refine eq_mk (Keep.refl _) ?_
        show Exec _ _ _ _ _ _
        exact exec_ret ⟨.inr rfl, fun W' hG => ⟨.bool false, by simp [results, Try.f72, go_sem], rfl, hBd.trans (hG.below (Nat.le_refl _) hBd.size)⟩⟩
    · clear hV h1 x
      clear W
      rintro t' Y ⟨hy, hV, hSl⟩
      have hT2 := HY.out hy
      have HT2 := Lib.hid hT2
      clear hT2 hy
      obtain ⟨x, hx⟩ := Slots.open_ hSl; simp only [fill, Nat.reduceAdd] at hx; subst hx; clear hSl
      have hw : IntKind.i64.wrap ((k : Int) + 1) = ((k + 1 : Nat) : Int) := by rw [IntWalk.i64_in _ (by omega)]; norm_cast
      refine exec_region_o fun ds => ?_
      gi_wp2
      exact eq_mk (Keep.refl _) ⟨n - 1, by omega, k + 1, by omega, by omega, HT2.out, hV, by simp only [Slots, Fits, and_self]; simp [E1.out]⟩
  · have hkl : k = l.length := by have := of_decide_eq_false hp; omega
    have htk := HT.out
    rw [hkl, List.take_length] at htk
    have hr : R = true := by rw [← HR.out]; exact List.all_eq_true.2 htk
    subst hr
    clear htk
    show Exec _ _ (Code.seq _ _) _ _ _
    refine exec_seq (exec_region_o fun ds => ?_)
    gi_wp2
    refine eq_mk (Keep.refl _) ?_
    show Exec _ _ _ _ _ _
    exact exec_ret ⟨.inr rfl, fun W' hG => ⟨.bool true, by simp [results, Try.f72, go_sem], rfl, hV.trans (hG.below (Nat.le_refl _) hV.size)⟩⟩
end Go.Proofs.Ytbdmmikflkpmpaa
end

section
namespace Go.Proofs.Ytbdmmikflkpmpaa
open Go.RowKit Go.TL Go.Shelf Go.Pn
attribute [local go_sem] Oper.semAt_some
attribute [local go_sem] run_store_func
def PvI (w : World) (a : XP) (n : Nat) (t : Array Value) (W : World) : Prop :=
  ∃ k : Nat, k ≤ a.K.length ∧ n = a.K.length - k ∧ (∀ y ∈ a.K.take k, kinOut a.L.length a.N.length y = false) ∧ PBx W w.heap.size a ∧ Below w.heap.size w W ∧ Slots (none :: some (.pointer (some ⟨w.heap.size, 0, none⟩)) :: none :: some (iv k) :: none :: none :: none :: o4 (o4 (o16 (o16 (o16 []))))) t
theorem isP_eq (a : XP) : a.isP = (decide (a.L.length ≤ 6) && decide (a.N.length ≤ 6) && decide (a.K.length ≤ 10) && (a.L.all fun y => inB y 0 6) && (a.N.all fun y => inB y 0 3) && !a.K.any (kinOut a.L.length a.N.length)) := by
  have h : ∀ (p : Int → Bool) (l : List Int), (!l.any fun y => !p y) = l.all p := fun p l => by
    rw [List.all_eq_not_any_not]
  unfold XP.isP XP.lens
  rw [h, h]
set_option maxRecDepth 100000 in
set_option maxHeartbeats 2000000 in
theorem panels22 (a : XP) (w : World) (ha : a.At w) : Calls Try.prog 22 #[a.val] w fun e w' => e = .returned (.bool a.isP) ∧ Below w.heap.size w w' := by
  have hu25 := Try.underlying25
  have hu22 := Try.underlying22
  have hu23 := Try.underlying23
  have hu50 := Try.underlying50
  have h4 := ha.l4
  have h5 := ha.n4
  have h6 := ha.k4
  obtain ⟨R, hR⟩ : ∃ R, a.isP = R := ⟨_, rfl⟩
  rw [hR]
  rw [isP_eq] at hR
  have HR := Lib.hid hR
  clear hR
  refine calls_of_exec Try.func22 rfl ?_
  simp only [Try.ntmps22, List.size_toArray, List.length_cons, List.length_nil, Nat.reduceAdd, Nat.reduceSub, Array.replicate_succ, Array.replicate_zero, List.push_toArray, List.append_toArray, List.nil_append, List.cons_append]
  simp only [XP.val]
  refine exec_seq (exec_region_o fun ds => ?_)
  gi_wp2
  refine eq_mk ((Keep.refl _).alloc _) ?_
  show Exec _ _ (Code.seq (Code.seq _ _) _) _ (w.alloc (.cells #[a.sL, a.sN, a.sK] 25)) _
  have hB := (Below.refl w.heap.size w).alloc (Nat.le_refl _) (.cells #[a.sL, a.sN, a.sK] 25)
  have hX : PBx (w.alloc (.cells #[a.sL, a.sN, a.sK] 25)) w.heap.size a := ⟨World.alloc_heap_new _ _, ha.below hB⟩
  generalize w.alloc (.cells #[a.sL, a.sN, a.sK] 25) = X at *
  refine exec_seq (exec_seq (exec_region_o fun ds => ?_))
  gi_wp2
  refine eq_mk (Keep.refl _) ?_
  show Exec _ _ (Code.block _ _) _ _ _
  refine exec_block ?_
  refine exec_loop (PvI w a) a.K.length ⟨0, by omega, rfl, by simp, hX, hB, by simp [Slots, Fits]⟩ ?_
  clear hX hB
  clear X
  rintro n t W ⟨k, hk, hn, htk, hX, hV, hSl⟩
  have HT := Lib.hid htk
  have HN := Lib.hid hn
  clear htk hn
  have hh := hX.heap
  simp only [XP.sL, XP.sN, XP.sK] at hh
  have c0 : ∀ Y, Below W.heap.size W Y → Y.cell? ⟨w.heap.size, 0, none⟩ = some (.slice a.AL a.L.length a.cL) := fun Y hY => cells_get (cs := [_, _, _]) (k := 0) ((hX.keep hY).heap) rfl
  have c1 : ∀ Y, Below W.heap.size W Y → Y.cell? ⟨w.heap.size, 1, none⟩ = some (.slice a.AN a.N.length a.cN) := fun Y hY => cells_get (cs := [_, _, _]) (k := 1) ((hX.keep hY).heap) rfl
  have c2 : ∀ Y, Below W.heap.size W Y → Y.cell? ⟨w.heap.size, 2, none⟩ = some (.slice a.AK a.K.length a.cK) := fun Y hY => cells_get (cs := [_, _, _]) (k := 2) ((hX.keep hY).heap) rfl
  clear hh
  have e2 := c2 W (Below.refl _ _)
  obtain ⟨x, hx⟩ := Slots.open_ hSl; simp only [fill, Nat.reduceAdd] at hx; subst hx; clear hSl
  show Exec _ _ (Code.seq (Code.seq _ _) _) _ _ _
  refine exec_seq (exec_seq (exec_region_o fun ds => ?_))
  gi_wp2
  refine eq_mk (Keep.refl _) ?_
  show Exec _ _ (Code.cond _ _ _) _ _ _
  refine (exec_cond (b := decide (k < a.K.length)) (by first | rfl | (show Value.bool _ = _; congr 1; exact decide_eq_decide.2 (by omega))) (fun hp => exec_skip ?_) (fun hp => exec_exit ?_))
  · have hkl : k < a.K.length := by have := of_decide_eq_true hp; omega
    clear e2
    show Exec _ _ (Code.seq (Code.block _ _) _) _ _ _
    obtain ⟨y, hy⟩ : ∃ y, a.K[k]? = some y := ⟨_, List.getElem?_eq_getElem hkl⟩
    obtain ⟨ad, hA, hc1, hc2⟩ := hX.at_.k k y hy
    have hym := List.mem_of_getElem? hy
    have HY : kinOut a.L.length a.N.length y = false → ∀ z ∈ a.K.take (k + 1), kinOut a.L.length a.N.length z = false := fun e z hz => by
      rw [List.take_add_one, hy] at hz
      rcases List.mem_append.1 hz with hz | hz
      · exact HT.out z hz
      · simp at hz
        rw [hz]; exact e
    have HF : kinOut a.L.length a.N.length y = true → R = false := fun e => by
      rw [← HR.out]
      have : a.K.any (kinOut a.L.length a.N.length) = true := List.any_eq_true.2 ⟨y, hym, e⟩
      rw [this]
      simp
    have HY := Lib.hid HY
    have HF := Lib.hid HF
    clear hy hym
    obtain ⟨y1, y2⟩ := y
    simp only at hc1 hc2
    have hkI : (k : Int) < a.K.length := by omega
    have hw1 : IntKind.i64.wrap ((a.L.length : Int) - 1) = (a.L.length : Int) - 1 := IntWalk.i64_in _ (by omega)
    have hw2 : IntKind.i64.wrap ((a.N.length : Int) - 1) = (a.N.length : Int) - 1 := IntWalk.i64_in _ (by omega)
    rw [hA] at c2
    have hS0 : ∀ {Y : World}, Below W.heap.size W Y → Y.cell? (ad.add (k * 2)) = some (vi y1) ∧ Y.cell? ⟨(ad.add (k * 2)).block, (ad.add (k * 2)).off + 1, none⟩ = some (vi y2) := fun hY => ⟨(Grow.of_below (B := 0) hY).cell hc1, (Grow.of_below (B := 0) hY).cell hc2⟩
    refine exec_cut (fun t' Y => kinOut a.L.length a.N.length (y1, y2) = false ∧ PBx Y w.heap.size a ∧ Below w.heap.size w Y ∧ Slots (none :: some (.pointer (some ⟨w.heap.size, 0, none⟩)) :: none :: some (iv k) :: none :: none :: none :: o4 (o4 (o16 (o16 (o16 []))))) t') (exec_block ?_) ?_
    · have hd : Below W.heap.size W W.drew := (Below.refl _ W).drew
      show Exec _ _ (Code.seq _ _) _ _ _
      refine exec_seq (region_of_tail 26 (by kernel_rfl) (by kernel_rfl) (by kernel_rfl) (fun Y => Below W.heap.size W Y) (fun _ _ _ => False) (fun _ _ _ h => h.elim) fun ds => ?_)
      have hS := hd
      refine held_take 0 (.pointer (some ⟨w.heap.size, 2, none⟩)) rfl (by kernel_rfl) (by kernel_rfl) (by kernel_rfl) (by intro _ _ _ h; first | exact h | (simpa [behind, Act.put] using h)) rfl (by first | exact hS | assumption) (fun wq hq => ?_) ?_; (focus (simp [go_sem, hu25]; done)); simp only [Act.put, Array.getInternal_eq_getElem, List.take_succ_cons, List.take_zero, List.take_nil, List.getElem_toArray, List.getElem_cons_succ, List.getElem_cons_zero, List.setIfInBounds_toArray, List.set_cons_succ, List.set_cons_zero]
      refine held_take 1 (.slice (some ad) a.K.length a.cK) rfl (by kernel_rfl) (by kernel_rfl) (by kernel_rfl) (by intro _ _ _ h; first | exact h | (simpa [behind, Act.put] using h)) rfl (by first | exact hS | assumption) (fun wq hq => ?_) ?_; (focus (simp [go_sem, c2 wq hq]; done)); simp only [Act.put, Array.getInternal_eq_getElem, List.take_succ_cons, List.take_zero, List.take_nil, List.getElem_toArray, List.getElem_cons_succ, List.getElem_cons_zero, List.setIfInBounds_toArray, List.set_cons_succ, List.set_cons_zero]
      refine held_take 2 (iv k) rfl (by kernel_rfl) (by kernel_rfl) (by kernel_rfl) (by intro _ _ _ h; first | exact h | (simpa [behind, Act.put] using h)) rfl (by first | exact hS | assumption) (fun wq hq => ?_) ?_; (focus (first | rfl | (simp [go_sem]; done))); simp only [Act.put, Array.getInternal_eq_getElem, List.take_succ_cons, List.take_zero, List.take_nil, List.getElem_toArray, List.getElem_cons_succ, List.getElem_cons_zero, List.setIfInBounds_toArray, List.set_cons_succ, List.set_cons_zero]
      refine held_take 3 (.pointer (some (ad.add (k * 2)))) rfl (by kernel_rfl) (by kernel_rfl) (by kernel_rfl) (by intro _ _ _ h; first | exact h | (simpa [behind, Act.put] using h)) rfl (by first | exact hS | assumption) (fun wq hq => ?_) ?_; (focus (simp [go_sem, hu23, hkI]; done)); simp only [Act.put, Array.getInternal_eq_getElem, List.take_succ_cons, List.take_zero, List.take_nil, List.getElem_toArray, List.getElem_cons_succ, List.getElem_cons_zero, List.setIfInBounds_toArray, List.set_cons_succ, List.set_cons_zero]
      refine held_take 4 (.pointer (some (ad.add (k * 2)))) rfl (by kernel_rfl) (by kernel_rfl) (by kernel_rfl) (by intro _ _ _ h; first | exact h | (simpa [behind, Act.put] using h)) rfl (by first | exact hS | assumption) (fun wq hq => ?_) ?_; (focus (simp [go_sem, hu50]; done)); simp only [Act.put, Array.getInternal_eq_getElem, List.take_succ_cons, List.take_zero, List.take_nil, List.getElem_toArray, List.getElem_cons_succ, List.getElem_cons_zero, List.setIfInBounds_toArray, List.set_cons_succ, List.set_cons_zero]
      refine held_take 5 (vi y1) rfl (by kernel_rfl) (by kernel_rfl) (by kernel_rfl) (by intro _ _ _ h; first | exact h | (simpa [behind, Act.put] using h)) rfl (by first | exact hS | assumption) (fun wq hq => ?_) ?_; (focus (simp [go_sem, (hS0 hq).1]; done)); simp only [Act.put, Array.getInternal_eq_getElem, List.take_succ_cons, List.take_zero, List.take_nil, List.getElem_toArray, List.getElem_cons_succ, List.getElem_cons_zero, List.setIfInBounds_toArray, List.set_cons_succ, List.set_cons_zero]
      refine held_take 6 (.pointer (some ⟨w.heap.size, 0, none⟩)) rfl (by kernel_rfl) (by kernel_rfl) (by kernel_rfl) (by intro _ _ _ h; first | exact h | (simpa [behind, Act.put] using h)) rfl (by first | exact hS | assumption) (fun wq hq => ?_) ?_; (focus (simp [go_sem, hu25]; done)); simp only [Act.put, Array.getInternal_eq_getElem, List.take_succ_cons, List.take_zero, List.take_nil, List.getElem_toArray, List.getElem_cons_succ, List.getElem_cons_zero, List.setIfInBounds_toArray, List.set_cons_succ, List.set_cons_zero]
      refine held_take 7 (.slice a.AL a.L.length a.cL) rfl (by kernel_rfl) (by kernel_rfl) (by kernel_rfl) (by intro _ _ _ h; first | exact h | (simpa [behind, Act.put] using h)) rfl (by first | exact hS | assumption) (fun wq hq => ?_) ?_; (focus (simp [go_sem, c0 wq hq]; done)); simp only [Act.put, Array.getInternal_eq_getElem, List.take_succ_cons, List.take_zero, List.take_nil, List.getElem_toArray, List.getElem_cons_succ, List.getElem_cons_zero, List.setIfInBounds_toArray, List.set_cons_succ, List.set_cons_zero]
      refine held_take 8 (iv a.L.length) rfl (by kernel_rfl) (by kernel_rfl) (by kernel_rfl) (by intro _ _ _ h; first | exact h | (simpa [behind, Act.put] using h)) rfl (by first | exact hS | assumption) (fun wq hq => ?_) ?_; (focus (simp [go_sem]; done)); simp only [Act.put, Array.getInternal_eq_getElem, List.take_succ_cons, List.take_zero, List.take_nil, List.getElem_toArray, List.getElem_cons_succ, List.getElem_cons_zero, List.setIfInBounds_toArray, List.set_cons_succ, List.set_cons_zero]
      refine held_take 9 (vi ((a.L.length : Int) - 1)) rfl (by kernel_rfl) (by kernel_rfl) (by kernel_rfl) (by intro _ _ _ h; first | exact h | (simpa [behind, Act.put] using h)) rfl (by first | exact hS | assumption) (fun wq hq => ?_) ?_; (focus (simp [go_sem, hw1]; done)); simp only [Act.put, Array.getInternal_eq_getElem, List.take_succ_cons, List.take_zero, List.take_nil, List.getElem_toArray, List.getElem_cons_succ, List.getElem_cons_zero, List.setIfInBounds_toArray, List.set_cons_succ, List.set_cons_zero]
      refine held_call 10 (f := 70) (args := #[vi y1, vi 0, vi ((a.L.length : Int) - 1)]) rfl (by kernel_rfl) rfl (by simp [go_sem]) ?_
      refine (in70 y1 0 ((a.L.length : Int) - 1) W.drew).mono ?_
      rintro e X1 ⟨rfl, hx1⟩
      have k1 : Below W.heap.size W X1 := hS.trans hx1
      refine .inl ⟨_, rfl, k1, ?_⟩
      simp only [Act.put, Array.getInternal_eq_getElem, List.take_succ_cons, List.take_zero, List.take_nil, List.getElem_toArray, List.getElem_cons_succ, List.getElem_cons_zero, List.setIfInBounds_toArray, List.set_cons_succ, List.set_cons_zero]
      have hko : kinOut a.L.length a.N.length (y1, y2) = (!inB y1 0 ((a.L.length : Int) - 1) || !inB y2 0 ((a.N.length : Int) - 1)) := rfl
      have HKO := Lib.hid hko
      clear hko
      generalize inB y1 0 ((a.L.length : Int) - 1) = q1 at *
      have hX1 := hX.keep k1
      have hB1 := hV.trans (k1.mono hV.size)
      clear hS
      cases q1 with
      | false =>
        refine held_take 11 (.bool true) rfl (by kernel_rfl) (by kernel_rfl) (by kernel_rfl) (by intro _ _ _ h; first | exact h | (simpa [behind, Act.put] using h)) rfl (by first | exact hS | assumption) (fun wq hq => ?_) ?_; (focus (simp [go_sem]; done)); simp only [Act.put, Array.getInternal_eq_getElem, List.take_succ_cons, List.take_zero, List.take_nil, List.getElem_toArray, List.getElem_cons_succ, List.getElem_cons_zero, List.setIfInBounds_toArray, List.set_cons_succ, List.set_cons_zero]
        refine held_take 12 (.bool true) rfl (by kernel_rfl) (by kernel_rfl) (by kernel_rfl) (by intro _ _ _ h; first | exact h | (simpa [behind, Act.put] using h)) rfl (by first | exact hS | assumption) (fun wq hq => ?_) ?_; (focus (simp [go_sem]; done)); simp only [Act.put, Array.getInternal_eq_getElem, List.take_succ_cons, List.take_zero, List.take_nil, List.getElem_toArray, List.getElem_cons_succ, List.getElem_cons_zero, List.setIfInBounds_toArray, List.set_cons_succ, List.set_cons_zero]
        refine held_pass 13 rfl (by kernel_rfl) (by kernel_rfl) (by kernel_rfl) (by intro _ _ _ h; exact h) (by kernel_rfl) (by first | exact hS | assumption) ?_; simp only [Act.put, Array.getInternal_eq_getElem, List.take_succ_cons, List.take_zero, List.take_nil, List.getElem_toArray, List.getElem_cons_succ, List.getElem_cons_zero, List.setIfInBounds_toArray, List.set_cons_succ, List.set_cons_zero]
        refine held_pass 14 rfl (by kernel_rfl) (by kernel_rfl) (by kernel_rfl) (by intro _ _ _ h; exact h) (by kernel_rfl) (by first | exact hS | assumption) ?_; simp only [Act.put, Array.getInternal_eq_getElem, List.take_succ_cons, List.take_zero, List.take_nil, List.getElem_toArray, List.getElem_cons_succ, List.getElem_cons_zero, List.setIfInBounds_toArray, List.set_cons_succ, List.set_cons_zero]
        refine held_pass 15 rfl (by kernel_rfl) (by kernel_rfl) (by kernel_rfl) (by intro _ _ _ h; exact h) (by kernel_rfl) (by first | exact hS | assumption) ?_; simp only [Act.put, Array.getInternal_eq_getElem, List.take_succ_cons, List.take_zero, List.take_nil, List.getElem_toArray, List.getElem_cons_succ, List.getElem_cons_zero, List.setIfInBounds_toArray, List.set_cons_succ, List.set_cons_zero]
        refine held_pass 16 rfl (by kernel_rfl) (by kernel_rfl) (by kernel_rfl) (by intro _ _ _ h; exact h) (by kernel_rfl) (by first | exact hS | assumption) ?_; simp only [Act.put, Array.getInternal_eq_getElem, List.take_succ_cons, List.take_zero, List.take_nil, List.getElem_toArray, List.getElem_cons_succ, List.getElem_cons_zero, List.setIfInBounds_toArray, List.set_cons_succ, List.set_cons_zero]
        refine held_pass 17 rfl (by kernel_rfl) (by kernel_rfl) (by kernel_rfl) (by intro _ _ _ h; exact h) (by kernel_rfl) (by first | exact hS | assumption) ?_; simp only [Act.put, Array.getInternal_eq_getElem, List.take_succ_cons, List.take_zero, List.take_nil, List.getElem_toArray, List.getElem_cons_succ, List.getElem_cons_zero, List.setIfInBounds_toArray, List.set_cons_succ, List.set_cons_zero]
        refine held_pass 18 rfl (by kernel_rfl) (by kernel_rfl) (by kernel_rfl) (by intro _ _ _ h; exact h) (by kernel_rfl) (by first | exact hS | assumption) ?_; simp only [Act.put, Array.getInternal_eq_getElem, List.take_succ_cons, List.take_zero, List.take_nil, List.getElem_toArray, List.getElem_cons_succ, List.getElem_cons_zero, List.setIfInBounds_toArray, List.set_cons_succ, List.set_cons_zero]
        refine held_pass 19 rfl (by kernel_rfl) (by kernel_rfl) (by kernel_rfl) (by intro _ _ _ h; exact h) (by kernel_rfl) (by first | exact hS | assumption) ?_; simp only [Act.put, Array.getInternal_eq_getElem, List.take_succ_cons, List.take_zero, List.take_nil, List.getElem_toArray, List.getElem_cons_succ, List.getElem_cons_zero, List.setIfInBounds_toArray, List.set_cons_succ, List.set_cons_zero]
        refine held_pass 20 rfl (by kernel_rfl) (by kernel_rfl) (by kernel_rfl) (by intro _ _ _ h; exact h) (by kernel_rfl) (by first | exact hS | assumption) ?_; simp only [Act.put, Array.getInternal_eq_getElem, List.take_succ_cons, List.take_zero, List.take_nil, List.getElem_toArray, List.getElem_cons_succ, List.getElem_cons_zero, List.setIfInBounds_toArray, List.set_cons_succ, List.set_cons_zero]
        refine held_pass 21 rfl (by kernel_rfl) (by kernel_rfl) (by kernel_rfl) (by intro _ _ _ h; exact h) (by kernel_rfl) (by first | exact hS | assumption) ?_; simp only [Act.put, Array.getInternal_eq_getElem, List.take_succ_cons, List.take_zero, List.take_nil, List.getElem_toArray, List.getElem_cons_succ, List.getElem_cons_zero, List.setIfInBounds_toArray, List.set_cons_succ, List.set_cons_zero]
        refine held_pass 22 rfl (by kernel_rfl) (by kernel_rfl) (by kernel_rfl) (by intro _ _ _ h; exact h) (by kernel_rfl) (by first | exact hS | assumption) ?_; simp only [Act.put, Array.getInternal_eq_getElem, List.take_succ_cons, List.take_zero, List.take_nil, List.getElem_toArray, List.getElem_cons_succ, List.getElem_cons_zero, List.setIfInBounds_toArray, List.set_cons_succ, List.set_cons_zero]
        refine held_pass 23 rfl (by kernel_rfl) (by kernel_rfl) (by kernel_rfl) (by intro _ _ _ h; exact h) (by kernel_rfl) (by first | exact hS | assumption) ?_; simp only [Act.put, Array.getInternal_eq_getElem, List.take_succ_cons, List.take_zero, List.take_nil, List.getElem_toArray, List.getElem_cons_succ, List.getElem_cons_zero, List.setIfInBounds_toArray, List.set_cons_succ, List.set_cons_zero]
        refine held_pass 24 rfl (by kernel_rfl) (by kernel_rfl) (by kernel_rfl) (by intro _ _ _ h; exact h) (by kernel_rfl) (by first | exact hS | assumption) ?_; simp only [Act.put, Array.getInternal_eq_getElem, List.take_succ_cons, List.take_zero, List.take_nil, List.getElem_toArray, List.getElem_cons_succ, List.getElem_cons_zero, List.setIfInBounds_toArray, List.set_cons_succ, List.set_cons_zero]
        refine held_take 25 (.bool true) rfl (by kernel_rfl) (by kernel_rfl) (by kernel_rfl) (by intro _ _ _ h; first | exact h | (simpa [behind, Act.put] using h)) rfl (by first | exact hS | assumption) (fun wq hq => ?_) ?_; (focus (simp [go_sem]; done)); simp only [Act.put, Array.getInternal_eq_getElem, List.take_succ_cons, List.take_zero, List.take_nil, List.getElem_toArray, List.getElem_cons_succ, List.getElem_cons_zero, List.setIfInBounds_toArray, List.set_cons_succ, List.set_cons_zero]
        refine held_done (by kernel_rfl) ?_
        refine any_done (by kernel_rfl) ⟨rfl, Keep.of_below k1, ?_⟩
        show Exec _ _ (Code.cond _ _ _) _ _ _
        refine exec_cond (b := true) rfl (fun _ => ?_) (fun h => by cases h)
        have hr : R = false := HF.out (by rw [HKO.out]; rfl)
        subst hr
        refine exec_seq (exec_region_o fun ds => ?_)
        gi_wp2
        refine eq_mk (Keep.refl _) ?_
        show Exec _ _ _ _ _ _
        exact exec_ret ⟨.inr rfl, fun W' hG => ⟨.bool false, by simp [results, Try.f22, go_sem], rfl, hB1.trans (hG.below (Nat.le_refl _) hB1.size)⟩⟩
      | true =>
        refine held_take 11 (.bool false) rfl (by kernel_rfl) (by kernel_rfl) (by kernel_rfl) (by intro _ _ _ h; first | exact h | (simpa [behind, Act.put] using h)) rfl (by first | exact hS | assumption) (fun wq hq => ?_) ?_; (focus (simp [go_sem]; done)); simp only [Act.put, Array.getInternal_eq_getElem, List.take_succ_cons, List.take_zero, List.take_nil, List.getElem_toArray, List.getElem_cons_succ, List.getElem_cons_zero, List.setIfInBounds_toArray, List.set_cons_succ, List.set_cons_zero]
        refine held_take 12 (.bool false) rfl (by kernel_rfl) (by kernel_rfl) (by kernel_rfl) (by intro _ _ _ h; first | exact h | (simpa [behind, Act.put] using h)) rfl (by first | exact hS | assumption) (fun wq hq => ?_) ?_; (focus (simp [go_sem]; done)); simp only [Act.put, Array.getInternal_eq_getElem, List.take_succ_cons, List.take_zero, List.take_nil, List.getElem_toArray, List.getElem_cons_succ, List.getElem_cons_zero, List.setIfInBounds_toArray, List.set_cons_succ, List.set_cons_zero]
        refine held_take 13 (.pointer (some ⟨w.heap.size, 2, none⟩)) rfl (by kernel_rfl) (by kernel_rfl) (by kernel_rfl) (by intro _ _ _ h; exact h) (by kernel_rfl) (by first | exact hS | assumption) (fun wq hq => ?_) ?_; (focus (simp [go_sem, hu25]; done)); simp only [Act.put, Array.getInternal_eq_getElem, List.take_succ_cons, List.take_zero, List.take_nil, List.getElem_toArray, List.getElem_cons_succ, List.getElem_cons_zero, List.setIfInBounds_toArray, List.set_cons_succ, List.set_cons_zero]
        refine held_take 14 (.slice (some ad) a.K.length a.cK) rfl (by kernel_rfl) (by kernel_rfl) (by kernel_rfl) (by intro _ _ _ h; exact h) (by kernel_rfl) (by first | exact hS | assumption) (fun wq hq => ?_) ?_; (focus (simp [go_sem, c2 wq hq]; done)); simp only [Act.put, Array.getInternal_eq_getElem, List.take_succ_cons, List.take_zero, List.take_nil, List.getElem_toArray, List.getElem_cons_succ, List.getElem_cons_zero, List.setIfInBounds_toArray, List.set_cons_succ, List.set_cons_zero]
        refine held_take 15 (iv k) rfl (by kernel_rfl) (by kernel_rfl) (by kernel_rfl) (by intro _ _ _ h; exact h) (by kernel_rfl) (by first | exact hS | assumption) (fun wq hq => ?_) ?_; (focus (simp [go_sem]; done)); simp only [Act.put, Array.getInternal_eq_getElem, List.take_succ_cons, List.take_zero, List.take_nil, List.getElem_toArray, List.getElem_cons_succ, List.getElem_cons_zero, List.setIfInBounds_toArray, List.set_cons_succ, List.set_cons_zero]
        refine held_take 16 (.pointer (some (ad.add (k * 2)))) rfl (by kernel_rfl) (by kernel_rfl) (by kernel_rfl) (by intro _ _ _ h; exact h) (by kernel_rfl) (by first | exact hS | assumption) (fun wq hq => ?_) ?_; (focus (simp [go_sem, hu23, hkI]; done)); simp only [Act.put, Array.getInternal_eq_getElem, List.take_succ_cons, List.take_zero, List.take_nil, List.getElem_toArray, List.getElem_cons_succ, List.getElem_cons_zero, List.setIfInBounds_toArray, List.set_cons_succ, List.set_cons_zero]
        refine held_take 17 (.pointer (some ⟨(ad.add (k * 2)).block, (ad.add (k * 2)).off + 1, none⟩)) rfl (by kernel_rfl) (by kernel_rfl) (by kernel_rfl) (by intro _ _ _ h; exact h) (by kernel_rfl) (by first | exact hS | assumption) (fun wq hq => ?_) ?_; (focus (simp [go_sem, hu50]; done)); simp only [Act.put, Array.getInternal_eq_getElem, List.take_succ_cons, List.take_zero, List.take_nil, List.getElem_toArray, List.getElem_cons_succ, List.getElem_cons_zero, List.setIfInBounds_toArray, List.set_cons_succ, List.set_cons_zero]
        refine held_take 18 (vi y2) rfl (by kernel_rfl) (by kernel_rfl) (by kernel_rfl) (by intro _ _ _ h; exact h) (by kernel_rfl) (by first | exact hS | assumption) (fun wq hq => ?_) ?_; (focus (simp [go_sem, (hS0 hq).2]; done)); simp only [Act.put, Array.getInternal_eq_getElem, List.take_succ_cons, List.take_zero, List.take_nil, List.getElem_toArray, List.getElem_cons_succ, List.getElem_cons_zero, List.setIfInBounds_toArray, List.set_cons_succ, List.set_cons_zero]
        refine held_take 19 (.pointer (some ⟨w.heap.size, 1, none⟩)) rfl (by kernel_rfl) (by kernel_rfl) (by kernel_rfl) (by intro _ _ _ h; exact h) (by kernel_rfl) (by first | exact hS | assumption) (fun wq hq => ?_) ?_; (focus (simp [go_sem, hu25]; done)); simp only [Act.put, Array.getInternal_eq_getElem, List.take_succ_cons, List.take_zero, List.take_nil, List.getElem_toArray, List.getElem_cons_succ, List.getElem_cons_zero, List.setIfInBounds_toArray, List.set_cons_succ, List.set_cons_zero]
        refine held_take 20 (.slice a.AN a.N.length a.cN) rfl (by kernel_rfl) (by kernel_rfl) (by kernel_rfl) (by intro _ _ _ h; exact h) (by kernel_rfl) (by first | exact hS | assumption) (fun wq hq => ?_) ?_; (focus (simp [go_sem, c1 wq hq]; done)); simp only [Act.put, Array.getInternal_eq_getElem, List.take_succ_cons, List.take_zero, List.take_nil, List.getElem_toArray, List.getElem_cons_succ, List.getElem_cons_zero, List.setIfInBounds_toArray, List.set_cons_succ, List.set_cons_zero]
        refine held_take 21 (iv a.N.length) rfl (by kernel_rfl) (by kernel_rfl) (by kernel_rfl) (by intro _ _ _ h; exact h) (by kernel_rfl) (by first | exact hS | assumption) (fun wq hq => ?_) ?_; (focus (simp [go_sem]; done)); simp only [Act.put, Array.getInternal_eq_getElem, List.take_succ_cons, List.take_zero, List.take_nil, List.getElem_toArray, List.getElem_cons_succ, List.getElem_cons_zero, List.setIfInBounds_toArray, List.set_cons_succ, List.set_cons_zero]
        refine held_take 22 (vi ((a.N.length : Int) - 1)) rfl (by kernel_rfl) (by kernel_rfl) (by kernel_rfl) (by intro _ _ _ h; exact h) (by kernel_rfl) (by first | exact hS | assumption) (fun wq hq => ?_) ?_; (focus (simp [go_sem, hw2]; done)); simp only [Act.put, Array.getInternal_eq_getElem, List.take_succ_cons, List.take_zero, List.take_nil, List.getElem_toArray, List.getElem_cons_succ, List.getElem_cons_zero, List.setIfInBounds_toArray, List.set_cons_succ, List.set_cons_zero]
        refine held_call 23 (f := 70) (args := #[vi y2, vi 0, vi ((a.N.length : Int) - 1)]) rfl (by kernel_rfl) (by kernel_rfl) (by simp [go_sem]) ?_
        refine (in70 y2 0 ((a.N.length : Int) - 1) X1).mono ?_
        rintro e X2 ⟨rfl, hx2⟩
        have k2 : Below W.heap.size W X2 := k1.trans (hx2.mono k1.size)
        refine .inl ⟨_, rfl, k2, ?_⟩
        simp only [Act.put, Array.getInternal_eq_getElem, List.take_succ_cons, List.take_zero, List.take_nil, List.getElem_toArray, List.getElem_cons_succ, List.getElem_cons_zero, List.setIfInBounds_toArray, List.set_cons_succ, List.set_cons_zero]
        generalize inB y2 0 ((a.N.length : Int) - 1) = q2 at *
        refine held_take 24 (.bool (!q2)) rfl (by kernel_rfl) (by kernel_rfl) (by kernel_rfl) (by intro _ _ _ h; exact h) (by kernel_rfl) (by first | exact hS | assumption) (fun wq hq => ?_) ?_; (focus (simp [go_sem]; done)); simp only [Act.put, Array.getInternal_eq_getElem, List.take_succ_cons, List.take_zero, List.take_nil, List.getElem_toArray, List.getElem_cons_succ, List.getElem_cons_zero, List.setIfInBounds_toArray, List.set_cons_succ, List.set_cons_zero]
        refine held_take 25 (.bool (!q2)) rfl (by kernel_rfl) (by kernel_rfl) (by kernel_rfl) (by intro _ _ _ h; exact h) (by kernel_rfl) (by first | exact hS | assumption) (fun wq hq => ?_) ?_; (focus (simp [go_sem]; done)); simp only [Act.put, Array.getInternal_eq_getElem, List.take_succ_cons, List.take_zero, List.take_nil, List.getElem_toArray, List.getElem_cons_succ, List.getElem_cons_zero, List.setIfInBounds_toArray, List.set_cons_succ, List.set_cons_zero]
        refine held_done (by kernel_rfl) ?_
        refine any_done (by kernel_rfl) ⟨rfl, Keep.of_below k2, ?_⟩
        show Exec _ _ (Code.cond _ _ _) _ _ _
        have hB2 := hV.trans (k2.mono hV.size)
        cases q2 with
        | true =>
          refine exec_cond (b := false) rfl (fun h => by cases h) (fun _ => exec_skip ?_)
          exact ⟨by rw [HKO.out]; rfl, hX.keep k2, hB2, by simp [Slots, Fits]⟩
        | false =>
          refine exec_cond (b := true) rfl (fun _ => ?_) (fun h => by cases h)
          have hr : R = false := HF.out (by rw [HKO.out]; rfl)
          subst hr
          refine exec_seq (exec_region_o fun ds => ?_)
          gi_wp2
          refine eq_mk (Keep.refl _) ?_
          show Exec _ _ _ _ _ _
          exact exec_ret ⟨.inr rfl, fun W' hG => ⟨.bool false, by simp [results, Try.f22, go_sem], rfl, hB2.trans (hG.below (Nat.le_refl _) hB2.size)⟩⟩
    · clear hV hX hc1 hc2 c0 c1 c2 hS0 x
      clear W
      rintro t' Y ⟨hy, hX, hV, hSl⟩
      have hT2 := HY.out hy
      have HT2 := Lib.hid hT2
      clear hT2 hy
      obtain ⟨x, hx⟩ := Slots.open_ hSl; simp only [fill, Nat.reduceAdd] at hx; subst hx; clear hSl
      have hw : IntKind.i64.wrap ((k : Int) + 1) = ((k + 1 : Nat) : Int) := by rw [IntWalk.i64_in _ (by omega)]; norm_cast
      refine exec_region_o fun ds => ?_
      gi_wp2
      exact eq_mk (Keep.refl _) ⟨n - 1, by rw [HN.out]; omega, k + 1, by omega, by rw [HN.out]; omega, HT2.out, hX, hV, by simp only [Slots, Fits, and_self]; simp⟩
  · have hkl : k = a.K.length := by have := of_decide_eq_false hp; omega
    have htk := HT.out
    rw [hkl, List.take_length] at htk
    have hka : a.K.any (kinOut a.L.length a.N.length) = false := List.any_eq_false.2 fun y hy => by simp [htk y hy]
    have hR := HR.out
    rw [hka, Bool.not_false, Bool.and_true] at hR
    have HR2 := Lib.hid hR
    clear hR hka htk
    have e0 := c0 W (Below.refl _ _)
    have e1 := c1 W (Below.refl _ _)
    show Exec _ _ (Code.seq _ _) _ _ _
    have hl1 : (a.L.length ≤ 6) ∨ ¬ a.L.length ≤ 6 := Classical.em _
    have hn1 : (a.N.length ≤ 6) ∨ ¬ a.N.length ≤ 6 := Classical.em _
    have hk1 : (a.K.length ≤ 10) ∨ ¬ a.K.length ≤ 10 := Classical.em _
    refine exec_seq (exec_region_o fun ds => ?_)
    have hno : ¬ (a.L.length ≤ 6 ∧ a.N.length ≤ 6 ∧ a.K.length ≤ 10) → R = false := fun c => by
      rw [← HR2.out]
      by_cases x1 : a.L.length ≤ 6 <;> by_cases x2 : a.N.length ≤ 6 <;> by_cases x3 : a.K.length ≤ 10 <;> first | (simp [x1, x2, x3]; done) | exact absurd ⟨x1, x2, x3⟩ c
    have hyes : a.L.length ≤ 6 → a.N.length ≤ 6 → a.K.length ≤ 10 → R = ((a.L.all fun y => inB y 0 6) && (a.N.all fun y => inB y 0 3)) := fun x1 x2 x3 => by
      rw [← HR2.out]
      simp [x1, x2, x3]
    have HNo := Lib.hid hno
    have HYes := Lib.hid hyes
    clear hno hyes
    rcases hl1 with hl1 | hl1
    · rcases hn1 with hn1 | hn1
      · rcases hk1 with hk1 | hk1
        · have hr := HYes.out hl1 hn1 hk1
          have HRR := Lib.hid hr
          clear hr HYes HNo
          gi_wp2_with fail
          refine ⟨trivial, rfl, (callsIn_wide.2 (all72 a.AL a.cL a.L (by omega) 6 W hX.at_.l)).mono ?_⟩
          rintro e X1 ⟨rfl, hx1⟩
          have hX1 := hX.keep hx1
          have hB1 := hV.trans (hx1.mono hV.size)
          have e1 := c1 X1 hx1
          have hK1 := Keep.of_below hx1
          generalize (a.L.all fun y => inB y 0 6) = q1 at *
          cases q1 with
          | false =>
            have hr : R = false := HRR.out
            subst hr
            gi_wp2
            first | refine ⟨trivial, ?_⟩ | skip
            rename_i hK
            refine hK _ _ ?_
            gi_wp2
            refine eq_mk hK1 ?_
            show Exec _ _ _ _ _ _
            exact exec_ret ⟨.inr rfl, fun W' hG => ⟨.bool false, by simp [results, Try.f22, go_sem], rfl, hB1.trans (hG.below (Nat.le_refl _) hB1.size)⟩⟩
          | true =>
            have hr : R = (a.N.all fun y => inB y 0 3) := HRR.out
            subst hr
            gi_wp2_with fail
            refine ⟨trivial, rfl, (callsIn_wide.2 (all72 a.AN a.cN a.N (by omega) 3 X1 hX1.at_.n)).mono ?_⟩
            rintro e X2 ⟨rfl, hx2⟩
            have hB2 := hB1.trans (hx2.mono hB1.size)
            have hK2 := hK1.trans (Keep.of_below hx2)
            gi_wp2
            refine eq_mk hK2 ?_
            show Exec _ _ _ _ _ _
            exact exec_ret ⟨.inr rfl, fun W' hG => ⟨.bool (a.N.all fun y => inB y 0 3), by simp [results, Try.f22, go_sem], rfl, hB2.trans (hG.below (Nat.le_refl _) hB2.size)⟩⟩
        · have hr : R = false := HNo.out (fun c => hk1 c.2.2)
          subst hr
          have hkI : ¬ ((a.K.length : Int) ≤ 10) := by omega
          clear HYes HNo
          gi_wp2
          first | refine ⟨trivial, ?_⟩ | skip
          rename_i hK
          refine hK _ _ ?_
          gi_wp2
          first | refine ⟨trivial, ?_⟩ | skip
          rename_i hK
          refine hK _ _ ?_
          gi_wp2
          refine eq_mk (Keep.refl _) ?_
          show Exec _ _ _ _ _ _
          exact exec_ret ⟨.inr rfl, fun W' hG => ⟨.bool false, by simp [results, Try.f22, go_sem], rfl, hV.trans (hG.below (Nat.le_refl _) hV.size)⟩⟩
      · have hr : R = false := HNo.out (fun c => hn1 c.2.1)
        subst hr
        have hnI : ¬ ((a.N.length : Int) ≤ 6) := by omega
        clear HYes HNo hk1
        gi_wp2
        first | refine ⟨trivial, ?_⟩ | skip
        rename_i hK
        refine hK _ _ ?_
        gi_wp2
        first | refine ⟨trivial, ?_⟩ | skip
        rename_i hK
        refine hK _ _ ?_
        gi_wp2
        refine eq_mk (Keep.refl _) ?_
        show Exec _ _ _ _ _ _
        exact exec_ret ⟨.inr rfl, fun W' hG => ⟨.bool false, by simp [results, Try.f22, go_sem], rfl, hV.trans (hG.below (Nat.le_refl _) hV.size)⟩⟩
    · have hr : R = false := HNo.out (fun c => hl1 c.1)
      subst hr
      have hlI : ¬ ((a.L.length : Int) ≤ 6) := by omega
      clear HYes HNo hk1 hn1
      gi_wp2
      first | refine ⟨trivial, ?_⟩ | skip
      rename_i hK
      refine hK _ _ ?_
      gi_wp2
      first | refine ⟨trivial, ?_⟩ | skip
      rename_i hK
      refine hK _ _ ?_
      gi_wp2
      refine eq_mk (Keep.refl _) ?_
      show Exec _ _ _ _ _ _
      exact exec_ret ⟨.inr rfl, fun W' hG => ⟨.bool false, by simp [results, Try.f22, go_sem], rfl, hV.trans (hG.below (Nat.le_refl _) hV.size)⟩⟩
end Go.Proofs.Ytbdmmikflkpmpaa
end

section
namespace Go.Proofs.Ytbdmmikflkpmpaa
open Go.RowKit Go.TL Go.Shelf Go.Pn
attribute [local go_sem] Oper.semAt_some
attribute [local go_sem] run_store_func
structure XP.Row (x : XP) (w : World) : Prop where
  l : RowV w x.AL (x.L.map vi)
  n : RowV w x.AN (x.N.map vi)
  k : RowKI w x.AK x.K
theorem XP.Row.at_ {x : XP} {w : World} (h : x.Row w) (h1 : x.L.length ≤ 40) (h2 : x.N.length ≤ 40) (h3 : x.K.length ≤ 40) : x.At w := ⟨h.l, h.n, h.k, h1, h2, h3⟩
theorem XP.Row.below {x : XP} {w w' : World} (h : x.Row w) (hb : Below w.heap.size w w') : x.Row w' := ⟨h.l.below hb, h.n.below hb, h.k.grow (Grow.of_below (B := 0) hb)⟩
def XP.small (x : XP) : Bool := decide (x.L.length ≤ 40) && decide (x.N.length ≤ 40) && decide (x.K.length ≤ 40)
def XP.big (x : XP) (j p k : Nat) : Bool := decide (j < x.L.length) || decide (p < x.N.length) || decide (k < x.K.length)
def heavyB (x : XP) (j p k : Nat) : Bool := !x.small || (x.isP && x.big j p k)
set_option maxRecDepth 100000 in
set_option maxHeartbeats 1000000 in
theorem heavy13 (a : XP) (j p k : Nat) (w : World) (ha : a.Row w) : Calls Try.prog 13 #[a.val, iv j, iv p, iv k] w fun e w' => e = .returned (.bool (heavyB a j p k)) ∧ Below w.heap.size w w' := by
  have hu25 := Try.underlying25
  obtain ⟨R, hR⟩ : ∃ R, heavyB a j p k = R := ⟨_, rfl⟩
  rw [hR]
  have HR := Lib.hid hR
  clear hR
  refine calls_of_exec Try.func13 rfl ?_
  simp only [Try.ntmps13, List.size_toArray, List.length_cons, List.length_nil, Nat.reduceAdd, Nat.reduceSub, Array.replicate_succ, Array.replicate_zero, List.push_toArray, List.append_toArray, List.nil_append, List.cons_append]
  simp only [XP.val]
  refine exec_seq (exec_region_o fun ds => ?_)
  gi_wp2
  refine eq_mk ((Keep.refl _).alloc _) ?_
  show Exec _ _ (Code.seq (Code.seq _ _) _) _ (w.alloc (.cells #[a.sL, a.sN, a.sK] 25)) _
  have hB := (Below.refl w.heap.size w).alloc (Nat.le_refl _) (.cells #[a.sL, a.sN, a.sK] 25)
  have hh : (w.alloc (.cells #[a.sL, a.sN, a.sK] 25)).heap[w.heap.size]? = some (.cells #[a.sL, a.sN, a.sK] 25 (0, 0)) := World.alloc_heap_new _ _
  have hX := ha.below hB
  generalize w.alloc (.cells #[a.sL, a.sN, a.sK] 25) = X at *
  have hh2 := hh
  simp only [XP.sL, XP.sN, XP.sK] at hh2
  have c0 := cells_get (cs := [_, _, _]) (k := 0) hh2 rfl
  have c1 := cells_get (cs := [_, _, _]) (k := 1) hh2 rfl
  have c2 := cells_get (cs := [_, _, _]) (k := 2) hh2 rfl
  refine exec_seq (exec_cut (fun t' W' => W' = X ∧ Slots (none :: some (iv j) :: some (iv p) :: some (iv k) :: some (.pointer (some ⟨w.heap.size, 0, none⟩)) :: none :: none :: none :: some (.bool false) :: none :: none :: o4 (o4 (some (.bool (!a.small)) :: none :: none :: none :: o4 (o16 [])))) t') (exec_region_o fun ds => ?_) ?_)
  · obtain ⟨S, hS⟩ : ∃ S, (!a.small) = S := ⟨_, rfl⟩
    simp only [hS]
    have HS := Lib.hid hS
    clear hS
    gi_wp2
    all_goals
      refine eq_mk (Keep.refl _) ⟨rfl, ?_⟩
      simp only [Slots, Fits, true_and, and_true, and_self, Value.bool.injEq]
      rw [← HS.out, Bool.eq_iff_iff]
      simp only [XP.small, decide_eq_true_eq, Bool.not_eq_true', Bool.and_eq_false_iff, decide_eq_false_iff_not]
      omega
  · rintro t X' ⟨rfl, hSl⟩
    obtain ⟨x, hx⟩ := Slots.open_ hSl; simp only [fill, Nat.reduceAdd] at hx; subst hx; clear hSl
    show Exec _ _ (Code.cond _ _ _) _ _ _
    cases hs : a.small with
    | false =>
      have hr : R = true := by rw [← HR.out]; simp [heavyB, hs]
      subst hr
      refine exec_cond (b := true) rfl (fun _ => ?_) (fun h => by cases h)
      refine exec_seq (exec_region_o fun ds => ?_)
      gi_wp2
      refine eq_mk (Keep.refl _) ?_
      show Exec _ _ _ _ _ _
      exact exec_ret ⟨.inr rfl, fun W' hG => ⟨.bool true, by simp [results, Try.f13, go_sem], rfl, hB.trans (hG.below (Nat.le_refl _) hB.size)⟩⟩
    | true =>
      have h3 : (a.L.length ≤ 40 ∧ a.N.length ≤ 40) ∧ a.K.length ≤ 40 := by
        simpa [XP.small] using hs
      have hr : R = (a.isP && a.big j p k) := by rw [← HR.out]; simp [heavyB, hs]
      refine exec_cond (b := false) rfl (fun h => by cases h) (fun _ => exec_skip ?_)
      have hat := hX.at_ h3.1.1 h3.1.2 h3.2
      have HRR := Lib.hid hr
      clear hr hs HR c0 c1 c2
      have c0 := cells_get (cs := [_, _, _]) (k := 0) hh rfl
      have c1 := cells_get (cs := [_, _, _]) (k := 1) hh rfl
      have c2 := cells_get (cs := [_, _, _]) (k := 2) hh rfl
      show Exec _ _ (Code.seq _ _) _ _ _
      refine exec_cut (fun t' W' => Below w.heap.size w W' ∧ Slots (o4 (o4 (some (.bool R) :: none :: none :: o16 (o16 [])))) t') (exec_region_o fun ds => ?_) ?_
      · gi_wp2_with fail
        refine ⟨trivial, rfl, (callsIn_wide.2 (panels22 a X' hat)).mono ?_⟩
        rintro e Y ⟨rfl, hy⟩
        have hBY := hB.trans (hy.mono hB.size)
        have hhY := (hy.block _ (heap_lt hh)).trans hh
        simp only [XP.sL, XP.sN, XP.sK] at hhY
        clear c0 c1 c2
        have c0 := cells_get (cs := [_, _, _]) (k := 0) hhY rfl
        have c1 := cells_get (cs := [_, _, _]) (k := 1) hhY rfl
        have c2 := cells_get (cs := [_, _, _]) (k := 2) hhY rfl
        have hKY := Keep.of_below hy
        clear hy
        cases hq : a.isP with
        | false =>
          have hr : R = false := by rw [HRR.out, hq]; rfl
          subst hr
          clear hq
          gi_wp2
          all_goals first | exact eq_mk hKY ⟨hBY, (by simp only [Slots, Fits, and_self])⟩ | (rename_i h1 h2; cases h1; done) | (rename_i h1 h2; simp [undef] at h1; done)
        | true =>
          have hr : R = a.big j p k := by rw [HRR.out, hq]; rfl
          have HR2 := Lib.hid hr
          clear hr hq
          gi_wp2
          all_goals
            refine eq_mk hKY ⟨hBY, ?_⟩
            simp only [Slots, Fits, true_and, and_true, and_self, Value.bool.injEq]
            rw [HR2.out]
            unfold XP.big
            first
              | (rw [eq_comm, Bool.eq_iff_iff]; simp only [Bool.or_eq_true, decide_eq_true_eq]; done)
              | (rw [eq_comm, Bool.eq_iff_iff]; simp only [Bool.or_eq_true, decide_eq_true_eq]; omega)
              | (symm; simp only [Bool.or_eq_true, decide_eq_true_eq, Bool.or_eq_false_iff, decide_eq_false_iff_not]; done)
              | (symm; simp only [Bool.or_eq_true, decide_eq_true_eq, Bool.or_eq_false_iff, decide_eq_false_iff_not]; omega)
              | (rename_i h1 h2; simp [h1, h2]; done)
      · rintro t' Y ⟨hBY, hSl⟩
        obtain ⟨x, hx⟩ := Slots.open_ hSl; simp only [fill, Nat.reduceAdd] at hx; subst hx; clear hSl
        exact exec_ret ⟨.inr rfl, fun W' hG => ⟨.bool R, by simp [results, Try.f13, go_sem], rfl, hBY.trans (hG.below (Nat.le_refl _) hBY.size)⟩⟩
end Go.Proofs.Ytbdmmikflkpmpaa
end

section
namespace Go.Proofs.Ytbdmmikflkpmpaa
open Go.RowKit Go.TL Go.Shelf Go.Pn
attribute [local go_sem] Oper.semAt_some
attribute [local go_sem] run_store_func
def bitsTo (s k : Nat) : Nat := sumN (fun j => b1 (s.testBit j)) k
def SzI (w : World) (s : Nat) (n : Nat) (t : Array Value) (W : World) : Prop :=
  ∃ k : Nat, k ≤ 10 ∧ n = 10 - k ∧ Below w.heap.size w W ∧ Slots (some (iv (s / 2 ^ k)) :: none :: none :: some (iv (bitsTo s k)) :: none :: o4 (o4 [])) t
set_option maxRecDepth 100000 in
set_option maxHeartbeats 1000000 in
theorem size30 (s : Nat) (hs : s < 1024) (w : World) : Calls Try.prog 30 #[iv s] w fun e w' => e = .returned (iv (pop s)) ∧ Below w.heap.size w w' := by
  refine calls_of_exec Try.func30 rfl ?_
  simp only [Try.ntmps30, List.size_toArray, List.length_cons, List.length_nil, Nat.reduceAdd, Nat.reduceSub, Array.replicate_succ, Array.replicate_zero, List.push_toArray, List.append_toArray, List.nil_append, List.cons_append]
  refine exec_seq (exec_region_o fun ds => ?_)
  gi_wp2
  refine eq_mk (Keep.refl w) ?_
  show Exec _ _ (Code.seq _ _) _ _ _
  refine exec_seq (exec_region_o fun ds => ?_)
  gi_wp2
  refine eq_mk (Keep.refl _) ?_
  show Exec _ _ (Code.seq (Code.block _ _) _) _ _ _
  refine exec_seq (exec_block ?_)
  refine exec_loop (SzI w s) 10 ⟨0, by omega, rfl, Below.refl _ _, by simp [Slots, Fits, bitsTo, sumN]⟩ ?_
  rintro n t W ⟨k, hk, hn, hV, hSl⟩
  have HN := Lib.hid hn
  clear hn
  have hble : bitsTo s k ≤ k := by
    have := sumN_le (f := fun j => b1 (s.testBit j)) (g := fun _ => 1) k (fun i _ => by unfold b1; split <;> omega)
    have h1 : ∀ k, sumN (fun _ => 1) k = k := fun k => by
      induction k with
      | zero => rfl
      | succ k ih => show sumN _ k + 1 = _; rw [ih]
    rw [h1] at this
    exact this
  have hdle : s / 2 ^ k ≤ s := Nat.div_le_self _ _
  have hnext : bitsTo s (k + 1) = bitsTo s k + (s / 2 ^ k) % 2 := by
    show bitsTo s k + b1 (s.testBit k) = _
    congr 1
    rw [Nat.testBit_eq_decide_div_mod_eq]
    unfold b1
    have := Nat.mod_lt (s / 2 ^ k) (show 0 < 2 by omega)
    by_cases h : s / 2 ^ k % 2 = 1
    · rw [if_pos (decide_eq_true h), h]
    · rw [if_neg (by simp [h])]
      omega
  have hdiv : s / 2 ^ (k + 1) = s / 2 ^ k / 2 := by rw [Nat.pow_succ, Nat.div_div_eq_div_mul]
  have hend : s / 2 ^ k = 0 → pop s = bitsTo s k := fun h => by
    have hlt : s < 2 ^ k := by
      have := Nat.div_eq_zero_iff.1 h
      rcases this with h | h
      · have := Nat.pow_pos (n := k) (show 0 < 2 by omega)
        omega
      · exact h
    exact pop_n hlt hk
  have hten : k = 10 → s / 2 ^ k = 0 := fun h => by rw [h]; exact Nat.div_eq_of_lt hs
  obtain ⟨d, hd⟩ : ∃ d, s / 2 ^ k = d := ⟨_, rfl⟩
  rw [hd] at hSl hdle hnext hdiv hend hten
  have H1 := Lib.hid hnext
  have H2 := Lib.hid hdiv
  have H3 := Lib.hid hend
  clear hd hnext hdiv hend
  generalize hbk : bitsTo s k = bk at *
  have HB := Lib.hid hbk
  clear hbk
  obtain ⟨x, hx⟩ := Slots.open_ hSl; simp only [fill, Nat.reduceAdd] at hx; subst hx; clear hSl
  show Exec _ _ (Code.seq (Code.seq _ _) _) _ _ _
  refine exec_seq (exec_seq (exec_region_o fun ds => ?_))
  gi_wp2
  refine eq_mk (Keep.refl _) ?_
  show Exec _ _ (Code.cond _ _ _) _ _ _
  refine (exec_cond (b := decide (0 < d)) (by first | rfl | (show Value.bool _ = _; congr 1; exact decide_eq_decide.2 (by omega))) (fun hp => exec_skip ?_) (fun hp => exec_exit ?_))
  · have hd0 : 0 < d := of_decide_eq_true hp
    have hk10 : k < 10 := by
      apply Classical.byContradiction
      intro c
      have := hten (by omega)
      omega
    clear hten
    have hr : (d : Int).tmod 2 = ((d % 2 : Nat) : Int) := by rw [Int.tmod_eq_emod_of_nonneg (by omega)]; omega
    have hq : (d : Int).tdiv 2 = ((d / 2 : Nat) : Int) := by rw [Int.tdiv_eq_ediv_of_nonneg (by omega)]; omega
    have hw1 : IntKind.i64.wrap ((d % 2 : Nat) : Int) = ((d % 2 : Nat) : Int) := IntWalk.i64_in _ (by omega)
    have hw2 : IntKind.i64.wrap ((d / 2 : Nat) : Int) = ((d / 2 : Nat) : Int) := IntWalk.i64_in _ (by omega)
    have hw3 : IntKind.i64.wrap ((bk : Int) + ((d % 2 : Nat) : Int)) = ((bk + d % 2 : Nat) : Int) := by rw [IntWalk.i64_in _ (by omega)]; norm_cast
    show Exec _ _ (Code.block _ _) _ _ _
    refine exec_block (exec_seq (exec_region_o fun ds => ?_))
    gi_wp2
    refine eq_mk (Keep.refl _) ?_
    show Exec _ _ _ _ _ _
    refine exec_region_o fun ds => ?_
    gi_wp2
    refine eq_mk (Keep.refl _) ⟨n - 1, by rw [HN.out]; omega, k + 1, by omega, by rw [HN.out]; omega, hV, ?_⟩
    rw [H1.out, H2.out]
    simp only [Slots, Fits, and_self, true_and, and_true]
    exact ⟨by simp, by simp⟩
  · have hd0 : d = 0 := by have := of_decide_eq_false hp; omega
    have hp := H3.out hd0
    have HP := Lib.hid hp
    clear hp
    show Exec _ _ (Code.seq _ _) _ _ _
    refine exec_seq (exec_region_o fun ds => ?_)
    gi_wp2
    refine eq_mk (Keep.refl _) ?_
    show Exec _ _ _ _ _ _
    exact exec_ret ⟨.inr rfl, fun W' hG => ⟨iv bk, by simp [results, Try.f30, go_sem], by rw [HP.out], hV.trans (hG.below (Nat.le_refl _) hV.size)⟩⟩
end Go.Proofs.Ytbdmmikflkpmpaa
end

section
namespace Go.Proofs.Ytbdmmikflkpmpaa
open Go.RowKit Go.TL Go.Shelf Go.Pn
attribute [local go_sem] Oper.semAt_some
attribute [local go_sem] run_store_func
theorem and_i (a b : Nat) (ha : a < 2 ^ 63) (hb : b < 2 ^ 63) : bits .and .i64 (a : Int) (b : Int) = ((a &&& b : Nat) : Int) := (bits_nat .i64 63 (by decide) wrapi a b ha hb).1
theorem div_pow_cast (s x : Nat) : (s : Int) / (2 : Int) ^ x = ((s / 2 ^ x : Nat) : Int) := by rw [pow_cast]; norm_cast
theorem bit_and (s x : Nat) : s / 2 ^ x &&& 1 = b1 (s.testBit x) := by
  rw [Nat.and_one_is_mod, Nat.testBit_eq_decide_div_mod_eq]
  unfold b1
  have := Nat.mod_lt (s / 2 ^ x) (show 0 < 2 by omega)
  by_cases h : s / 2 ^ x % 2 = 1
  · rw [if_pos (decide_eq_true h), h]
  · rw [if_neg (by simp [h])]
    omega
theorem bit_i (s x : Nat) (hs : s < 2 ^ 62) : bits .and .i64 ((s : Int) / (2 : Int) ^ x) 1 = ((b1 (s.testBit x) : Nat) : Int) := by
  rw [div_pow_cast, show (1 : Int) = ((1 : Nat) : Int) from rfl, and_i _ _ (Nat.lt_of_le_of_lt (Nat.div_le_self _ _) (by omega)) (by decide), bit_and]
structure W38 (w : World) (a : XP) (v : Value) (M : List (Nat × Nat)) (W : World) : Prop where
  b2 : PBx W w.heap.size a
  b4 : W.heap[w.heap.size + 1]? = some (.cells #[.slice none 0 0, .slice none 0 0, .slice none 0 0] 25 (0, 0))
  b5 : W.heap[w.heap.size + 1 + 1]? = some (.cells #[a.sL, a.sN, v] 25 (0, 0))
  own : W.ownsRow (w.heap.size + 1 + 1 + 1) 50 2 v M.length (flatV M)
  below : Below w.heap.size w W
theorem W38.keep {w : World} {a : XP} {v : Value} {M : List (Nat × Nat)} {W W' : World} (h : W38 w a v M W) (hb : Below W.heap.size W W') : W38 w a v M W' := ⟨h.b2.keep hb, (hb.block _ (heap_lt h.b4)).trans h.b4, (hb.block _ (heap_lt h.b5)).trans h.b5, own_grow h.own (Grow.of_below (B := 0) hb), h.below.trans (hb.mono h.below.size)⟩
def XP.waived (a : XP) (A : Option Addr) (c s : Nat) : XP := { a with AK := A, cK := c, K := (waiveK s a.s3.2.2).map fun k => ((k.1 : Int), (k.2 : Int)) }
end Go.Proofs.Ytbdmmikflkpmpaa
end

section
namespace Go.Proofs.Ytbdmmikflkpmpaa
open Go.RowKit Go.TL Go.Shelf Go.Pn
attribute [local go_sem] Oper.semAt_some
attribute [local go_sem] run_store_func
theorem isP_of_fine {a : XP} (h : a.Fine) : a.isP = true := by
  rw [isP_eq]
  simp only [Bool.and_eq_true, decide_eq_true_eq, List.all_eq_true, Bool.not_eq_true', List.any_eq_false]
  refine ⟨⟨⟨⟨⟨h.j, h.p⟩, h.k⟩, fun y hy => ?_⟩, fun y hy => ?_⟩, fun y hy => ?_⟩
  · have := h.lb y hy
    simp [inB, this]
  · have := h.nb y hy
    simp [inB, this]
  · have := h.kb y hy
    have h1 : inB y.1 0 ((a.L.length : Int) - 1) = true := by
      unfold inB
      rw [Bool.and_eq_true, decide_eq_true_eq, decide_eq_true_eq]
      omega
    have h2 : inB y.2 0 ((a.N.length : Int) - 1) = true := by
      unfold inB
      rw [Bool.and_eq_true, decide_eq_true_eq, decide_eq_true_eq]
      omega
    simp [kinOut, h1, h2]
/-! ### The least set, in plain words -/
theorem pop_le {s n : Nat} (hs : s < 2 ^ n) (hn : n ≤ 10) : pop s ≤ n := by
  rw [pop_n hs hn]
  have := sumN_le (f := fun j => b1 (s.testBit j)) (g := fun _ => 1) n (fun i _ => by unfold b1; split <;> omega)
  have h1 : ∀ k, sumN (fun _ => 1) k = k := fun k => by
    induction k with
    | zero => rfl
    | succ k ih => show sumN _ k + 1 = _; rw [ih]
  rw [h1] at this
  exact this
theorem mem_bySize_iff {n s : Nat} (hn : n ≤ 10) : s ∈ bySize n ↔ s < 2 ^ n := by
  refine ⟨mem_bySize, fun h => ?_⟩
  unfold bySize
  rw [List.mem_flatten]
  exact ⟨ofSize n (pop s), List.mem_map.2 ⟨pop s, List.mem_range.2 (by have := pop_le h hn; omega), rfl⟩, List.mem_filter.2 ⟨List.mem_range.2 h, by simp⟩⟩
theorem range_find {q : Nat → Bool} {n s : Nat} (h : (List.range n).find? q = some s) : s < n ∧ q s = true ∧ ∀ t, t < s → q t = false := by
  obtain ⟨h1, as0, bs, h2, h3⟩ := List.find?_eq_some_iff_append.1 h
  have hs := List.mem_range.1 (List.mem_of_find?_eq_some h)
  refine ⟨hs, h1, fun t ht => ?_⟩
  have hl : as0.length = s := by
    have := congrArg (fun l => l[as0.length]?) h2
    try simp only at this
    rw [List.getElem?_append_right (Nat.le_refl _), Nat.sub_self, List.getElem?_cons_zero] at this
    have hlt := (List.getElem?_eq_some_iff.1 this).1
    rw [List.getElem?_range (by simpa using hlt)] at this
    exact Option.some.inj this
  have hm : t ∈ as0 := by
    have := congrArg (fun l => l[t]?) h2
    try simp only at this
    rw [List.getElem?_range (by omega), List.getElem?_append_left (by omega)] at this
    exact List.mem_of_getElem? this.symm
  have := h3 t hm
  simpa using this
theorem bySize_min {n s : Nat} {q : Nat → Bool} (hn : n ≤ 10) (h : (bySize n).find? q = some s) : s < 2 ^ n ∧ q s = true ∧ ∀ t, t < 2 ^ n → q t = true → pop s < pop t ∨ (pop s = pop t ∧ s ≤ t) := by
  have hq := List.find?_some h
  have hm := List.mem_of_find?_eq_some h
  refine ⟨mem_bySize hm, hq, fun t ht hqt => ?_⟩
  have hf : (bySize n).find? q = (List.range (n + 1)).findSome? fun z => (ofSize n z).find? q := by
    unfold bySize
    rw [← List.flatMap_def, List.find?_flatMap]
  rw [hf, List.findSome?_eq_some_iff] at h
  obtain ⟨l1, z, l2, hl, hz, hnone⟩ := h
  have hsz : s ∈ ofSize n z := List.mem_of_find?_eq_some hz
  have hps : pop s = z := by simpa using (List.mem_filter.1 hsz).2
  have hl1 : l1.length = z := by
    have := congrArg (fun l => l[l1.length]?) hl
    try simp only at this
    rw [List.getElem?_append_right (Nat.le_refl _), Nat.sub_self, List.getElem?_cons_zero] at this
    have hlt := (List.getElem?_eq_some_iff.1 this).1
    rw [List.getElem?_range (by simpa using hlt)] at this
    exact Option.some.inj this
  have htm : t ∈ ofSize n (pop t) := List.mem_filter.2 ⟨List.mem_range.2 ht, by simp⟩
  rcases Nat.lt_trichotomy (pop t) z with hlt | heq | hgt
  · have hzl : z < n + 1 := by
      have := congrArg List.length hl
      simp only [List.length_range, List.length_append, List.length_cons] at this
      omega
    have hmem : pop t ∈ l1 := by
      have := congrArg (fun l => l[pop t]?) hl
      try simp only at this
      rw [List.getElem?_range (by omega), List.getElem?_append_left (by omega)] at this
      exact List.mem_of_getElem? this.symm
    have := List.find?_eq_none.1 (hnone (pop t) hmem) t htm
    exact absurd hqt this
  · right
    refine ⟨by omega, ?_⟩
    rw [show ofSize n z = (List.range (2 ^ n)).filter fun s => pop s == z from rfl, List.find?_filter] at hz
    obtain ⟨_, _, h3⟩ := range_find hz
    apply Classical.byContradiction
    intro c
    have := h3 t (by omega)
    simp [hqt, heq] at this
  · left
    omega
theorem can_fewer {L N : List Nat} {K1 K2 : List (Nat × Nat)} (h1 : S3.Good (L, N, K1)) (h2 : S3.Good (L, N, K2)) (hsub : ∀ k ∈ K2, k ∈ K1) (h : canV (toP (L, N, K1)) = true) : canV (toP (L, N, K2)) = true := by
  have f1 := toP_Fit h1
  have f2 := toP_Fit h2
  obtain ⟨a, ha⟩ := (can_is f1.ok).1 h
  refine (can_is f2.ok).2 ⟨a, ⟨⟨fun p j hp hj hb => ?_, ha.feas.load⟩, ha.eq⟩⟩
  have := ha.feas.fit p j hp hj hb
  have hg1 := h1.k1
  have hg2 := h2.k1
  have hj6 := h1.j
  simp only at hg1 hg2 hj6
  have hlt : ∀ q, (List.replicate N.length (2 ^ L.length - 1)).getD q 0 < 2 ^ 64 := fun q => rep_lt (two_lt hj6) q
  have hpN : p < (List.replicate N.length (2 ^ L.length - 1)).length := by rw [List.length_replicate]; exact hp
  have e1 := kinF_bit K1 (List.replicate N.length (2 ^ L.length - 1)) (fun k hk => by have := hg1 k hk; omega) hlt p j hpN
  have e2 := kinF_bit K2 (List.replicate N.length (2 ^ L.length - 1)) (fun k hk => by have := hg2 k hk; omega) hlt p j hpN
  have this' : ((kinF (List.replicate N.length (2 ^ L.length - 1)) K1).getD p 0).testBit j = true := this
  show ((kinF (List.replicate N.length (2 ^ L.length - 1)) K2).getD p 0).testBit j = true
  rw [e1, Bool.and_eq_true] at this'
  rw [e2, this'.1, Bool.true_and]
  cases hd : decide ((j, p) ∈ K2) with
  | false => rfl
  | true =>
    have := hsub _ (of_decide_eq_true hd)
    rw [decide_eq_true this] at this'
    exact this'.2
end Go.Proofs.Ytbdmmikflkpmpaa
end

section
namespace Go.Proofs.Ytbdmmikflkpmpaa
open Go.RowKit Go.TL Go.Shelf Go.Pn
attribute [local go_sem] Oper.semAt_some
attribute [local go_sem] run_store_func
theorem waive_zero (x : S3) : x.waive 0 = x := by
  have : waiveK 0 x.2.2 = x.2.2 := by
    have h : ∀ k, k ≤ x.2.2.length → waiveTo 0 x.2.2 k = x.2.2.take k := fun k => by
      induction k with
      | zero => intro _; rfl
      | succ k ih =>
        intro hk
        rw [waiveTo_succ 0 x.2.2 k _ (List.getElem?_eq_getElem (by omega)), Nat.zero_testBit, if_neg (by simp), ih (by omega), List.take_succ_eq_append_getElem (by omega)]
    unfold waiveK
    rw [h _ (Nat.le_refl _), List.take_length]
  unfold S3.waive
  rw [this]
structure WvFacts (a : XP) (wf : Nat) : Prop where
  lt : wf < 2 ^ a.K.length
  can : canV (toP (a.s3.waive wf)) = true
  min : ∀ t, t < 2 ^ a.K.length → canV (toP (a.s3.waive t)) = true → pop wf < pop t ∨ (pop wf = pop t ∧ wf ≤ t)
  zero : decide (wf = 0) = canV (toP a.s3)
theorem waive_facts {a : XP} (hf : a.Fine) (h : canV (toP (a.s3.waive (every a.K.length))) = true) : WvFacts a (waiveF a.s3) := by
  have hk := hf.k
  have hl : a.s3.2.2.length = a.K.length := by simp [XP.s3]
  have hev : every a.K.length < 2 ^ a.K.length := by
    unfold every
    have := Nat.one_le_two_pow (n := a.K.length)
    omega
  unfold waiveF
  rw [hl]
  cases hfd : (bySize a.K.length).find? (fun s => canV (toP (a.s3.waive s))) with
  | none =>
    have := List.find?_eq_none.1 hfd _ ((mem_bySize_iff hk).2 hev)
    exact absurd h (by simpa using this)
  | some s =>
    obtain ⟨h1, h2, h3⟩ := bySize_min hk hfd
    refine ⟨h1, h2, h3, ?_⟩
    simp only [Option.getD_some]
    cases hc : canV (toP a.s3) with
    | true =>
      rcases h3 0 (Nat.pow_pos (by omega)) (by rw [waive_zero]; exact hc) with h | h
      · have h0 : pop 0 = 0 := by decide
        omega
      · exact decide_eq_true (by omega)
    | false =>
      refine decide_eq_false fun c => ?_
      rw [c, waive_zero, hc] at h2
      cases h2
theorem waive_fewer {a : XP} (hf : a.Fine) (s : Nat) (h : canV (toP (a.s3.waive s)) = true) : canV (toP (a.s3.waive (every a.K.length))) = true := by
  refine can_fewer (K1 := waiveK s a.s3.2.2) (s3_waive (XP.good hf) s) (s3_waive (XP.good hf) _) (fun k hk => ?_) h
  obtain ⟨i, hi, hki⟩ := waiveK_mem.1 hk
  have hil := (List.getElem?_eq_some_iff.1 hki).1
  have hl : a.s3.2.2.length = a.K.length := by simp [XP.s3]
  unfold every at hi
  rw [Nat.testBit_two_pow_sub_one, decide_eq_true (by omega)] at hi
  cases hi
end Go.Proofs.Ytbdmmikflkpmpaa
end

section
namespace Go.Proofs.Ytbdmmikflkpmpaa
open Go.RowKit Go.TL Go.Shelf Go.Pn
attribute [local go_sem] Oper.semAt_some
attribute [local go_sem] run_store_func
end Go.Proofs.Ytbdmmikflkpmpaa
end

section
namespace Go.Proofs.Ytbdmmikflkpmpaa
open Go.RowKit Go.TL Go.Shelf Go.Pn
attribute [local go_sem] Oper.semAt_some
attribute [local go_sem] run_store_func
theorem sumN_lt {f g : Nat → Nat} {n i : Nat} (hi : i < n) (h : ∀ k, k < n → f k ≤ g k) (hs : f i < g i) : sumN f n < sumN g n := by
  refine Nat.lt_of_le_of_ne (sumN_le n h) fun e => ?_
  have := sumN_eq_all n h e i hi
  omega
theorem sumN_if (T : Bool) (f : Nat → Nat) (n : Nat) : sumN (fun j => if T then f j else 0) n = if T then sumN f n else 0 := by
  cases T
  · exact sumN_zero n
  · rfl
def needS (P : Pnl) (T : Nat → Bool) : Nat := sumN (fun p => if T p then P.needs.getD p 0 else 0) P.needs.length
def capS (P : Pnl) (T : Nat → Bool) : Nat := sumN (fun j => min (P.loads.getD j 0) (sumN (fun p => b1 (T p && (P.fit.getD p 0).testBit j)) P.needs.length)) P.loads.length
theorem sum_at (a : Asg) (T : Nat → Bool) (nP nJ : Nat) : sumN (fun p => if T p then cntJ a nJ p else 0) nP = sumN (fun j => sumN (fun p => b1 (T p && a p j)) nP) nJ := by
  rw [← sumN_swap]
  refine sumN_congr nP fun p _ => ?_
  show (if T p then sumN (fun j => b1 (a p j)) nJ else 0) = _
  rw [← sumN_if]
  refine sumN_congr nJ fun j _ => ?_
  cases T p <;> rfl
theorem b1_le {x y : Bool} (h : x = true → y = true) : b1 x ≤ b1 y := by
  cases x with
  | false => exact Nat.zero_le _
  | true => rw [h rfl]; exact Nat.le_refl _
theorem can_hall {P : Pnl} (hP : P.Ok) : canV P = true ↔ ∀ T : Nat → Bool, needS P T ≤ capS P T := by
  constructor
  · intro h T
    obtain ⟨g, hg⟩ := (can_is hP).1 h
    have h1 : needS P T = sumN (fun p => if T p then cntJ g P.loads.length p else 0) P.needs.length := sumN_congr _ fun p hp => by rw [hg.eq p hp]
    rw [h1, sum_at]
    refine sumN_le _ fun j hj => Nat.le_min.2 ⟨?_, sumN_le _ fun p hp => b1_le fun hb => ?_⟩
    · refine Nat.le_trans (sumN_le _ fun p hp => ?_) (hg.feas.load j hj)
      exact b1_le fun hb => (Bool.and_eq_true_iff.1 hb).2
    · rw [Bool.and_eq_true] at hb ⊢
      exact ⟨hb.1, hg.feas.fit p j hp hj hb.2⟩
  · intro h
    classical
    have hi := seatAll_inv hP P.needs.length (Nat.le_refl _)
    obtain ⟨R, S, h1, h2⟩ := hi.shut
    generalize hst : (seatAll P P.needs.length).2 = st at *
    have hok : Okay P st := by rw [← hst]; exact hi.ok
    have hle : ∀ q, q < P.needs.length → cntJ st.at_ P.loads.length q ≤ P.needs.getD q 0 := fun q hq => by
      have := hi.le q hq
      rw [if_pos hq, hst] at this
      exact this
    have hR : ∀ q, q < P.needs.length → cntJ st.at_ P.loads.length q < P.needs.getD q 0 → R q := fun q hq hlt => h2 q hq (by rw [if_pos hq]; exact hlt)
    refine (can_is hP).2 ⟨st.at_, ⟨⟨fun p j _ _ hh => (hok.fit p j hh).2.2, hok.load⟩, fun p hp => ?_⟩⟩
    refine Classical.byContradiction fun hne => ?_
    have hlt : cntJ st.at_ P.loads.length p < P.needs.getD p 0 := Nat.lt_of_le_of_ne (hle p hp) hne
    have hT := h (fun q => decide (R q))
    have hn : sumN (fun q => if decide (R q) = true then cntJ st.at_ P.loads.length q else 0) P.needs.length < needS P fun q => decide (R q) := by
      refine sumN_lt hp (fun k hk => ?_) ?_
      · split
        · exact hle k hk
        · exact Nat.le_refl _
      · rw [if_pos (decide_eq_true (hR p hp hlt)), if_pos (decide_eq_true (hR p hp hlt))]
        exact hlt
    rw [sum_at] at hn
    have hc : capS P (fun q => decide (R q)) ≤ sumN (fun j => sumN (fun q => b1 (decide (R q) && st.at_ q j)) P.needs.length) P.loads.length := by
      refine sumN_le _ fun j hj => ?_
      by_cases hs : S j
      · refine Nat.le_trans (Nat.min_le_left _ _) (Nat.le_trans (h1.full j hj hs) ?_)
        refine sumN_le _ fun q hq => b1_le fun hb => ?_
        rw [hb, decide_eq_true (h1.back q j hq hj hs hb)]
        rfl
      · refine Nat.le_trans (Nat.min_le_right _ _) (sumN_le _ fun q hq => b1_le fun hb => ?_)
        rw [Bool.and_eq_true] at hb ⊢
        refine ⟨hb.1, ?_⟩
        cases ha : st.at_ q j with
        | true => rfl
        | false => exact absurd (h1.out q j hq hj (of_decide_eq_true hb.1) hb.2 ha) hs
    omega
end Go.Proofs.Ytbdmmikflkpmpaa
end

section
namespace Go.Proofs.Ytbdmmikflkpmpaa
open Go.RowKit Go.TL Go.Shelf Go.Pn
attribute [local go_sem] Oper.semAt_some
attribute [local go_sem] run_store_func
theorem count_is {a : XP} (hf : a.Fine) : countF a = ((seqs a.L.length a.N.length).filter (okL (nf (toP a.s3)) a.s3.1)).length := by
  have hF := toP_Fit (XP.good hf)
  have hnl : (toP a.s3).needs.length = a.N.length := by simp [toP, XP.s3]
  unfold countF
  rw [ways_count, nf_len hF, hnl]
  congr 1
  refine List.filter_congr fun t _ => okL_congr fun j _ => ?_
  unfold padL
  rw [List.getD_eq_getElem?_getD, List.getD_eq_getElem?_getD]
  rcases Nat.lt_or_ge j a.s3.1.length with h | h
  · rw [List.getElem?_append_left h]
  · rw [List.getElem?_append_right h, List.getElem?_replicate, List.getElem?_eq_none h]
    split <;> rfl
/-! ### who must sit, who never can -/
end Go.Proofs.Ytbdmmikflkpmpaa
end

section
namespace Go.Proofs.Ytbdmmikflkpmpaa
open Go.RowKit Go.TL Go.Shelf Go.Pn
attribute [local go_sem] Oper.semAt_some
attribute [local go_sem] run_store_func
end Go.Proofs.Ytbdmmikflkpmpaa
end

section
namespace Go.Proofs.Ytbdmmikflkpmpaa
open Go.RowKit Go.TL Go.Shelf Go.Pn
attribute [local go_sem] Oper.semAt_some
attribute [local go_sem] run_store_func
structure Wid (P Q : Pnl) : Prop where
  jl : Q.loads.length = P.loads.length
  pl : Q.needs.length = P.needs.length
  ld : ∀ j, j < P.loads.length → P.loads.getD j 0 ≤ Q.loads.getD j 0
  ft : ∀ p j, p < P.needs.length → j < P.loads.length → (P.fit.getD p 0).testBit j = true → (Q.fit.getD p 0).testBit j = true
theorem Wid.feas {P Q : Pnl} (h : Wid P Q) {a : Asg} (ha : Feas P a) : Feas Q a := by
  refine ⟨fun p j hp hj hb => ?_, fun j hj => ?_⟩
  · rw [h.pl] at hp
    rw [h.jl] at hj
    exact h.ft p j hp hj (ha.fit p j hp hj hb)
  · rw [h.jl] at hj
    rw [h.pl]
    exact Nat.le_trans (ha.load j hj) (h.ld j hj)
theorem Wid.seats {P Q : Pnl} (hP : P.Ok) (hQ : Q.Ok) (h : Wid P Q) (hn : ∀ p, p < P.needs.length → P.needs.getD p 0 ≤ Q.needs.getD p 0) : seatsV P ≤ seatsV Q := by
  obtain ⟨⟨a, ha, ht⟩, _⟩ := seats_is hP
  have h2 := (seats_is hQ).2 a ⟨h.feas ha.feas, fun p hp => by
    rw [h.pl] at hp
    rw [h.jl]
    exact Nat.le_trans (ha.le p hp) (hn p hp)⟩
  unfold total at *
  rw [h.jl, h.pl] at h2
  omega
theorem Wid.can {P Q : Pnl} (hP : P.Ok) (hQ : Q.Ok) (h : Wid P Q) (hn : ∀ p, p < P.needs.length → Q.needs.getD p 0 ≤ P.needs.getD p 0) (hc : canV P = true) : canV Q = true := by
  refine (can_hall hQ).2 fun T => ?_
  have h1 := (can_hall hP).1 hc T
  have h2 : needS Q T ≤ needS P T := by
    unfold needS
    rw [h.pl]
    refine sumN_le _ fun p hp => ?_
    split
    · exact hn p hp
    · exact Nat.le_refl _
  have h3 : capS P T ≤ capS Q T := by
    unfold capS
    rw [h.pl, h.jl]
    refine sumN_le _ fun j hj => Nat.le_min.2 ⟨Nat.le_trans (Nat.min_le_left _ _) (h.ld j hj), Nat.le_trans (Nat.min_le_right _ _) (sumN_le _ fun p hp => b1_le fun hb => ?_)⟩
    rw [Bool.and_eq_true] at hb ⊢
    exact ⟨hb.1, h.ft p j hp hj hb.2⟩
  omega
theorem Wid.seating {P Q : Pnl} (h : Wid P Q) (hn : ∀ p, p < P.needs.length → Q.needs.getD p 0 = P.needs.getD p 0) {a : Asg} (ha : Seating P a) : Seating Q a :=
  ⟨h.feas ha.feas, fun p hp => by
    rw [h.pl] at hp
    rw [h.jl, ha.eq p hp, hn p hp]⟩
theorem count_le {a q : XP} (hf : a.Fine) (hq : q.Fine) (hw : Wid (toP a.s3) (toP q.s3)) (hn : q.s3.2.1 = a.s3.2.1) : countF a ≤ countF q := by
  have hF := toP_Fit (XP.good hf)
  have hG := toP_Fit (XP.good hq)
  have a1 : (toP a.s3).loads.length = a.L.length := by simp [toP, XP.s3]
  have a2 : (toP a.s3).needs.length = a.N.length := by simp [toP, XP.s3]
  have b1' : (toP q.s3).loads.length = q.L.length := by simp [toP, XP.s3]
  have b2 : (toP q.s3).needs.length = q.N.length := by simp [toP, XP.s3]
  have e1 : q.L.length = a.L.length := by rw [← a1, ← b1', hw.jl]
  have e2 : q.N.length = a.N.length := by rw [← a2, ← b2, hw.pl]
  rw [count_is hf, count_is hq, e1, e2, ← List.countP_eq_length_filter, ← List.countP_eq_length_filter]
  refine List.countP_mono_left fun t ht h => ?_
  have h1 := (seat_iff hF (by rw [a1, a2]; exact ht)).1 h
  refine (seat_iff hG (by rw [b1', b2, e1, e2]; exact ht)).2 (hw.seating (fun p _ => ?_) h1)
  show q.s3.2.1.getD p 0 = a.s3.2.1.getD p 0
  rw [hn]
theorem waive_le {a q : XP} (hf : a.Fine) (hq : q.Fine) (h : ∀ t, t < 2 ^ a.K.length → canV (toP (a.s3.waive t)) = true → ∃ t', t' < 2 ^ q.K.length ∧ pop t' ≤ pop t ∧ canV (toP (q.s3.waive t')) = true) (hc : canV (toP (a.s3.waive (every a.K.length))) = true) :
    canV (toP (q.s3.waive (every q.K.length))) = true ∧ pop (waiveF q.s3) ≤ pop (waiveF a.s3) := by
  have hW := waive_facts hf hc
  obtain ⟨t', h1, h2, h3⟩ := h _ hW.lt hW.can
  have h4 := waive_fewer hq t' h3
  refine ⟨h4, ?_⟩
  rcases (waive_facts hq h4).min t' h1 h3 with h | h <;> omega
theorem s3_kin_len (a : XP) : a.s3.2.2.length = a.K.length := by simp [XP.s3]
end Go.Proofs.Ytbdmmikflkpmpaa
end

section
namespace Go.Proofs.Ytbdmmikflkpmpaa
open Go.RowKit Go.TL Go.Shelf Go.Pn
structure Ren (n : Nat) (s i : Nat → Nat) : Prop where
  lt : ∀ k, k < n → s k < n
  ilt : ∀ k, k < n → i k < n
  si : ∀ k, k < n → s (i k) = k
  is : ∀ k, k < n → i (s k) = k
theorem Ren.symm {n : Nat} {s i : Nat → Nat} (h : Ren n s i) : Ren n i s := ⟨h.ilt, h.lt, h.is, h.si⟩
theorem Ren.id (n : Nat) : Ren n (fun k => k) (fun k => k) := ⟨fun _ h => h, fun _ h => h, fun _ _ => rfl, fun _ _ => rfl⟩
theorem Ren.rot (n a : Nat) : Ren n (fun k => (k + a) % n) (fun k => (k + (n - a % n)) % n) := by
  refine ⟨fun k hk => Nat.mod_lt _ (by omega), fun k hk => Nat.mod_lt _ (by omega), fun k hk => ?_, fun k hk => ?_⟩
  · show ((k + (n - a % n)) % n + a) % n = k
    have h1 : a % n < n := Nat.mod_lt _ (by omega)
    rw [Nat.mod_add_mod, show k + (n - a % n) + a = k + n + (a - a % n) by have := Nat.mod_le a n; omega]
    have h2 : a - a % n = n * (a / n) := by have := Nat.mod_add_div a n; omega
    rw [h2, Nat.add_mul_mod_self_left, Nat.add_mod_right, Nat.mod_eq_of_lt hk]
  · show ((k + a) % n + (n - a % n)) % n = k
    have h1 : a % n < n := Nat.mod_lt _ (by omega)
    rw [Nat.mod_add_mod, show k + a + (n - a % n) = k + n + (a - a % n) by have := Nat.mod_le a n; omega]
    have h2 : a - a % n = n * (a / n) := by have := Nat.mod_add_div a n; omega
    rw [h2, Nat.add_mul_mod_self_left, Nat.add_mod_right, Nat.mod_eq_of_lt hk]
theorem Ren.rev (n : Nat) : Ren n (fun k => n - 1 - k) (fun k => n - 1 - k) := by
  refine ⟨fun k hk => ?_, fun k hk => ?_, fun k hk => ?_, fun k hk => ?_⟩ <;> (try simp only) <;> omega
theorem sumN_single (a v n : Nat) : sumN (fun k => if k = a then v else 0) n = if a < n then v else 0 := by
  rw [sumN_upd (fun _ => 0) (fun k => if k = a then v else 0) a v n (fun i _ hne => if_neg hne) (fun _ => by rw [if_pos rfl]; omega), sumN_zero]
  omega
theorem Ren.sum {n : Nat} {s i : Nat → Nat} (h : Ren n s i) (f : Nat → Nat) : sumN (fun k => f (s k)) n = sumN f n := by
  have e1 : sumN (fun k => f (s k)) n = sumN (fun k => sumN (fun j => if j = s k then f j else 0) n) n := sumN_congr _ fun k hk => by
    rw [sumN_congr (g := fun j => if j = s k then f (s k) else 0) n fun j _ => ?_, sumN_single, if_pos (h.lt k hk)]
    by_cases e : j = s k
    · rw [if_pos e, if_pos e, e]
    · rw [if_neg e, if_neg e]
  rw [e1, sumN_swap]
  refine sumN_congr _ fun j hj => ?_
  rw [sumN_congr (g := fun k => if k = i j then f j else 0) n fun k hk => ?_, sumN_single, if_pos (h.ilt j hj)]
  by_cases e : j = s k
  · rw [if_pos e, if_pos (by rw [e, h.is k hk])]
  · rw [if_neg e, if_neg (fun c => e (by rw [c, h.si j hj]))]
structure Trd (P Q : Pnl) (s si t ti : Nat → Nat) : Prop where
  jl : Q.loads.length = P.loads.length
  pl : Q.needs.length = P.needs.length
  js : Ren P.loads.length s si
  ps : Ren P.needs.length t ti
  ld : ∀ j, j < P.loads.length → Q.loads.getD (s j) 0 = P.loads.getD j 0
  nd : ∀ p, p < P.needs.length → Q.needs.getD (t p) 0 = P.needs.getD p 0
  ft : ∀ p j, p < P.needs.length → j < P.loads.length → (Q.fit.getD (t p) 0).testBit (s j) = (P.fit.getD p 0).testBit j
section
variable {P Q : Pnl} {s si t ti : Nat → Nat}
theorem Trd.symm (h : Trd P Q s si t ti) : Trd Q P si s ti t := by
  refine ⟨h.jl.symm, h.pl.symm, by rw [h.jl]; exact h.js.symm, by rw [h.pl]; exact h.ps.symm, fun j hj => ?_, fun p hp => ?_, fun p j hp hj => ?_⟩
  · rw [h.jl] at hj
    rw [← h.ld _ (h.js.ilt j hj), h.js.si j hj]
  · rw [h.pl] at hp
    rw [← h.nd _ (h.ps.ilt p hp), h.ps.si p hp]
  · rw [h.jl] at hj
    rw [h.pl] at hp
    rw [← h.ft _ _ (h.ps.ilt p hp) (h.js.ilt j hj), h.ps.si p hp, h.js.si j hj]
theorem Trd.cntJ (h : Trd P Q s si t ti) (a : Asg) (p : Nat) : cntJ (fun p j => a (ti p) (si j)) Q.loads.length p = cntJ a P.loads.length (ti p) := by
  unfold Go.Pn.cntJ
  rw [h.jl]
  exact h.js.symm.sum fun j => b1 (a (ti p) j)
theorem Trd.feas (h : Trd P Q s si t ti) {a : Asg} (ha : Feas P a) : Feas Q fun p j => a (ti p) (si j) := by
  refine ⟨fun p j hp hj hb => ?_, fun j hj => ?_⟩
  · have h2 := h.symm
    rw [h.jl] at hj
    rw [h.pl] at hp
    have := ha.fit _ _ (h.ps.ilt p hp) (h.js.ilt j hj) hb
    rw [← h.ft _ _ (h.ps.ilt p hp) (h.js.ilt j hj), h.ps.si p hp, h.js.si j hj] at this
    exact this
  · rw [h.jl] at hj
    have := ha.load _ (h.js.ilt j hj)
    rw [← h.ld _ (h.js.ilt j hj), h.js.si j hj] at this
    refine Nat.le_trans (Nat.le_of_eq ?_) this
    unfold cntP
    rw [h.pl]
    exact h.ps.symm.sum fun p => b1 (a p (si j))
theorem Trd.seats_le (hP : P.Ok) (hQ : Q.Ok) (h : Trd P Q s si t ti) : seatsV P ≤ seatsV Q := by
  obtain ⟨⟨a, ha, ht⟩, _⟩ := seats_is hP
  have h2 := (seats_is hQ).2 _ ⟨h.feas ha.feas, fun p hp => by
    rw [h.pl] at hp
    rw [h.cntJ, ← h.ps.si p hp, h.ps.is _ (h.ps.ilt p hp), h.nd _ (h.ps.ilt p hp)]
    exact ha.le _ (h.ps.ilt p hp)⟩
  have h3 : total Q (fun p j => a (ti p) (si j)) = total P a := by
    unfold total
    rw [h.pl, ← h.ps.symm.sum fun p => Go.Pn.cntJ a P.loads.length p]
    exact sumN_congr _ fun p _ => h.cntJ a p
  omega
theorem Trd.seats (hP : P.Ok) (hQ : Q.Ok) (h : Trd P Q s si t ti) : seatsV P = seatsV Q := Nat.le_antisymm (h.seats_le hP hQ) (h.symm.seats_le hQ hP)
theorem Trd.all (h : Trd P Q s si t ti) : allN P = allN Q := by
  unfold allN
  rw [h.pl, ← h.ps.sum fun p => Q.needs.getD p 0]
  exact sumN_congr _ fun p hp => (h.nd p hp).symm
theorem Trd.can (hP : P.Ok) (hQ : Q.Ok) (h : Trd P Q s si t ti) : canV P = canV Q := by
  unfold canV
  rw [h.seats hP hQ, h.all]
theorem Trd.seating (h : Trd P Q s si t ti) {a : Asg} (ha : Seating P a) : Seating Q fun p j => a (ti p) (si j) :=
  ⟨h.feas ha.feas, fun p hp => by
    rw [h.pl] at hp
    rw [h.cntJ, ha.eq _ (h.ps.ilt p hp), ← h.nd _ (h.ps.ilt p hp), h.ps.si p hp]⟩
theorem Trd.pairF (hP : PFit P) (hQ : PFit Q) (h : Trd P Q s si t ti) {p0 j0 : Nat} (hp0 : p0 < P.needs.length) (hj0 : j0 < P.loads.length) {p j : Nat} (hp : p < P.needs.length) (hj : j < P.loads.length) :
    ((pairF Q (t p0) (s j0)).getD (t p) 0).testBit (s j) = ((pairF P p0 j0).getD p 0).testBit j := by
  have hj6 := hP.ok.j
  have hs6 := h.js.lt j0 hj0
  have l1 := hP.len
  have l2 := hQ.len
  have hq := h.pl
  have ht0 := h.ps.lt p0 hp0
  unfold Proofs.Ytbdmmikflkpmpaa.pairF
  rw [getD_set, getD_set]
  by_cases e : p = p0
  · subst e
    rw [if_pos ⟨rfl, by omega⟩, if_pos ⟨rfl, by omega⟩, clrB_bit _ _ _ (hQ.lt _) (by omega), clrB_bit _ _ _ (hP.lt _) (by omega), h.ft p j hp hj]
    congr 2
    refine decide_eq_decide.2 ⟨fun c => ?_, fun c => by rw [c]⟩
    rw [← h.js.is j0 hj0, c, h.js.is j hj]
  · have e' : t p0 ≠ t p := fun c => e (by rw [← h.ps.is p hp, ← c, h.ps.is p0 hp0])
    rw [if_neg (fun c => e' c.1), if_neg (fun c => e c.1.symm), h.ft p j hp hj]
theorem Trd.pair1 (hP : PFit P) (hQ : PFit Q) (h : Trd P Q s si t ti) {p0 j0 : Nat} (hp0 : p0 < P.needs.length) (hj0 : j0 < P.loads.length) : Trd (pairP1 P p0 j0) (pairP1 Q (t p0) (s j0)) s si t ti :=
  ⟨h.jl, h.pl, h.js, h.ps, h.ld, h.nd, fun p j hp hj => h.pairF hP hQ hp0 hj0 hp hj⟩
theorem Ren.set {n : Nat} {s i : Nat → Nat} (h : Ren n s i) {A B : List Nat} (ha : A.length = n) (hb : B.length = n) (he : ∀ k, k < n → B.getD (s k) 0 = A.getD k 0) {k0 v : Nat} (hk0 : k0 < n) {k : Nat} (hk : k < n) : (B.set (s k0) v).getD (s k) 0 = (A.set k0 v).getD k 0 := by
  have := h.lt k0 hk0
  rw [getD_set, getD_set]
  by_cases e : k = k0
  · subst e
    rw [if_pos ⟨rfl, by omega⟩, if_pos ⟨rfl, by omega⟩]
  · have e' : s k0 ≠ s k := fun c => e (by rw [← h.is k hk, ← c, h.is k0 hk0])
    rw [if_neg (fun c => e' c.1), if_neg (fun c => e c.1.symm), he k hk]
theorem Trd.pair2 (hP : PFit P) (hQ : PFit Q) (h : Trd P Q s si t ti) {p0 j0 : Nat} (hp0 : p0 < P.needs.length) (hj0 : j0 < P.loads.length) : Trd (pairP2 P p0 j0) (pairP2 Q (t p0) (s j0)) s si t ti := by
  have l1 : (pairP2 P p0 j0).loads.length = P.loads.length := List.length_set
  have l2 : (pairP2 P p0 j0).needs.length = P.needs.length := List.length_set
  refine ⟨?_, ?_, by rw [l1]; exact h.js, by rw [l2]; exact h.ps, fun j hj => ?_, fun p hp => ?_, fun p j hp hj => ?_⟩
  · show (Q.loads.set _ _).length = (P.loads.set _ _).length
    rw [List.length_set, List.length_set, h.jl]
  · show (Q.needs.set _ _).length = (P.needs.set _ _).length
    rw [List.length_set, List.length_set, h.pl]
  · rw [l1] at hj
    show (Q.loads.set (s j0) (Q.loads.getD (s j0) 0 - 1)).getD (s j) 0 = (P.loads.set j0 (P.loads.getD j0 0 - 1)).getD j 0
    rw [h.ld j0 hj0]
    exact h.js.set rfl h.jl h.ld hj0 hj
  · rw [l2] at hp
    show (Q.needs.set (t p0) (Q.needs.getD (t p0) 0 - 1)).getD (t p) 0 = (P.needs.set p0 (P.needs.getD p0 0 - 1)).getD p 0
    rw [h.nd p0 hp0]
    exact h.ps.set rfl h.pl h.nd hp0 hp
  · rw [l1] at hj
    rw [l2] at hp
    exact h.pairF hP hQ hp0 hj0 hp hj
theorem pair2_ok {p j : Nat} (hP : P.Ok) : (pairP2 P p j).Ok := ⟨by show (P.loads.set _ _).length ≤ 6; rw [List.length_set]; exact hP.j, by show (P.needs.set _ _).length ≤ 6; rw [List.length_set]; exact hP.p⟩
theorem Trd.pair (hP : PFit P) (hQ : PFit Q) (h : Trd P Q s si t ti) {p0 j0 : Nat} (hp0 : p0 < P.needs.length) (hj0 : j0 < P.loads.length) : pairV P p0 j0 = pairV Q (t p0) (s j0) := by
  unfold pairV
  have e1 : canV (pairP1 P p0 j0) = canV (pairP1 Q (t p0) (s j0)) := Trd.can (P := pairP1 P p0 j0) (Q := pairP1 Q (t p0) (s j0)) ⟨hP.ok.j, hP.ok.p⟩ ⟨hQ.ok.j, hQ.ok.p⟩ (h.pair1 hP hQ hp0 hj0)
  have e2 : canV (pairP2 P p0 j0) = canV (pairP2 Q (t p0) (s j0)) := Trd.can (P := pairP2 P p0 j0) (Q := pairP2 Q (t p0) (s j0)) (pair2_ok hP.ok) (pair2_ok hQ.ok) (h.pair2 hP hQ hp0 hj0)
  rw [e1, e2]
  have : pairB P p0 j0 = pairB Q (t p0) (s j0) := by
    unfold pairB
    rw [h.ft p0 j0 hp0 hj0, h.ld j0 hj0, h.nd p0 hp0]
  rw [this]
end
/-! ### how many seatings -/
theorem le_of_sub {α : Type} [DecidableEq α] : ∀ {A B : List α}, A.Nodup → (∀ x ∈ A, x ∈ B) → A.length ≤ B.length
  | [], _, _, _ => Nat.zero_le _
  | x :: A, B, hn, h => by
    have hx := h x (List.mem_cons_self ..)
    have h2 := le_of_sub (A := A) (B := B.erase x) (List.nodup_cons.1 hn).2 fun y hy => by
      have hne : y ≠ x := fun e => (List.nodup_cons.1 hn).1 (e ▸ hy)
      exact (List.mem_erase_of_ne hne).2 (h y (List.mem_cons_of_mem _ hy))
    rw [List.length_erase_of_mem hx] at h2
    have := List.length_pos_of_mem hx
    simp only [List.length_cons]
    omega
theorem seqs_nodup (n : Nat) : ∀ m, (seqs n m).Nodup
  | 0 => by simp [seqs]
  | m + 1 => by
    show ((List.range (2 ^ n)).flatMap fun s => (seqs n m).map (s :: ·)).Nodup
    unfold List.Nodup
    rw [List.pairwise_flatMap]
    refine ⟨fun s _ => ?_, ?_⟩
    · rw [List.pairwise_map]
      exact (seqs_nodup n m).imp fun hne e => hne (List.cons.inj e).2
    · refine (List.nodup_range (n := 2 ^ n)).imp fun {s s'} hne x hx y hy => ?_
      obtain ⟨u, _, rfl⟩ := List.mem_map.1 hx
      obtain ⟨v, _, rfl⟩ := List.mem_map.1 hy
      exact fun e => hne (List.cons.inj e).1
theorem nodup_map {α β : Type} {f : α → β} : ∀ {l : List α}, l.Nodup → (∀ x ∈ l, ∀ y ∈ l, f x = f y → x = y) → (l.map f).Nodup
  | [], _, _ => List.nodup_nil
  | x :: l, hn, h => by
    rw [List.nodup_cons] at hn
    rw [List.map_cons, List.nodup_cons]
    refine ⟨fun hm => ?_, nodup_map hn.2 fun y hy z hz => h y (List.mem_cons_of_mem _ hy) z (List.mem_cons_of_mem _ hz)⟩
    obtain ⟨y, hy, e⟩ := List.mem_map.1 hm
    exact hn.1 (h y (List.mem_cons_of_mem _ hy) x (List.mem_cons_self ..) e ▸ hy)
theorem seqs_ext {n m : Nat} {u v : List Nat} (hu : u ∈ seqs n m) (hv : v ∈ seqs n m) (h : ∀ p j, p < m → j < n → asg u p j = asg v p j) : u = v := by
  obtain ⟨u1, u2⟩ := (mem_seqs _ _ _).1 hu
  obtain ⟨v1, v2⟩ := (mem_seqs _ _ _).1 hv
  refine List.ext_getElem (by omega) fun p h1 h2 => ?_
  have e1 := u2 _ (List.getElem_mem h1)
  have e2 := v2 _ (List.getElem_mem h2)
  refine Nat.eq_of_testBit_eq fun j => ?_
  by_cases hj : j < n
  · have := h p j (by omega) hj
    unfold asg at this
    rwa [getD_lt h1, getD_lt h2] at this
  · rw [Nat.testBit_lt_two_pow (Nat.lt_of_lt_of_le e1 (Nat.pow_le_pow_right (by omega) (by omega))), Nat.testBit_lt_two_pow (Nat.lt_of_lt_of_le e2 (Nat.pow_le_pow_right (by omega) (by omega)))]
theorem Trd.count_le {P Q : Pnl} {s si t ti : Nat → Nat} (hP : PFit P) (hQ : PFit Q) (h : Trd P Q s si t ti) :
    ((seqs P.loads.length P.needs.length).filter (okL (nf P) P.loads)).length ≤ ((seqs Q.loads.length Q.needs.length).filter (okL (nf Q) Q.loads)).length := by
  have hat : ∀ u, ∀ p j, p < Q.needs.length → j < Q.loads.length → asg (setsOf Q fun p j => asg u (ti p) (si j)) p j = asg u (ti p) (si j) := fun u p j hp hj => setsOf_at Q _ hp hj
  have hm := le_of_sub (A := ((seqs P.loads.length P.needs.length).filter (okL (nf P) P.loads)).map fun u => setsOf Q fun p j => asg u (ti p) (si j))
    (B := (seqs Q.loads.length Q.needs.length).filter (okL (nf Q) Q.loads)) (nodup_map ((seqs_nodup _ _).filter _) fun u hu v hv e => ?_) fun z hz => ?_
  · rwa [List.length_map] at hm
  · refine seqs_ext (List.mem_filter.1 hu).1 (List.mem_filter.1 hv).1 fun p j hp hj => ?_
    have h1 := hat u (t p) (s j) (by rw [h.pl]; exact h.ps.lt p hp) (by rw [h.jl]; exact h.js.lt j hj)
    have h2 := hat v (t p) (s j) (by rw [h.pl]; exact h.ps.lt p hp) (by rw [h.jl]; exact h.js.lt j hj)
    rw [h.ps.is p hp, h.js.is j hj] at h1 h2
    rw [← h1, ← h2, e]
  · obtain ⟨u, hu, rfl⟩ := List.mem_map.1 hz
    have hu' := List.mem_filter.1 hu
    have h1 := (seat_iff hP hu'.1).1 hu'.2
    refine List.mem_filter.2 ⟨setsOf_mem Q _, (seat_iff hQ (setsOf_mem Q _)).2 ?_⟩
    exact seating_congr (h.seating h1) fun p j hp hj => hat u p j hp hj
end Go.Proofs.Ytbdmmikflkpmpaa
end

section
namespace Go.Proofs.Ytbdmmikflkpmpaa
open Go.RowKit Go.TL Go.Shelf Go.Pn
structure Tn (a x : S3) (s si t ti : Nat → Nat) : Prop where
  jl : x.1.length = a.1.length
  pl : x.2.1.length = a.2.1.length
  js : Ren a.1.length s si
  ps : Ren a.2.1.length t ti
  ld : ∀ j, j < a.1.length → x.1.getD (s j) 0 = a.1.getD j 0
  nd : ∀ p, p < a.2.1.length → x.2.1.getD (t p) 0 = a.2.1.getD p 0
  kn : ∀ p j, p < a.2.1.length → j < a.1.length → ((s j, t p) ∈ x.2.2 ↔ (j, p) ∈ a.2.2)
theorem rep_bit {n m q j : Nat} (hq : q < n) (hj : j < m) : ((List.replicate n (2 ^ m - 1)).getD q 0).testBit j = true := by
  rw [List.getD_eq_getElem?_getD, List.getElem?_replicate, if_pos hq, Option.getD_some, Nat.testBit_two_pow_sub_one, decide_eq_true hj]
section
variable {a x : S3} {s si t ti : Nat → Nat}
theorem Tn.trd (ha : a.Good) (hx : x.Good) (h : Tn a x s si t ti) : Trd (toP a) (toP x) s si t ti := by
  refine ⟨h.jl, h.pl, h.js, h.ps, h.ld, h.nd, fun p j hp hj => ?_⟩
  have hp' : p < a.2.1.length := hp
  have hj' : j < a.1.length := hj
  have h1 := ha.k1
  have h2 := hx.k1
  have h3 := ha.j
  have h4 := hx.j
  have h5 := h.js.lt j hj'
  have h6 := h.ps.lt p hp'
  show ((kinF (List.replicate x.2.1.length (2 ^ x.1.length - 1)) x.2.2).getD (t p) 0).testBit (s j) = ((kinF (List.replicate a.2.1.length (2 ^ a.1.length - 1)) a.2.2).getD p 0).testBit j
  rw [kinF_bit _ _ (fun k hk => by have := h2 k hk; omega) (fun q => rep_lt (two_lt h4) q) _ _ (by rw [List.length_replicate, h.pl]; exact h6), kinF_bit _ _ (fun k hk => by have := h1 k hk; omega) (fun q => rep_lt (two_lt h3) q) _ _ (by rw [List.length_replicate]; exact hp'), rep_bit (by rw [h.pl]; exact h6) (by rw [h.jl]; exact h5), rep_bit hp' hj', Bool.true_and, Bool.true_and]
  congr 1
  exact decide_eq_decide.2 (h.kn p j hp' hj')
theorem Tn.symm (h : Tn a x s si t ti) : Tn x a si s ti t := by
  refine ⟨h.jl.symm, h.pl.symm, by rw [h.jl]; exact h.js.symm, by rw [h.pl]; exact h.ps.symm, fun j hj => ?_, fun p hp => ?_, fun p j hp hj => ?_⟩
  · rw [h.jl] at hj
    rw [← h.ld _ (h.js.ilt j hj), h.js.si j hj]
  · rw [h.pl] at hp
    rw [← h.nd _ (h.ps.ilt p hp), h.ps.si p hp]
  · rw [h.jl] at hj
    rw [h.pl] at hp
    rw [← h.kn _ _ (h.ps.ilt p hp) (h.js.ilt j hj), h.ps.si p hp, h.js.si j hj]
theorem Tn.loaded (h : Tn a x s si t ti) {j0 n : Nat} (hj0 : j0 < a.1.length) : Tn (a.loaded j0 n) (x.loaded (s j0) n) s si t ti := by
  have l1 : (a.loaded j0 n).1.length = a.1.length := List.length_set
  have l2 : (x.loaded (s j0) n).1.length = x.1.length := List.length_set
  refine ⟨by rw [l1, l2]; exact h.jl, h.pl, by rw [l1]; exact h.js, h.ps, fun j hj => ?_, h.nd, fun p j hp hj => h.kn p j hp (by rwa [l1] at hj)⟩
  rw [l1] at hj
  exact h.js.set rfl h.jl h.ld hj0 hj
theorem map_min_getD (l : List Nat) (n j : Nat) (hj : j < l.length) : (l.map (min n)).getD j 0 = min n (l.getD j 0) := by
  rw [List.getD_eq_getElem?_getD, List.getElem?_map, List.getElem?_eq_getElem hj, getD_lt hj]
  rfl
theorem Tn.atMost (h : Tn a x s si t ti) (n : Nat) : Tn (a.atMost n) (x.atMost n) s si t ti := by
  have l1 : (a.atMost n).1.length = a.1.length := List.length_map ..
  have l2 : (x.atMost n).1.length = x.1.length := List.length_map ..
  refine ⟨by rw [l1, l2]; exact h.jl, h.pl, by rw [l1]; exact h.js, h.ps, fun j hj => ?_, h.nd, fun p j hp hj => h.kn p j hp (by rwa [l1] at hj)⟩
  rw [l1] at hj
  show (x.1.map (min n)).getD (s j) 0 = (a.1.map (min n)).getD j 0
  rw [map_min_getD _ _ _ (by rw [h.jl]; exact h.js.lt j hj), map_min_getD _ _ _ hj, h.ld j hj]
def onT (ti : Nat → Nat) (n w : Nat) : Nat := mkS (fun p => w.testBit (ti p)) n
theorem onT_lt (ti : Nat → Nat) (n w : Nat) : onT ti n w < 2 ^ n := mkS_lt _ _
theorem onT_pop {ti : Nat → Nat} {n w : Nat} {t : Nat → Nat} (h : Ren n t ti) (hn : n ≤ 10) (hw : w < 2 ^ n) : pop (onT ti n w) = pop w := by
  rw [pop_n (onT_lt _ _ _) hn, pop_n hw hn, ← h.symm.sum fun p => b1 (w.testBit p)]
  refine sumN_congr _ fun p hp => ?_
  unfold onT
  rw [mkS_bit, decide_eq_true hp, Bool.true_and]
theorem Tn.only (h : Tn a x s si t ti) (w : Nat) : Tn (a.only w) (x.only (onT ti a.2.1.length w)) s si t ti := by
  have l1 : (a.only w).2.1.length = a.2.1.length := onlyTo_len _ _ _
  have l2 : (x.only (onT ti a.2.1.length w)).2.1.length = x.2.1.length := onlyTo_len _ _ _
  refine ⟨h.jl, by rw [l1, l2]; exact h.pl, h.js, by rw [l1]; exact h.ps, h.ld, fun p hp => ?_, fun p j hp hj => h.kn p j (by rwa [l1] at hp) hj⟩
  rw [l1] at hp
  have h6 := h.ps.lt p hp
  show (onlyTo _ x.2.1 x.2.1.length).getD (t p) 0 = (onlyTo w a.2.1 a.2.1.length).getD p 0
  rw [onlyTo_get, onlyTo_get, h.nd p hp]
  have e : (onT ti a.2.1.length w).testBit (t p) = w.testBit p := by
    unfold onT
    rw [mkS_bit, decide_eq_true h6, Bool.true_and, h.ps.is p hp]
  rw [e]
  have e2 : (t p < x.2.1.length ∧ w.testBit p = false) = (p < a.2.1.length ∧ w.testBit p = false) := by
    apply propext
    rw [h.pl]
    exact ⟨fun c => ⟨hp, c.2⟩, fun c => ⟨h6, c.2⟩⟩
  simp only [e2]
structure KRev (a x : S3) (s t : Nat → Nat) : Prop where
  len : x.2.2.length = a.2.2.length
  get : ∀ i k, a.2.2[i]? = some k → x.2.2[a.2.2.length - 1 - i]? = some (s k.1, t k.2)
theorem KRev.back (ha : a.Good) (js : Ren a.1.length s si) (ps : Ren a.2.1.length t ti) (h : KRev a x s t) {i j p : Nat} (hj : j < a.1.length) (hp : p < a.2.1.length) (hx : x.2.2[i]? = some (s j, t p)) : i < a.2.2.length ∧ a.2.2[a.2.2.length - 1 - i]? = some (j, p) := by
  have hi := (List.getElem?_eq_some_iff.1 hx).1
  rw [h.len] at hi
  have hk : a.2.2[a.2.2.length - 1 - i]? = some a.2.2[a.2.2.length - 1 - i] := List.getElem?_eq_getElem (by omega)
  have h2 := h.get _ _ hk
  rw [show a.2.2.length - 1 - (a.2.2.length - 1 - i) = i by omega, hx] at h2
  have hm : a.2.2[a.2.2.length - 1 - i] ∈ a.2.2 := List.getElem_mem _
  have b1 := ha.k1 _ hm
  have b2 := ha.k2 _ hm
  generalize a.2.2[a.2.2.length - 1 - i] = k at *
  have h3 := Option.some.inj h2
  refine ⟨hi, ?_⟩
  rw [hk]
  congr 1
  refine Prod.ext ?_ ?_
  · rw [← js.is _ b1, ← (Prod.mk.inj h3).1, js.is _ hj]
  · rw [← ps.is _ b2, ← (Prod.mk.inj h3).2, ps.is _ hp]
theorem KRev.mem (ha : a.Good) (js : Ren a.1.length s si) (ps : Ren a.2.1.length t ti) (h : KRev a x s t) (p j : Nat) (hp : p < a.2.1.length) (hj : j < a.1.length) : (s j, t p) ∈ x.2.2 ↔ (j, p) ∈ a.2.2 := by
  constructor
  · intro hm
    obtain ⟨i, hi, e⟩ := List.getElem_of_mem hm
    exact List.mem_of_getElem? (h.back ha js ps hj hp (i := i) (by rw [List.getElem?_eq_getElem hi, e])).2
  · intro hm
    obtain ⟨i, hi, e⟩ := List.getElem_of_mem hm
    exact List.mem_of_getElem? (h.get i (j, p) (by rw [List.getElem?_eq_getElem hi, e]))
theorem KRev.symm (ha : a.Good) (js : Ren a.1.length s si) (ps : Ren a.2.1.length t ti) (h : KRev a x s t) : KRev x a si ti := by
  refine ⟨h.len.symm, fun i k hk => ?_⟩
  have hi := (List.getElem?_eq_some_iff.1 hk).1
  rw [h.len] at hi ⊢
  have hk0 : a.2.2[a.2.2.length - 1 - i]? = some a.2.2[a.2.2.length - 1 - i] := List.getElem?_eq_getElem (by omega)
  have h2 := h.get _ _ hk0
  rw [show a.2.2.length - 1 - (a.2.2.length - 1 - i) = i by omega, hk] at h2
  have hm : a.2.2[a.2.2.length - 1 - i] ∈ a.2.2 := List.getElem_mem _
  have b1 := ha.k1 _ hm
  have b2 := ha.k2 _ hm
  rw [hk0]
  generalize a.2.2[a.2.2.length - 1 - i] = k0 at *
  have h3 := Option.some.inj h2
  rw [h3]
  congr 1
  exact Prod.ext (js.is _ b1).symm (ps.is _ b2).symm
theorem Tn.waive (ha : a.Good) (h : Tn a x s si t ti) (hk : KRev a x s t) (w : Nat) : Tn (a.waive w) (x.waive (onT (fun i => a.2.2.length - 1 - i) a.2.2.length w)) s si t ti := by
  refine ⟨h.jl, h.pl, h.js, h.ps, h.ld, h.nd, fun p j hp hj => ?_⟩
  show _ ∈ waiveK _ x.2.2 ↔ _ ∈ waiveK w a.2.2
  rw [waiveK_mem, waiveK_mem]
  constructor
  · rintro ⟨i, hi, hx⟩
    obtain ⟨h1, h2⟩ := hk.back ha h.js h.ps hj hp hx
    unfold onT at hi
    rw [mkS_bit, decide_eq_true h1, Bool.true_and] at hi
    exact ⟨_, hi, h2⟩
  · rintro ⟨i, hi, hx⟩
    have hil := (List.getElem?_eq_some_iff.1 hx).1
    refine ⟨a.2.2.length - 1 - i, ?_, hk.get _ _ hx⟩
    unfold onT
    rw [mkS_bit, decide_eq_true (by omega), Bool.true_and]
    show w.testBit (a.2.2.length - 1 - (a.2.2.length - 1 - i)) = false
    rw [show a.2.2.length - 1 - (a.2.2.length - 1 - i) = i by omega]
    exact hi
end
/-! ### what is told -/
section
variable {a x : XP} {s si t ti : Nat → Nat}
theorem s3_jl (a : XP) : a.s3.1.length = a.L.length := by simp [XP.s3]
theorem s3_pl (a : XP) : a.s3.2.1.length = a.N.length := by simp [XP.s3]
theorem tn_can {u v : S3} (hf : S3.Good u) (hx : S3.Good v) (h : Tn u v s si t ti) : canV (toP u) = canV (toP v) := (h.trd hf hx).can (toP_Fit hf).ok (toP_Fit hx).ok
theorem tn_count (hf : a.Fine) (hx : x.Fine) (h : Tn a.s3 x.s3 s si t ti) : countF a ≤ countF x := by
  have h2 := (h.trd (XP.good hf) (XP.good hx)).count_le (toP_Fit (XP.good hf)) (toP_Fit (XP.good hx))
  rw [count_is hf, count_is hx, ← s3_jl a, ← s3_pl a, ← s3_jl x, ← s3_pl x]
  exact h2
theorem tn_short (hf : a.Fine) (hx : x.Fine) (h : Tn a.s3 x.s3 s si t ti) {u : Nat} (hu : shortF a.s3 = some u) : ∃ v, shortF x.s3 = some v ∧ pop v ≤ pop u ∧ v < 2 ^ x.N.length := by
  have hp6 := hf.p
  have hx6 := hx.p
  have e1 := s3_pl a
  have e2 := s3_pl x
  obtain ⟨h1, h2, _⟩ := bySize_min (by rw [e1]; omega) hu
  have h3 : canV (toP (x.s3.only (onT ti a.s3.2.1.length u))) = false := by
    rw [← tn_can ((XP.good hf).only _) ((XP.good hx).only _) (h.only u)]
    simpa using h2
  have hpl := h.pl
  cases hv : shortF x.s3 with
  | none =>
    have := List.find?_eq_none.1 hv (onT ti a.s3.2.1.length u) ((mem_bySize_iff (by rw [e2]; omega)).2 (by rw [hpl]; exact onT_lt _ _ _))
    rw [h3] at this
    simp at this
  | some v =>
    obtain ⟨h4, _, h6⟩ := bySize_min (by rw [e2]; omega) hv
    refine ⟨v, rfl, ?_, by rw [← e2]; exact h4⟩
    have h7 := onT_pop h.ps (by omega) h1
    rcases h6 (onT ti a.s3.2.1.length u) (by rw [hpl]; exact onT_lt _ _ _) (by rw [h3]; rfl) with h | h <;> omega
theorem tn_waive (hf : a.Fine) (hx : x.Fine) (h : Tn a.s3 x.s3 s si t ti) (hk : KRev a.s3 x.s3 s t) (hc : canV (toP (a.s3.waive (every a.K.length))) = true) :
    canV (toP (x.s3.waive (every x.K.length))) = true ∧ pop (waiveF x.s3) ≤ pop (waiveF a.s3) := by
  have hk10 := hf.k
  refine waive_le hf hx (fun w hw hcw => ⟨_, ?_, Nat.le_of_eq (onT_pop (Ren.rev a.s3.2.2.length) (by rw [s3_kin_len]; omega) (by rw [s3_kin_len]; exact hw)), ?_⟩) hc
  · rw [← s3_kin_len x, hk.len]
    exact onT_lt _ _ _
  · rw [← tn_can (s3_waive (XP.good hf) w) (s3_waive (XP.good hx) _) (h.waive (XP.good hf) hk w)]
    exact hcw
structure TuFacts (a x : XP) (s t : Nat → Nat) : Prop where
  count : countF a = countF x
  seats : seatsV (toP a.s3) = seatsV (toP x.s3)
  can : canV (toP a.s3) = canV (toP x.s3)
  busy : busyF a.s3 = busyF x.s3
  spare : ∀ j, j < a.L.length → (spareF a.s3 a.L.length).testBit j = (spareF x.s3 x.L.length).testBit (s j)
  short : (shortF a.s3 = none ∧ shortF x.s3 = none) ∨ ∃ u v, shortF a.s3 = some u ∧ shortF x.s3 = some v ∧ pop u = pop v ∧ u < 2 ^ a.N.length ∧ v < 2 ^ x.N.length
  waive : canV (toP (a.s3.waive (every a.K.length))) = canV (toP (x.s3.waive (every x.K.length)))
  waived : canV (toP (a.s3.waive (every a.K.length))) = true → pop (waiveF a.s3) = pop (waiveF x.s3)
  pair : ∀ p j, p < a.N.length → j < a.L.length → pairV (toP a.s3) p j = pairV (toP x.s3) (t p) (s j)
theorem tu_facts (hf : a.Fine) (hx : x.Fine) (h : Tn a.s3 x.s3 s si t ti) (hk : KRev a.s3 x.s3 s t) : TuFacts a x s t := by
  have ga := XP.good hf
  have gx := XP.good hx
  have fa := toP_Fit ga
  have fx := toP_Fit gx
  have hT := h.trd ga gx
  have hkb := hk.symm ga h.js h.ps
  refine ⟨Nat.le_antisymm (tn_count hf hx h) (tn_count hx hf h.symm), hT.seats fa.ok fx.ok, hT.can fa.ok fx.ok, ?_, fun j hj => ?_, ?_, ?_, fun hc => ?_, fun p j hp hj => ?_⟩
  · unfold busyF
    congr 1
    congr 1
    funext n
    exact tn_can (s3_atMost ga n) (s3_atMost gx n) (h.atMost n)
  · have hjl := h.jl
    rw [s3_jl, s3_jl] at hjl
    have hj' : j < a.s3.1.length := by rw [s3_jl]; exact hj
    have hs := h.js.lt j hj'
    rw [s3_jl] at hs
    unfold spareF
    rw [mkS_bit, mkS_bit, decide_eq_true hj, decide_eq_true (by omega), Bool.true_and, Bool.true_and]
    exact tn_can (s3_loaded ga j 0 (by omega)) (s3_loaded gx (s j) 0 (by omega)) (h.loaded hj')
  · cases hu : shortF a.s3 with
    | none =>
      cases hv : shortF x.s3 with
      | none => exact .inl ⟨rfl, rfl⟩
      | some v =>
        obtain ⟨u, h1, _⟩ := tn_short hx hf h.symm hv
        rw [hu] at h1
        cases h1
    | some u =>
      obtain ⟨v, h1, h2, h3⟩ := tn_short hf hx h hu
      obtain ⟨u', h4, h5, h6⟩ := tn_short hx hf h.symm h1
      rw [hu] at h4
      cases h4
      exact .inr ⟨u, v, rfl, h1, Nat.le_antisymm h5 h2, h6, h3⟩
  · cases h1 : canV (toP (a.s3.waive (every a.K.length))) with
    | true => exact (tn_waive hf hx h hk h1).1.symm
    | false =>
      cases h2 : canV (toP (x.s3.waive (every x.K.length))) with
      | false => rfl
      | true =>
        have := (tn_waive hx hf h.symm hkb h2).1
        rw [h1] at this
        cases this
  · have h2 := tn_waive hf hx h hk hc
    exact Nat.le_antisymm (tn_waive hx hf h.symm hkb h2.1).2 h2.2
  · exact hT.pair fa fx (by show p < a.s3.2.1.length; rw [s3_pl]; exact hp) (by show j < a.s3.1.length; rw [s3_jl]; exact hj)
end
end Go.Proofs.Ytbdmmikflkpmpaa
end

section
namespace Go.Proofs.Ytbdmmikflkpmpaa
open Go.RowKit Go.TL Go.Shelf Go.Pn
set_option maxRecDepth 100000 in
set_option maxHeartbeats 2000000 in
theorem judge48 {a : XP} {m : Nat} (hm : m < 256) {ba b : Nat} {w : World} (hba : w.heap[ba]? = some (.cells #[.int .u8 (m : Int)] 5 (0, 0))) (hb : PBx w b a) {j : Nat} (hj : j < a.L.length) : Calls Try.prog 48 #[iv j, .pointer (some ⟨ba, 0, none⟩), .pointer (some ⟨b, 0, none⟩)] w fun e w' => e = .returned (iv ((j + m) % a.L.length)) ∧ Below w.heap.size w w' := by
  have hu25 := Try.underlying25
  have hl4 := hb.at_.l4
  have hh := hb.heap
  simp only [XP.sL] at hh
  have c0 := cells_get (cs := [_, _, _]) (k := 0) hh rfl
  have c1 := cells_get (cs := [_]) (k := 0) hba rfl
  clear hh hba hb
  have hconv : IntKind.i64.wrap (m : Int) = (m : Int) := IntWalk.i64_in _ (by omega)
  have hadd : IntKind.i64.wrap ((j : Int) + (m : Int)) = ((j + m : Nat) : Int) := by rw [IntWalk.i64_in _ (by omega)]; norm_cast
  have hm1 : Int.tmod ((j + m : Nat) : Int) (a.L.length : Int) = (((j + m) % a.L.length : Nat) : Int) := by rw [Int.tmod_eq_emod_of_nonneg (by omega)]; norm_cast
  have hml : (j + m) % a.L.length < a.L.length := Nat.mod_lt _ (by omega)
  generalize (j + m) % a.L.length = r at *
  have hw1 : IntKind.i64.wrap (r : Int) = (r : Int) := IntWalk.i64_in _ (by omega)
  have hn0 : ¬ a.L.length = 0 := by omega
  refine calls_of_exec Try.func48 rfl ?_
  simp only [Try.ntmps48, List.size_toArray, List.length_cons, List.length_nil, Nat.reduceAdd, Nat.reduceSub, Array.replicate_succ, Array.replicate_zero, List.push_toArray, List.append_toArray, List.nil_append, List.cons_append]
  refine exec_seq (exec_region_o fun ds => ?_)
  gi_wp2
  refine eq_mk (Keep.refl _) ?_
  show Exec _ _ (Code.seq _ _) _ _ _
  generalize hjm : j + m = jm at *
  refine exec_seq (exec_region_o fun ds => ?_)
  gi_wp2
  refine eq_mk (Keep.refl _) ?_
  exact exec_ret ⟨.inr rfl, fun W' hG => ⟨iv r, by simp [results, Try.f48, go_sem], rfl, hG.below (Nat.le_refl _) (Nat.le_refl _)⟩⟩
set_option maxRecDepth 100000 in
set_option maxHeartbeats 2000000 in
theorem plot49 {a : XP} {m : Nat} (hm : m < 256) {ba b : Nat} {w : World} (hba : w.heap[ba]? = some (.cells #[.int .u8 (m : Int)] 5 (0, 0))) (hb : PBx w b a) {j : Nat} (hj : j < a.N.length) : Calls Try.prog 49 #[iv j, .pointer (some ⟨ba, 0, none⟩), .pointer (some ⟨b, 0, none⟩)] w fun e w' => e = .returned (iv ((j + m) % a.N.length)) ∧ Below w.heap.size w w' := by
  have hu25 := Try.underlying25
  have hl4 := hb.at_.n4
  have hh := hb.heap
  simp only [XP.sN] at hh
  have c0 := cells_get (cs := [_, _, _]) (k := 1) hh rfl
  have c1 := cells_get (cs := [_]) (k := 0) hba rfl
  clear hh hba hb
  have hconv : IntKind.i64.wrap (m : Int) = (m : Int) := IntWalk.i64_in _ (by omega)
  have hadd : IntKind.i64.wrap ((j : Int) + (m : Int)) = ((j + m : Nat) : Int) := by rw [IntWalk.i64_in _ (by omega)]; norm_cast
  have hm1 : Int.tmod ((j + m : Nat) : Int) (a.N.length : Int) = (((j + m) % a.N.length : Nat) : Int) := by rw [Int.tmod_eq_emod_of_nonneg (by omega)]; norm_cast
  have hml : (j + m) % a.N.length < a.N.length := Nat.mod_lt _ (by omega)
  generalize (j + m) % a.N.length = r at *
  have hw1 : IntKind.i64.wrap (r : Int) = (r : Int) := IntWalk.i64_in _ (by omega)
  have hn0 : ¬ a.N.length = 0 := by omega
  refine calls_of_exec Try.func49 rfl ?_
  simp only [Try.ntmps49, List.size_toArray, List.length_cons, List.length_nil, Nat.reduceAdd, Nat.reduceSub, Array.replicate_succ, Array.replicate_zero, List.push_toArray, List.append_toArray, List.nil_append, List.cons_append]
  refine exec_seq (exec_region_o fun ds => ?_)
  gi_wp2
  refine eq_mk (Keep.refl _) ?_
  show Exec _ _ (Code.seq _ _) _ _ _
  generalize hjm : j + m = jm at *
  refine exec_seq (exec_region_o fun ds => ?_)
  gi_wp2
  refine eq_mk (Keep.refl _) ?_
  exact exec_ret ⟨.inr rfl, fun W' hG => ⟨iv r, by simp [results, Try.f49, go_sem], rfl, hG.below (Nat.le_refl _) (Nat.le_refl _)⟩⟩
end Go.Proofs.Ytbdmmikflkpmpaa
end

section
namespace Go.Proofs.Ytbdmmikflkpmpaa
open Go.RowKit Go.TL Go.Shelf Go.Pn
theorem nodup_of_len : ∀ {A B : List Nat}, A.Nodup → (∀ x ∈ A, x ∈ B) → B.length ≤ A.length → B.Nodup
  | [], B, _, _, hl => by
    have : B = [] := List.eq_nil_of_length_eq_zero (by simpa using hl)
    rw [this]
    exact List.nodup_nil
  | x :: A, B, hn, h, hl => by
    have hx := h x (List.mem_cons_self ..)
    have hp := List.length_pos_of_mem hx
    have he : (B.erase x).length = B.length - 1 := List.length_erase_of_mem hx
    rw [List.nodup_cons] at hn
    have hs : ∀ y ∈ A, y ∈ B.erase x := fun y hy => by
      have hne : y ≠ x := fun e => hn.1 (e ▸ hy)
      exact (List.mem_erase_of_ne hne).2 (h y (List.mem_cons_of_mem _ hy))
    have hB := nodup_of_len hn.2 hs (by rw [he]; simp only [List.length_cons] at hl; omega)
    have hno : x ∉ B.erase x := fun c => by
      have h2 := le_of_sub (A := x :: A) (B := B.erase x) (List.nodup_cons.2 hn) fun y hy => by
        rcases List.mem_cons.1 hy with rfl | hy
        · exact c
        · exact hs y hy
      simp only [List.length_cons] at h2 hl
      omega
    exact (List.perm_cons_erase hx).nodup_iff.2 (List.nodup_cons.2 ⟨hno, hB⟩)
theorem Tr.sort {W V X : World} {l m : List (Nat × Obj)} (h : Tr W V X l) (hm : ∀ p ∈ m, p ∈ l) (hl : ∀ p ∈ l, p ∈ m) (he : m.length ≤ l.length) : Tr W V X m :=
  ⟨h.below, h.keep, fun p hp => h.ge p (hm p hp), fun p hp => h.at_ p (hm p hp), nodup_of_len h.nd (fun x hx => by
    obtain ⟨p, hp, rfl⟩ := List.mem_map.1 hx
    exact List.mem_map.2 ⟨p, hl p hp, rfl⟩) (by rw [List.length_map, List.length_map]; exact he)⟩
theorem Tr.pick {W V X : World} {l m : List (Nat × Obj)} (h : Tr W V X l) (is : List Nat) (hm : m.map some = is.map fun i => l[i]?) (hi : ((List.range l.length).all fun i => is.contains i) = true) (he : Nat.ble m.length l.length = true) : Tr W V X m := by
  refine h.sort (fun p hp => ?_) (fun p hp => ?_) (Nat.le_of_ble_eq_true he)
  · have h1 : some p ∈ m.map some := List.mem_map.2 ⟨p, hp, rfl⟩
    rw [hm] at h1
    obtain ⟨i, _, e⟩ := List.mem_map.1 h1
    exact List.mem_of_getElem? e
  · obtain ⟨i, hil, e⟩ := List.getElem_of_mem hp
    have h1 := List.all_eq_true.1 hi i (List.mem_range.2 hil)
    have h2 : i ∈ is := by simpa using h1
    have h3 : some p ∈ is.map fun i => l[i]? := List.mem_map.2 ⟨i, h2, by simp [hil, e]⟩
    rw [← hm] at h3
    obtain ⟨q, hq, e2⟩ := List.mem_map.1 h3
    cases e2
    exact hq
structure Fr (p : List (Option Value)) (ds : List Deferred) (a : Act) : Prop where
  s : Slots p a.tmps
  d : a.defers = ds
theorem fits_get : ∀ {p : List (Option Value)} {l : List Value} {i : Nat} {v : Value}, Fits p l → p[i]? = some (some v) → l[i]? = some v
  | none :: p, u :: l, 0, v, h, hi => by simp at hi
  | some x :: p, u :: l, 0, v, h, hi => by
    have h1 : u = x := h.1
    have h2 : x = v := by simpa using hi
    simp [h1, h2]
  | none :: p, u :: l, i + 1, v, h, hi => by
    have h1 : Fits p l := h
    simpa using fits_get h1 (by simpa using hi)
  | some x :: p, u :: l, i + 1, v, h, hi => by simpa using fits_get h.2 (by simpa using hi)
  | [], _, i, v, _, hi => by simp at hi
theorem fits_set : ∀ {p : List (Option Value)} {l : List Value} (i : Nat) (v : Value), Fits p l → Fits (p.set i (some v)) (l.set i v)
  | none :: p, u :: l, 0, v, h => ⟨rfl, h⟩
  | some x :: p, u :: l, 0, v, h => ⟨rfl, h.2⟩
  | none :: p, u :: l, i + 1, v, h => by
    have h1 : Fits p l := h
    exact fits_set i v h1
  | some x :: p, u :: l, i + 1, v, h => ⟨h.1, fits_set i v h.2⟩
  | [], [], _, _, h => h
  | [], _ :: _, _, _, h => h.elim
theorem fits_none : ∀ {p : List (Option Value)} {l : List Value} (i : Nat), Fits p l → Fits (p.set i none) l
  | none :: p, u :: l, 0, h => h
  | some x :: p, u :: l, 0, h => h.2
  | none :: p, u :: l, i + 1, h => by
    have h1 : Fits p l := h
    exact fits_none i h1
  | some x :: p, u :: l, i + 1, h => ⟨h.1, fits_none i h.2⟩
  | [], [], _, h => h
  | [], _ :: _, _, h => h.elim
section
variable {p : List (Option Value)} {ds : List Deferred} {a : Act}
theorem Fr.ev (h : Fr p ds a) (i : Nat) {v : Value} (hi : p[i]? = some (some v)) : a.eval (.tmp i) = v := by
  have := fits_get h.s hi
  show a.tmps.getD i undef = v
  rw [Array.getD_eq_getD_getElem?, ← Array.getElem?_toList, this]
  rfl
theorem Fr.gd (h : Fr p ds a) {d : Nat} {b q : Bool} (hd : p[d]? = some (some (.bool (if q then b else !b)))) : gdOk (some (d, b)) a.tmps q := by
  show a.tmps[d]? = _
  rw [← Array.getElem?_toList]
  exact fits_get h.s hd
theorem Fr.put (h : Fr p ds a) (d : Nat) (v : Value) : Fr (p.set d (some v)) ds (a.put (some d) v) := by
  refine ⟨?_, h.d⟩
  show Fits _ (a.tmps.setIfInBounds d v).toList
  rw [Array.toList_setIfInBounds]
  exact fits_set d v h.s
theorem Fr.next {P : Program} {ops : Array Oper} {S : World → Prop} {Q : Exit → Act → World → Prop} {T : Sch} {w : World} (h : Fr p ds a) (d : Nat) (v : Value) (k : ∀ a', Fr (p.set d (some v)) ds a' → seqT P ops S Q T a' w) : seqT P ops S Q T (a.put (some d) v) w := k _ (h.put d v)
theorem Fr.forget (is : List Nat) : ∀ {p : List (Option Value)}, Fr p ds a → Fr (is.foldl (fun p i => p.set i none) p) ds a := by
  induction is with
  | nil => exact fun h => h
  | cons i is ih => exact fun h => ih ⟨fits_none i h.s, h.d⟩
theorem Fr.fin (h : Fr p ds a) (is : List Nat) {q : List (Option Value)} (hq : is.foldl (fun p i => p.set i none) p = q) : Slots q a.tmps := hq ▸ (Fr.forget is h).s
theorem Fr.start {t : Array Value} (h : Slots p t) : Fr p ds { tmps := t, defers := ds } := ⟨h, rfl⟩
theorem Fr.out {Q' : Exit → Act → World → Prop} {W : World} {Q : Array Value → World → Prop} {V : World} (h : Fr p ds a) (hQ : ∀ t W, Keep V W → Q t W → Q' .normal { tmps := t, defers := ds } W) (hK : Keep V W) (hq : Q a.tmps W) : Q' .normal a W := by
  have : a = { tmps := a.tmps, defers := ds } := by rw [← h.d]
  rw [this]
  exact hQ _ _ hK hq
end
end Go.Proofs.Ytbdmmikflkpmpaa
end

section
namespace Go.Proofs.Ytbdmmikflkpmpaa
open Go.RowKit Go.TL Go.Shelf Go.Pn
theorem zeroI_eq (n : Nat) : zeroI n = (List.map vi (List.replicate n 0)).toArray := by
  apply Array.ext'
  have h2 : (zeroI n).toList = List.replicate n (iv 0) := toList_madeCells_one _ _
  rw [h2]
  simp
theorem make_z (n : Nat) (hn : n ≤ 1000000) (W : World) : (Instr.makeSlice 22 (iv n) (iv n)).run Try.prog W = .ok (.slice (some ⟨W.heap.size, 0, none⟩) n n) (W.alloc (.cells (List.map vi (List.replicate n 0)).toArray 3)) := by
  rw [← zeroI_eq]
  exact run_make22 n hn W
def t5_0t : It := ⟨(Op.load 25 (Operand.tmp 3)), some 77, 25, true, none⟩
def t5_1t : It := ⟨(Op.load 25 (Operand.tmp 3)), some 78, 25, true, none⟩
def t5_2 : It := ⟨(Op.alloc 25), some 9, 0, false, none⟩
def t5_3 : It := ⟨(Op.alloc 25), some 10, 0, false, none⟩
def t5_4 : It := ⟨(Op.store 25 (Operand.tmp 9) (Operand.tmp 77)), none, 0, false, none⟩
def t5_5 : It := ⟨(Op.store 25 (Operand.tmp 10) (Operand.tmp 78)), none, 0, false, none⟩
set_option maxRecDepth 100000 in
set_option maxHeartbeats 4000000 in
theorem tu_r5 {w W : World} {a : XP} {b ba bb m1 m2 : Nat} (hT : Tr w W W [(b, .cells #[a.sL, a.sN, a.sK] 25 (0, 0)), (ba, .cells #[.int .u8 (m1 : Int)] 5 (0, 0)), (bb, .cells #[.int .u8 (m2 : Int)] 5 (0, 0))]) {t : Array Value} (hSl : Slots (none :: none :: none :: some (.pointer (some ⟨b, 0, none⟩)) :: some (.pointer (some ⟨ba, 0, none⟩)) :: some (.pointer (some ⟨bb, 0, none⟩)) :: some (.bool false) :: some (.func (.func 48) #[] #[.pointer (some ⟨ba, 0, none⟩), .pointer (some ⟨b, 0, none⟩)]) :: some (.func (.func 49) #[] #[.pointer (some ⟨bb, 0, none⟩), .pointer (some ⟨b, 0, none⟩)]) :: none :: o4 (o4 (o4 (o16 (o16 (o64 (o64 (o64 (o64 (o64 (o64 []))))))))))) t) :
    Exec Try.prog none (sub (Try.f12.body.getD .skip) [1, 1, 1, 1, 0]) t W (andThen (fun t' W' => ∃ bx bt, Tr w W' W' [(b, .cells #[a.sL, a.sN, a.sK] 25 (0, 0)), (ba, .cells #[.int .u8 (m1 : Int)] 5 (0, 0)), (bb, .cells #[.int .u8 (m2 : Int)] 5 (0, 0)), (bx, .cells #[a.sL, a.sN, a.sK] 25 (0, 0)), (bt, .cells #[a.sL, a.sN, a.sK] 25 (0, 0))] ∧ Slots (none :: none :: none :: some (.pointer (some ⟨b, 0, none⟩)) :: some (.pointer (some ⟨ba, 0, none⟩)) :: some (.pointer (some ⟨bb, 0, none⟩)) :: some (.bool false) :: some (.func (.func 48) #[] #[.pointer (some ⟨ba, 0, none⟩), .pointer (some ⟨b, 0, none⟩)]) :: some (.func (.func 49) #[] #[.pointer (some ⟨bb, 0, none⟩), .pointer (some ⟨b, 0, none⟩)]) :: some (.pointer (some ⟨bx, 0, none⟩)) :: some (.pointer (some ⟨bt, 0, none⟩)) :: none :: none :: none :: o4 (o4 (o16 (o16 (o64 (o64 (o64 (o64 (o64 (o64 [])))))))))) t') fun _ _ _ => False) := by
  have hu25 := Try.underlying25
  have hT0 := hT.again.drew
  refine region_tree (c := (sub (Try.f12.body.getD .skip) [1, 1, 1, 1, 0])) (id := 5) (.one 0 true (.one 1 true (.two 2 3 (.one 3 false (.one 4 false (.one 5 false (.nil)))) (.one 2 false (.one 4 false (.one 5 false (.nil))))))) (Opq (regOps (sub (Try.f12.body.getD .skip) [1, 1, 1, 1, 0]))) rfl (by kernel_rfl) (by kernel_rfl) (by kernel_rfl) (by kernel_rfl) (by kernel_rfl) (by kernel_rfl) [0, 0, 0, 0, 13, 31] (by kernel_rfl) (by kernel_rfl) (fun W' => W'.cell? ⟨b, 0, none⟩ = some (a.sL) ∧ W'.cell? ⟨b, 1, none⟩ = some (a.sN) ∧ W'.cell? ⟨b, 2, none⟩ = some (a.sK)) (fun _ _ _ => False) (fun _ _ _ h => h.elim) (fun _ _ _ _ _ _ _ _ h => h.elim) fun ds Q' hQn hQp => ?_
  have F0 : Fr (none :: none :: none :: some (.pointer (some ⟨b, 0, none⟩)) :: some (.pointer (some ⟨ba, 0, none⟩)) :: some (.pointer (some ⟨bb, 0, none⟩)) :: some (.bool false) :: some (.func (.func 48) #[] #[.pointer (some ⟨ba, 0, none⟩), .pointer (some ⟨b, 0, none⟩)]) :: some (.func (.func 49) #[] #[.pointer (some ⟨bb, 0, none⟩), .pointer (some ⟨b, 0, none⟩)]) :: none :: o4 (o4 (o4 (o16 (o16 (o64 (o64 (o64 (o64 (o64 (o64 []))))))))))) ds { tmps := t, defers := ds } := Fr.start hSl
  clear hSl
  generalize ({ tmps := t, defers := ds } : Act) = a0 at *
  generalize W.drew = X0 at *
  refine tr_take t5_0t (.agg #[a.sL, a.sN, a.sK]) (by kernel_rfl) rfl rfl (fun wq hq => ?_) ⟨hT0.cell 0 rfl rfl, hT0.cell 0 rfl rfl, hT0.cell 0 rfl rfl⟩ ?_; (focus (have e3 : a0.eval (.tmp 3) = (.pointer (some ⟨b, 0, none⟩)) := F0.ev 3 (by kernel_rfl); generalize a0.eval = ev at e3 ⊢; simp [go_sem, mkO, t5_0t, e3, hu25, hq.1, hq.2.1, hq.2.2]; done))
  refine F0.next 77 (.agg #[a.sL, a.sN, a.sK]) fun a1 F1 => ?_
  clear F0
  refine tr_take t5_1t (.agg #[a.sL, a.sN, a.sK]) (by kernel_rfl) rfl rfl (fun wq hq => ?_) ⟨hT0.cell 0 rfl rfl, hT0.cell 0 rfl rfl, hT0.cell 0 rfl rfl⟩ ?_; (focus (have e3 : a1.eval (.tmp 3) = (.pointer (some ⟨b, 0, none⟩)) := F1.ev 3 (by kernel_rfl); generalize a1.eval = ev at e3 ⊢; simp [go_sem, mkO, t5_1t, e3, hu25, hq.1, hq.2.1, hq.2.2]; done))
  refine F1.next 78 (.agg #[a.sL, a.sN, a.sK]) fun a2 F2 => ?_
  clear F1 a1
  refine ⟨?_, ?_⟩
  · have hT1 : Tr w W (X0.alloc (.cells #[.slice none 0 0, .slice none 0 0, .slice none 0 0] 25)) [(X0.heap.size, .cells #[.slice none 0 0, .slice none 0 0, .slice none 0 0] 25 (0, 0)), (b, .cells #[a.sL, a.sN, a.sK] 25 (0, 0)), (ba, .cells #[.int .u8 (m1 : Int)] 5 (0, 0)), (bb, .cells #[.int .u8 (m2 : Int)] 5 (0, 0))] := hT0.alloc (.cells #[.slice none 0 0, .slice none 0 0, .slice none 0 0] 25)
    refine tr_make t5_2 (.pointer (some ⟨X0.heap.size, 0, none⟩)) (X0.alloc (.cells #[.slice none 0 0, .slice none 0 0, .slice none 0 0] 25)) (by kernel_rfl) rfl rfl ?_ ⟨hT1.cell 1 rfl rfl, hT1.cell 1 rfl rfl, hT1.cell 1 rfl rfl⟩ ?_; (focus (simp [go_sem, mkO, t5_2, hu25]; done))
    obtain ⟨bx, hgbx⟩ : ∃ b, X0.heap.size = b := ⟨_, rfl⟩
    simp only [hgbx] at hT1 ⊢
    generalize X0.alloc (.cells #[.slice none 0 0, .slice none 0 0, .slice none 0 0] 25) = X1 at *
    clear hgbx hT0
    clear X0
    refine F2.next 9 (.pointer (some ⟨bx, 0, none⟩)) fun a3 F3 => ?_
    clear F2 a2
    have hT2 : Tr w W (X1.alloc (.cells #[.slice none 0 0, .slice none 0 0, .slice none 0 0] 25)) [(X1.heap.size, .cells #[.slice none 0 0, .slice none 0 0, .slice none 0 0] 25 (0, 0)), (bx, .cells #[.slice none 0 0, .slice none 0 0, .slice none 0 0] 25 (0, 0)), (b, .cells #[a.sL, a.sN, a.sK] 25 (0, 0)), (ba, .cells #[.int .u8 (m1 : Int)] 5 (0, 0)), (bb, .cells #[.int .u8 (m2 : Int)] 5 (0, 0))] := hT1.alloc (.cells #[.slice none 0 0, .slice none 0 0, .slice none 0 0] 25)
    refine tr_make t5_3 (.pointer (some ⟨X1.heap.size, 0, none⟩)) (X1.alloc (.cells #[.slice none 0 0, .slice none 0 0, .slice none 0 0] 25)) (by kernel_rfl) rfl rfl ?_ ⟨hT2.cell 2 rfl rfl, hT2.cell 2 rfl rfl, hT2.cell 2 rfl rfl⟩ ?_; (focus (simp [go_sem, mkO, t5_3, hu25]; done))
    obtain ⟨bt, hgbt⟩ : ∃ b, X1.heap.size = b := ⟨_, rfl⟩
    simp only [hgbt] at hT2 ⊢
    generalize X1.alloc (.cells #[.slice none 0 0, .slice none 0 0, .slice none 0 0] 25) = X2 at *
    clear hgbt hT1
    clear X1
    refine F3.next 10 (.pointer (some ⟨bt, 0, none⟩)) fun a4 F4 => ?_
    clear F3 a3
    have hz := hT2.fz 1 rfl
    have hc0 : X2.cell? ⟨bx, 0, none⟩ = some (.slice none 0 0) := hT2.cell 1 rfl rfl
    have hc1 : X2.cell? ⟨bx, 1, none⟩ = some (.slice none 0 0) := hT2.cell 1 rfl rfl
    have hc2 : X2.cell? ⟨bx, 2, none⟩ = some (.slice none 0 0) := hT2.cell 1 rfl rfl
    have hT3 : Tr w W (((X2.setCell ⟨bx, 0, none⟩ (a.sL)).setCell ⟨bx, 1, none⟩ (a.sN)).setCell ⟨bx, 2, none⟩ (a.sK)) [(bt, .cells #[.slice none 0 0, .slice none 0 0, .slice none 0 0] 25 (0, 0)), (bx, .cells #[a.sL, a.sN, a.sK] 25 (0, 0)), (b, .cells #[a.sL, a.sN, a.sK] 25 (0, 0)), (ba, .cells #[.int .u8 (m1 : Int)] 5 (0, 0)), (bb, .cells #[.int .u8 (m2 : Int)] 5 (0, 0))] := (((hT2.set 1 rfl 0 (a.sL)).set 1 rfl 1 (a.sN)).set 1 rfl 2 (a.sK))
    refine tr_store t5_4 (((X2.setCell ⟨bx, 0, none⟩ (a.sL)).setCell ⟨bx, 1, none⟩ (a.sN)).setCell ⟨bx, 2, none⟩ (a.sK)) (by kernel_rfl) rfl rfl ?_ ⟨hT3.cell 2 rfl rfl, hT3.cell 2 rfl rfl, hT3.cell 2 rfl rfl⟩ ?_; (focus (have e9 : a4.eval (.tmp 9) = (.pointer (some ⟨bx, 0, none⟩)) := F4.ev 9 (by kernel_rfl); have e77 : a4.eval (.tmp 77) = (.agg #[a.sL, a.sN, a.sK]) := F4.ev 77 (by kernel_rfl); generalize a4.eval = ev at e9 e77 ⊢; simp [go_sem, mkO, t5_4, e9, e77, hz, hc0, hc1, hc2, hu25, XP.sL, XP.sN, XP.sK]; done))
    clear hz hc0 hc1 hc2
    generalize (((X2.setCell ⟨bx, 0, none⟩ (a.sL)).setCell ⟨bx, 1, none⟩ (a.sN)).setCell ⟨bx, 2, none⟩ (a.sK)) = X3 at *
    clear hT2
    clear X2
    show seqT _ _ _ _ _ a4 _
    have hz := hT3.fz 0 rfl
    have hc0 : X3.cell? ⟨bt, 0, none⟩ = some (.slice none 0 0) := hT3.cell 0 rfl rfl
    have hc1 : X3.cell? ⟨bt, 1, none⟩ = some (.slice none 0 0) := hT3.cell 0 rfl rfl
    have hc2 : X3.cell? ⟨bt, 2, none⟩ = some (.slice none 0 0) := hT3.cell 0 rfl rfl
    have hT4 : Tr w W (((X3.setCell ⟨bt, 0, none⟩ (a.sL)).setCell ⟨bt, 1, none⟩ (a.sN)).setCell ⟨bt, 2, none⟩ (a.sK)) [(bt, .cells #[a.sL, a.sN, a.sK] 25 (0, 0)), (bx, .cells #[a.sL, a.sN, a.sK] 25 (0, 0)), (b, .cells #[a.sL, a.sN, a.sK] 25 (0, 0)), (ba, .cells #[.int .u8 (m1 : Int)] 5 (0, 0)), (bb, .cells #[.int .u8 (m2 : Int)] 5 (0, 0))] := (((hT3.set 0 rfl 0 (a.sL)).set 0 rfl 1 (a.sN)).set 0 rfl 2 (a.sK))
    refine tr_store t5_5 (((X3.setCell ⟨bt, 0, none⟩ (a.sL)).setCell ⟨bt, 1, none⟩ (a.sN)).setCell ⟨bt, 2, none⟩ (a.sK)) (by kernel_rfl) rfl rfl ?_ ⟨hT4.cell 2 rfl rfl, hT4.cell 2 rfl rfl, hT4.cell 2 rfl rfl⟩ ?_; (focus (have e10 : a4.eval (.tmp 10) = (.pointer (some ⟨bt, 0, none⟩)) := F4.ev 10 (by kernel_rfl); have e78 : a4.eval (.tmp 78) = (.agg #[a.sL, a.sN, a.sK]) := F4.ev 78 (by kernel_rfl); generalize a4.eval = ev at e10 e78 ⊢; simp [go_sem, mkO, t5_5, e10, e78, hz, hc0, hc1, hc2, hu25, XP.sL, XP.sN, XP.sK]; done))
    clear hz hc0 hc1 hc2
    generalize (((X3.setCell ⟨bt, 0, none⟩ (a.sL)).setCell ⟨bt, 1, none⟩ (a.sN)).setCell ⟨bt, 2, none⟩ (a.sK)) = X4 at *
    clear hT3
    clear X3
    show seqT _ _ _ _ _ a4 _
    exact F4.out hQn hT4.keep ⟨bx, bt, (hT4.pick [2, 3, 4, 1, 0] (by kernel_rfl) (by kernel_rfl) (by kernel_rfl)).again, (F4.fin [77, 78] (by kernel_rfl))⟩
  · have hT1 : Tr w W (X0.alloc (.cells #[.slice none 0 0, .slice none 0 0, .slice none 0 0] 25)) [(X0.heap.size, .cells #[.slice none 0 0, .slice none 0 0, .slice none 0 0] 25 (0, 0)), (b, .cells #[a.sL, a.sN, a.sK] 25 (0, 0)), (ba, .cells #[.int .u8 (m1 : Int)] 5 (0, 0)), (bb, .cells #[.int .u8 (m2 : Int)] 5 (0, 0))] := hT0.alloc (.cells #[.slice none 0 0, .slice none 0 0, .slice none 0 0] 25)
    refine tr_make t5_3 (.pointer (some ⟨X0.heap.size, 0, none⟩)) (X0.alloc (.cells #[.slice none 0 0, .slice none 0 0, .slice none 0 0] 25)) (by kernel_rfl) rfl rfl ?_ ⟨hT1.cell 1 rfl rfl, hT1.cell 1 rfl rfl, hT1.cell 1 rfl rfl⟩ ?_; (focus (simp [go_sem, mkO, t5_3, hu25]; done))
    obtain ⟨bt, hgbt⟩ : ∃ b, X0.heap.size = b := ⟨_, rfl⟩
    simp only [hgbt] at hT1 ⊢
    generalize X0.alloc (.cells #[.slice none 0 0, .slice none 0 0, .slice none 0 0] 25) = X1 at *
    clear hgbt hT0
    clear X0
    refine F2.next 10 (.pointer (some ⟨bt, 0, none⟩)) fun a3 F3 => ?_
    clear F2 a2
    have hT2 : Tr w W (X1.alloc (.cells #[.slice none 0 0, .slice none 0 0, .slice none 0 0] 25)) [(X1.heap.size, .cells #[.slice none 0 0, .slice none 0 0, .slice none 0 0] 25 (0, 0)), (bt, .cells #[.slice none 0 0, .slice none 0 0, .slice none 0 0] 25 (0, 0)), (b, .cells #[a.sL, a.sN, a.sK] 25 (0, 0)), (ba, .cells #[.int .u8 (m1 : Int)] 5 (0, 0)), (bb, .cells #[.int .u8 (m2 : Int)] 5 (0, 0))] := hT1.alloc (.cells #[.slice none 0 0, .slice none 0 0, .slice none 0 0] 25)
    refine tr_make t5_2 (.pointer (some ⟨X1.heap.size, 0, none⟩)) (X1.alloc (.cells #[.slice none 0 0, .slice none 0 0, .slice none 0 0] 25)) (by kernel_rfl) rfl rfl ?_ ⟨hT2.cell 2 rfl rfl, hT2.cell 2 rfl rfl, hT2.cell 2 rfl rfl⟩ ?_; (focus (simp [go_sem, mkO, t5_2, hu25]; done))
    obtain ⟨bx, hgbx⟩ : ∃ b, X1.heap.size = b := ⟨_, rfl⟩
    simp only [hgbx] at hT2 ⊢
    generalize X1.alloc (.cells #[.slice none 0 0, .slice none 0 0, .slice none 0 0] 25) = X2 at *
    clear hgbx hT1
    clear X1
    refine F3.next 9 (.pointer (some ⟨bx, 0, none⟩)) fun a4 F4 => ?_
    clear F3 a3
    have hz := hT2.fz 0 rfl
    have hc0 : X2.cell? ⟨bx, 0, none⟩ = some (.slice none 0 0) := hT2.cell 0 rfl rfl
    have hc1 : X2.cell? ⟨bx, 1, none⟩ = some (.slice none 0 0) := hT2.cell 0 rfl rfl
    have hc2 : X2.cell? ⟨bx, 2, none⟩ = some (.slice none 0 0) := hT2.cell 0 rfl rfl
    have hT3 : Tr w W (((X2.setCell ⟨bx, 0, none⟩ (a.sL)).setCell ⟨bx, 1, none⟩ (a.sN)).setCell ⟨bx, 2, none⟩ (a.sK)) [(bx, .cells #[a.sL, a.sN, a.sK] 25 (0, 0)), (bt, .cells #[.slice none 0 0, .slice none 0 0, .slice none 0 0] 25 (0, 0)), (b, .cells #[a.sL, a.sN, a.sK] 25 (0, 0)), (ba, .cells #[.int .u8 (m1 : Int)] 5 (0, 0)), (bb, .cells #[.int .u8 (m2 : Int)] 5 (0, 0))] := (((hT2.set 0 rfl 0 (a.sL)).set 0 rfl 1 (a.sN)).set 0 rfl 2 (a.sK))
    refine tr_store t5_4 (((X2.setCell ⟨bx, 0, none⟩ (a.sL)).setCell ⟨bx, 1, none⟩ (a.sN)).setCell ⟨bx, 2, none⟩ (a.sK)) (by kernel_rfl) rfl rfl ?_ ⟨hT3.cell 2 rfl rfl, hT3.cell 2 rfl rfl, hT3.cell 2 rfl rfl⟩ ?_; (focus (have e9 : a4.eval (.tmp 9) = (.pointer (some ⟨bx, 0, none⟩)) := F4.ev 9 (by kernel_rfl); have e77 : a4.eval (.tmp 77) = (.agg #[a.sL, a.sN, a.sK]) := F4.ev 77 (by kernel_rfl); generalize a4.eval = ev at e9 e77 ⊢; simp [go_sem, mkO, t5_4, e9, e77, hz, hc0, hc1, hc2, hu25, XP.sL, XP.sN, XP.sK]; done))
    clear hz hc0 hc1 hc2
    generalize (((X2.setCell ⟨bx, 0, none⟩ (a.sL)).setCell ⟨bx, 1, none⟩ (a.sN)).setCell ⟨bx, 2, none⟩ (a.sK)) = X3 at *
    clear hT2
    clear X2
    show seqT _ _ _ _ _ a4 _
    have hz := hT3.fz 1 rfl
    have hc0 : X3.cell? ⟨bt, 0, none⟩ = some (.slice none 0 0) := hT3.cell 1 rfl rfl
    have hc1 : X3.cell? ⟨bt, 1, none⟩ = some (.slice none 0 0) := hT3.cell 1 rfl rfl
    have hc2 : X3.cell? ⟨bt, 2, none⟩ = some (.slice none 0 0) := hT3.cell 1 rfl rfl
    have hT4 : Tr w W (((X3.setCell ⟨bt, 0, none⟩ (a.sL)).setCell ⟨bt, 1, none⟩ (a.sN)).setCell ⟨bt, 2, none⟩ (a.sK)) [(bx, .cells #[a.sL, a.sN, a.sK] 25 (0, 0)), (bt, .cells #[a.sL, a.sN, a.sK] 25 (0, 0)), (b, .cells #[a.sL, a.sN, a.sK] 25 (0, 0)), (ba, .cells #[.int .u8 (m1 : Int)] 5 (0, 0)), (bb, .cells #[.int .u8 (m2 : Int)] 5 (0, 0))] := (((hT3.set 1 rfl 0 (a.sL)).set 1 rfl 1 (a.sN)).set 1 rfl 2 (a.sK))
    refine tr_store t5_5 (((X3.setCell ⟨bt, 0, none⟩ (a.sL)).setCell ⟨bt, 1, none⟩ (a.sN)).setCell ⟨bt, 2, none⟩ (a.sK)) (by kernel_rfl) rfl rfl ?_ ⟨hT4.cell 2 rfl rfl, hT4.cell 2 rfl rfl, hT4.cell 2 rfl rfl⟩ ?_; (focus (have e10 : a4.eval (.tmp 10) = (.pointer (some ⟨bt, 0, none⟩)) := F4.ev 10 (by kernel_rfl); have e78 : a4.eval (.tmp 78) = (.agg #[a.sL, a.sN, a.sK]) := F4.ev 78 (by kernel_rfl); generalize a4.eval = ev at e10 e78 ⊢; simp [go_sem, mkO, t5_5, e10, e78, hz, hc0, hc1, hc2, hu25, XP.sL, XP.sN, XP.sK]; done))
    clear hz hc0 hc1 hc2
    generalize (((X3.setCell ⟨bt, 0, none⟩ (a.sL)).setCell ⟨bt, 1, none⟩ (a.sN)).setCell ⟨bt, 2, none⟩ (a.sK)) = X4 at *
    clear hT3
    clear X3
    show seqT _ _ _ _ _ a4 _
    exact F4.out hQn hT4.keep ⟨bx, bt, (hT4.pick [2, 3, 4, 0, 1] (by kernel_rfl) (by kernel_rfl) (by kernel_rfl)).again, (F4.fin [77, 78] (by kernel_rfl))⟩
def t6_0t : It := ⟨(Op.fieldAddr 25 (Operand.tmp 3) 0), some 79, 0, true, none⟩
def t6_1t : It := ⟨(Op.load 22 (Operand.tmp 79)), some 80, 22, true, none⟩
def t6_2t : It := ⟨(Op.call { callee := (Callee.builtin Builtin.len), args := #[(Operand.tmp 80)], argTypes := #[22] }), some 81, 3, true, none⟩
def t6_4t : It := ⟨(Op.fieldAddr 25 (Operand.tmp 3) 1), some 83, 0, true, none⟩
def t6_5t : It := ⟨(Op.load 22 (Operand.tmp 83)), some 84, 22, true, none⟩
def t6_6t : It := ⟨(Op.call { callee := (Callee.builtin Builtin.len), args := #[(Operand.tmp 84)], argTypes := #[22] }), some 85, 3, true, none⟩
def t6_3 : It := ⟨(Op.makeSlice 22 (Operand.tmp 81) (Operand.tmp 81)), some 82, 22, false, none⟩
def t6_8t : It := ⟨(Op.fieldAddr 25 (Operand.tmp 9) 0), some 87, 0, true, none⟩
def t6_7 : It := ⟨(Op.makeSlice 22 (Operand.tmp 85) (Operand.tmp 85)), some 86, 22, false, none⟩
def t6_9 : It := ⟨(Op.store 22 (Operand.tmp 87) (Operand.tmp 82)), none, 0, false, none⟩
def t6_10 : It := ⟨(Op.fieldAddr 25 (Operand.tmp 9) 1), some 88, 0, false, none⟩
def t6_11 : It := ⟨(Op.store 22 (Operand.tmp 88) (Operand.tmp 86)), none, 0, false, none⟩
def t6_12 : It := ⟨(Op.fieldAddr 25 (Operand.tmp 9) 2), some 89, 0, false, none⟩
def t6_13 : It := ⟨(Op.store 23 (Operand.tmp 89) (Operand.const (Value.slice none 0 0))), none, 0, false, none⟩
def t6_8 : It := ⟨(Op.fieldAddr 25 (Operand.tmp 9) 0), some 87, 0, false, none⟩
set_option maxRecDepth 100000 in
set_option maxHeartbeats 4000000 in
theorem tu_r6 {w W : World} {a : XP} {b ba bb m1 m2 : Nat} {bx bt : Nat} (ha : a.At w) (hT : Tr w W W [(b, .cells #[a.sL, a.sN, a.sK] 25 (0, 0)), (ba, .cells #[.int .u8 (m1 : Int)] 5 (0, 0)), (bb, .cells #[.int .u8 (m2 : Int)] 5 (0, 0)), (bx, .cells #[a.sL, a.sN, a.sK] 25 (0, 0)), (bt, .cells #[a.sL, a.sN, a.sK] 25 (0, 0))]) {t : Array Value} (hSl : Slots (none :: none :: none :: some (.pointer (some ⟨b, 0, none⟩)) :: some (.pointer (some ⟨ba, 0, none⟩)) :: some (.pointer (some ⟨bb, 0, none⟩)) :: some (.bool false) :: some (.func (.func 48) #[] #[.pointer (some ⟨ba, 0, none⟩), .pointer (some ⟨b, 0, none⟩)]) :: some (.func (.func 49) #[] #[.pointer (some ⟨bb, 0, none⟩), .pointer (some ⟨b, 0, none⟩)]) :: some (.pointer (some ⟨bx, 0, none⟩)) :: some (.pointer (some ⟨bt, 0, none⟩)) :: none :: none :: none :: o4 (o4 (o16 (o16 (o64 (o64 (o64 (o64 (o64 (o64 [])))))))))) t) :
    Exec Try.prog none (sub (Try.f12.body.getD .skip) [1, 1, 1, 1, 1, 0]) t W (andThen (fun t' W' => ∃ gL gN, Tr w W' W' [(b, .cells #[a.sL, a.sN, a.sK] 25 (0, 0)), (ba, .cells #[.int .u8 (m1 : Int)] 5 (0, 0)), (bb, .cells #[.int .u8 (m2 : Int)] 5 (0, 0)), (bx, .cells #[.slice (some ⟨gL, 0, none⟩) a.L.length a.L.length, .slice (some ⟨gN, 0, none⟩) a.N.length a.N.length, .slice none 0 0] 25 (0, 0)), (bt, .cells #[a.sL, a.sN, a.sK] 25 (0, 0)), (gL, .cells (List.map vi (List.replicate a.L.length 0)).toArray 3 (0, 0)), (gN, .cells (List.map vi (List.replicate a.N.length 0)).toArray 3 (0, 0))] ∧ Slots (none :: none :: none :: some (.pointer (some ⟨b, 0, none⟩)) :: some (.pointer (some ⟨ba, 0, none⟩)) :: some (.pointer (some ⟨bb, 0, none⟩)) :: some (.bool false) :: some (.func (.func 48) #[] #[.pointer (some ⟨ba, 0, none⟩), .pointer (some ⟨b, 0, none⟩)]) :: some (.func (.func 49) #[] #[.pointer (some ⟨bb, 0, none⟩), .pointer (some ⟨b, 0, none⟩)]) :: some (.pointer (some ⟨bx, 0, none⟩)) :: some (.pointer (some ⟨bt, 0, none⟩)) :: none :: none :: none :: o4 (o4 (o16 (o16 (o64 (o64 (o64 (o64 (o64 (o64 [])))))))))) t') fun _ _ _ => False) := by
  have hu25 := Try.underlying25
  have hu22 := Try.underlying22
  have hzL := fun W1 => make_z a.L.length (by have := ha.l4; omega) W1
  have hzN := fun W1 => make_z a.N.length (by have := ha.n4; omega) W1
  have hT0 := hT.again.drew
  refine region_tree (c := (sub (Try.f12.body.getD .skip) [1, 1, 1, 1, 1, 0])) (id := 6) (.one 0 true (.one 1 true (.one 2 true (.one 4 true (.one 5 true (.one 6 true (.two 3 7 (.one 8 true (.two 7 9 (.one 9 false (.one 10 false (.one 11 false (.one 12 false (.one 13 false (.nil)))))) (.one 7 false (.one 10 false (.one 11 false (.one 12 false (.one 13 false (.nil)))))))) (.one 3 false (.one 8 false (.one 9 false (.one 10 false (.one 11 false (.one 12 false (.one 13 false (.nil))))))))))))))) (Opq (regOps (sub (Try.f12.body.getD .skip) [1, 1, 1, 1, 1, 0]))) rfl (by kernel_rfl) (by kernel_rfl) (by kernel_rfl) (by kernel_rfl) (by kernel_rfl) (by kernel_rfl) [0, 1, 2, 4, 0, 16, 32, 64, 15, 271, 1023, 2047, 4095, 8191] (by kernel_rfl) (by kernel_rfl) (fun W' => W'.cell? ⟨b, 0, none⟩ = some (a.sL) ∧ W'.cell? ⟨b, 1, none⟩ = some (a.sN)) (fun _ _ _ => False) (fun _ _ _ h => h.elim) (fun _ _ _ _ _ _ _ _ h => h.elim) fun ds Q' hQn hQp => ?_
  have F0 : Fr (none :: none :: none :: some (.pointer (some ⟨b, 0, none⟩)) :: some (.pointer (some ⟨ba, 0, none⟩)) :: some (.pointer (some ⟨bb, 0, none⟩)) :: some (.bool false) :: some (.func (.func 48) #[] #[.pointer (some ⟨ba, 0, none⟩), .pointer (some ⟨b, 0, none⟩)]) :: some (.func (.func 49) #[] #[.pointer (some ⟨bb, 0, none⟩), .pointer (some ⟨b, 0, none⟩)]) :: some (.pointer (some ⟨bx, 0, none⟩)) :: some (.pointer (some ⟨bt, 0, none⟩)) :: none :: none :: none :: o4 (o4 (o16 (o16 (o64 (o64 (o64 (o64 (o64 (o64 [])))))))))) ds { tmps := t, defers := ds } := Fr.start hSl
  clear hSl
  generalize ({ tmps := t, defers := ds } : Act) = a0 at *
  generalize W.drew = X0 at *
  refine tr_take t6_0t (.pointer (some ⟨b, 0, none⟩)) (by kernel_rfl) rfl rfl (fun wq hq => ?_) ⟨hT0.cell 0 rfl rfl, hT0.cell 0 rfl rfl⟩ ?_; (focus (have e3 : a0.eval (.tmp 3) = (.pointer (some ⟨b, 0, none⟩)) := F0.ev 3 (by kernel_rfl); generalize a0.eval = ev at e3 ⊢; simp [go_sem, mkO, t6_0t, e3, hu25]; done))
  refine F0.next 79 (.pointer (some ⟨b, 0, none⟩)) fun a1 F1 => ?_
  clear F0
  refine tr_take t6_1t (a.sL) (by kernel_rfl) rfl rfl (fun wq hq => ?_) ⟨hT0.cell 0 rfl rfl, hT0.cell 0 rfl rfl⟩ ?_; (focus (have e79 : a1.eval (.tmp 79) = (.pointer (some ⟨b, 0, none⟩)) := F1.ev 79 (by kernel_rfl); generalize a1.eval = ev at e79 ⊢; simp [go_sem, mkO, t6_1t, e79, hq.1]; done))
  refine F1.next 80 (a.sL) fun a2 F2 => ?_
  clear F1 a1
  refine tr_take t6_2t (iv a.L.length) (by kernel_rfl) rfl rfl (fun wq hq => ?_) ⟨hT0.cell 0 rfl rfl, hT0.cell 0 rfl rfl⟩ ?_; (focus (have e80 : a2.eval (.tmp 80) = (a.sL) := F2.ev 80 (by kernel_rfl); generalize a2.eval = ev at e80 ⊢; simp [go_sem, mkO, t6_2t, e80, XP.sL]; done))
  refine F2.next 81 (iv a.L.length) fun a3 F3 => ?_
  clear F2 a2
  refine tr_take t6_4t (.pointer (some ⟨b, 1, none⟩)) (by kernel_rfl) rfl rfl (fun wq hq => ?_) ⟨hT0.cell 0 rfl rfl, hT0.cell 0 rfl rfl⟩ ?_; (focus (have e3 : a3.eval (.tmp 3) = (.pointer (some ⟨b, 0, none⟩)) := F3.ev 3 (by kernel_rfl); generalize a3.eval = ev at e3 ⊢; simp [go_sem, mkO, t6_4t, e3, hu25]; done))
  refine F3.next 83 (.pointer (some ⟨b, 1, none⟩)) fun a4 F4 => ?_
  clear F3 a3
  refine tr_take t6_5t (a.sN) (by kernel_rfl) rfl rfl (fun wq hq => ?_) ⟨hT0.cell 0 rfl rfl, hT0.cell 0 rfl rfl⟩ ?_; (focus (have e83 : a4.eval (.tmp 83) = (.pointer (some ⟨b, 1, none⟩)) := F4.ev 83 (by kernel_rfl); generalize a4.eval = ev at e83 ⊢; simp [go_sem, mkO, t6_5t, e83, hq.2]; done))
  refine F4.next 84 (a.sN) fun a5 F5 => ?_
  clear F4 a4
  refine tr_take t6_6t (iv a.N.length) (by kernel_rfl) rfl rfl (fun wq hq => ?_) ⟨hT0.cell 0 rfl rfl, hT0.cell 0 rfl rfl⟩ ?_; (focus (have e84 : a5.eval (.tmp 84) = (a.sN) := F5.ev 84 (by kernel_rfl); generalize a5.eval = ev at e84 ⊢; simp [go_sem, mkO, t6_6t, e84, XP.sN]; done))
  refine F5.next 85 (iv a.N.length) fun a6 F6 => ?_
  clear F5 a5
  refine ⟨?_, ?_⟩
  · have hT1 : Tr w W (X0.alloc (.cells (List.map vi (List.replicate a.L.length 0)).toArray 3)) [(X0.heap.size, .cells (List.map vi (List.replicate a.L.length 0)).toArray 3 (0, 0)), (b, .cells #[a.sL, a.sN, a.sK] 25 (0, 0)), (ba, .cells #[.int .u8 (m1 : Int)] 5 (0, 0)), (bb, .cells #[.int .u8 (m2 : Int)] 5 (0, 0)), (bx, .cells #[a.sL, a.sN, a.sK] 25 (0, 0)), (bt, .cells #[a.sL, a.sN, a.sK] 25 (0, 0))] := hT0.alloc (.cells (List.map vi (List.replicate a.L.length 0)).toArray 3)
    refine tr_make t6_3 (.slice (some ⟨X0.heap.size, 0, none⟩) a.L.length a.L.length) (X0.alloc (.cells (List.map vi (List.replicate a.L.length 0)).toArray 3)) (by kernel_rfl) rfl rfl ?_ ⟨hT1.cell 1 rfl rfl, hT1.cell 1 rfl rfl⟩ ?_; (focus (have e81 : a6.eval (.tmp 81) = (iv a.L.length) := F6.ev 81 (by kernel_rfl); generalize a6.eval = ev at e81 ⊢; simp [go_sem, mkO, t6_3, e81, hzL]; done))
    obtain ⟨gL, hggL⟩ : ∃ b, X0.heap.size = b := ⟨_, rfl⟩
    simp only [hggL] at hT1 ⊢
    generalize X0.alloc (.cells (List.map vi (List.replicate a.L.length 0)).toArray 3) = X1 at *
    clear hggL hT0
    clear X0
    refine F6.next 82 (.slice (some ⟨gL, 0, none⟩) a.L.length a.L.length) fun a7 F7 => ?_
    clear F6 a6
    refine tr_take t6_8t (.pointer (some ⟨bx, 0, none⟩)) (by kernel_rfl) rfl rfl (fun wq hq => ?_) ⟨hT1.cell 1 rfl rfl, hT1.cell 1 rfl rfl⟩ ?_; (focus (have e9 : a7.eval (.tmp 9) = (.pointer (some ⟨bx, 0, none⟩)) := F7.ev 9 (by kernel_rfl); generalize a7.eval = ev at e9 ⊢; simp [go_sem, mkO, t6_8t, e9, hu25]; done))
    refine F7.next 87 (.pointer (some ⟨bx, 0, none⟩)) fun a8 F8 => ?_
    clear F7 a7
    refine ⟨?_, ?_⟩
    · have hT2 : Tr w W (X1.alloc (.cells (List.map vi (List.replicate a.N.length 0)).toArray 3)) [(X1.heap.size, .cells (List.map vi (List.replicate a.N.length 0)).toArray 3 (0, 0)), (gL, .cells (List.map vi (List.replicate a.L.length 0)).toArray 3 (0, 0)), (b, .cells #[a.sL, a.sN, a.sK] 25 (0, 0)), (ba, .cells #[.int .u8 (m1 : Int)] 5 (0, 0)), (bb, .cells #[.int .u8 (m2 : Int)] 5 (0, 0)), (bx, .cells #[a.sL, a.sN, a.sK] 25 (0, 0)), (bt, .cells #[a.sL, a.sN, a.sK] 25 (0, 0))] := hT1.alloc (.cells (List.map vi (List.replicate a.N.length 0)).toArray 3)
      refine tr_make t6_7 (.slice (some ⟨X1.heap.size, 0, none⟩) a.N.length a.N.length) (X1.alloc (.cells (List.map vi (List.replicate a.N.length 0)).toArray 3)) (by kernel_rfl) rfl rfl ?_ ⟨hT2.cell 2 rfl rfl, hT2.cell 2 rfl rfl⟩ ?_; (focus (have e85 : a8.eval (.tmp 85) = (iv a.N.length) := F8.ev 85 (by kernel_rfl); generalize a8.eval = ev at e85 ⊢; simp [go_sem, mkO, t6_7, e85, hzN]; done))
      obtain ⟨gN, hggN⟩ : ∃ b, X1.heap.size = b := ⟨_, rfl⟩
      simp only [hggN] at hT2 ⊢
      generalize X1.alloc (.cells (List.map vi (List.replicate a.N.length 0)).toArray 3) = X2 at *
      clear hggN hT1
      clear X1
      refine F8.next 86 (.slice (some ⟨gN, 0, none⟩) a.N.length a.N.length) fun a9 F9 => ?_
      clear F8 a8
      have hz := hT2.fz 5 rfl
      have hc0 : X2.cell? ⟨bx, 0, none⟩ = some (a.sL) := hT2.cell 5 rfl rfl
      have hT3 : Tr w W (X2.setCell ⟨bx, 0, none⟩ (.slice (some ⟨gL, 0, none⟩) a.L.length a.L.length)) [(gN, .cells (List.map vi (List.replicate a.N.length 0)).toArray 3 (0, 0)), (gL, .cells (List.map vi (List.replicate a.L.length 0)).toArray 3 (0, 0)), (b, .cells #[a.sL, a.sN, a.sK] 25 (0, 0)), (ba, .cells #[.int .u8 (m1 : Int)] 5 (0, 0)), (bb, .cells #[.int .u8 (m2 : Int)] 5 (0, 0)), (bx, .cells #[.slice (some ⟨gL, 0, none⟩) a.L.length a.L.length, a.sN, a.sK] 25 (0, 0)), (bt, .cells #[a.sL, a.sN, a.sK] 25 (0, 0))] := (hT2.set 5 rfl 0 (.slice (some ⟨gL, 0, none⟩) a.L.length a.L.length))
      refine tr_store t6_9 (X2.setCell ⟨bx, 0, none⟩ (.slice (some ⟨gL, 0, none⟩) a.L.length a.L.length)) (by kernel_rfl) rfl rfl ?_ ⟨hT3.cell 2 rfl rfl, hT3.cell 2 rfl rfl⟩ ?_; (focus (have e82 : a9.eval (.tmp 82) = (.slice (some ⟨gL, 0, none⟩) a.L.length a.L.length) := F9.ev 82 (by kernel_rfl); have e87 : a9.eval (.tmp 87) = (.pointer (some ⟨bx, 0, none⟩)) := F9.ev 87 (by kernel_rfl); generalize a9.eval = ev at e82 e87 ⊢; simp [go_sem, mkO, t6_9, e82, e87, hz, hc0, XP.sL]; done))
      clear hz hc0
      generalize (X2.setCell ⟨bx, 0, none⟩ (.slice (some ⟨gL, 0, none⟩) a.L.length a.L.length)) = X3 at *
      clear hT2
      clear X2
      show seqT _ _ _ _ _ a9 _
      refine tr_make t6_10 (.pointer (some ⟨bx, 1, none⟩)) _ (by kernel_rfl) rfl rfl ?_ ⟨hT3.cell 2 rfl rfl, hT3.cell 2 rfl rfl⟩ ?_; (focus (have hq := (show (fun W' : World => W'.cell? ⟨b, 0, none⟩ = some (a.sL) ∧ W'.cell? ⟨b, 1, none⟩ = some (a.sN)) X3 from ⟨hT3.cell 2 rfl rfl, hT3.cell 2 rfl rfl⟩); have e9 : a9.eval (.tmp 9) = (.pointer (some ⟨bx, 0, none⟩)) := F9.ev 9 (by kernel_rfl); generalize a9.eval = ev at e9 ⊢; simp [go_sem, mkO, t6_10, e9, hu25]; done))
      refine F9.next 88 (.pointer (some ⟨bx, 1, none⟩)) fun a10 F10 => ?_
      clear F9 a9
      have hz := hT3.fz 5 rfl
      have hc0 : X3.cell? ⟨bx, 1, none⟩ = some (a.sN) := hT3.cell 5 rfl rfl
      have hT4 : Tr w W (X3.setCell ⟨bx, 1, none⟩ (.slice (some ⟨gN, 0, none⟩) a.N.length a.N.length)) [(gN, .cells (List.map vi (List.replicate a.N.length 0)).toArray 3 (0, 0)), (gL, .cells (List.map vi (List.replicate a.L.length 0)).toArray 3 (0, 0)), (b, .cells #[a.sL, a.sN, a.sK] 25 (0, 0)), (ba, .cells #[.int .u8 (m1 : Int)] 5 (0, 0)), (bb, .cells #[.int .u8 (m2 : Int)] 5 (0, 0)), (bx, .cells #[.slice (some ⟨gL, 0, none⟩) a.L.length a.L.length, .slice (some ⟨gN, 0, none⟩) a.N.length a.N.length, a.sK] 25 (0, 0)), (bt, .cells #[a.sL, a.sN, a.sK] 25 (0, 0))] := (hT3.set 5 rfl 1 (.slice (some ⟨gN, 0, none⟩) a.N.length a.N.length))
      refine tr_store t6_11 (X3.setCell ⟨bx, 1, none⟩ (.slice (some ⟨gN, 0, none⟩) a.N.length a.N.length)) (by kernel_rfl) rfl rfl ?_ ⟨hT4.cell 2 rfl rfl, hT4.cell 2 rfl rfl⟩ ?_; (focus (have e86 : a10.eval (.tmp 86) = (.slice (some ⟨gN, 0, none⟩) a.N.length a.N.length) := F10.ev 86 (by kernel_rfl); have e88 : a10.eval (.tmp 88) = (.pointer (some ⟨bx, 1, none⟩)) := F10.ev 88 (by kernel_rfl); generalize a10.eval = ev at e86 e88 ⊢; simp [go_sem, mkO, t6_11, e86, e88, hz, hc0, XP.sN]; done))
      clear hz hc0
      generalize (X3.setCell ⟨bx, 1, none⟩ (.slice (some ⟨gN, 0, none⟩) a.N.length a.N.length)) = X4 at *
      clear hT3
      clear X3
      show seqT _ _ _ _ _ a10 _
      refine tr_make t6_12 (.pointer (some ⟨bx, 2, none⟩)) _ (by kernel_rfl) rfl rfl ?_ ⟨hT4.cell 2 rfl rfl, hT4.cell 2 rfl rfl⟩ ?_; (focus (have hq := (show (fun W' : World => W'.cell? ⟨b, 0, none⟩ = some (a.sL) ∧ W'.cell? ⟨b, 1, none⟩ = some (a.sN)) X4 from ⟨hT4.cell 2 rfl rfl, hT4.cell 2 rfl rfl⟩); have e9 : a10.eval (.tmp 9) = (.pointer (some ⟨bx, 0, none⟩)) := F10.ev 9 (by kernel_rfl); generalize a10.eval = ev at e9 ⊢; simp [go_sem, mkO, t6_12, e9, hu25]; done))
      refine F10.next 89 (.pointer (some ⟨bx, 2, none⟩)) fun a11 F11 => ?_
      clear F10 a10
      have hz := hT4.fz 5 rfl
      have hc0 : X4.cell? ⟨bx, 2, none⟩ = some (a.sK) := hT4.cell 5 rfl rfl
      have hT5 : Tr w W (X4.setCell ⟨bx, 2, none⟩ (.slice none 0 0)) [(gN, .cells (List.map vi (List.replicate a.N.length 0)).toArray 3 (0, 0)), (gL, .cells (List.map vi (List.replicate a.L.length 0)).toArray 3 (0, 0)), (b, .cells #[a.sL, a.sN, a.sK] 25 (0, 0)), (ba, .cells #[.int .u8 (m1 : Int)] 5 (0, 0)), (bb, .cells #[.int .u8 (m2 : Int)] 5 (0, 0)), (bx, .cells #[.slice (some ⟨gL, 0, none⟩) a.L.length a.L.length, .slice (some ⟨gN, 0, none⟩) a.N.length a.N.length, .slice none 0 0] 25 (0, 0)), (bt, .cells #[a.sL, a.sN, a.sK] 25 (0, 0))] := (hT4.set 5 rfl 2 (.slice none 0 0))
      refine tr_store t6_13 (X4.setCell ⟨bx, 2, none⟩ (.slice none 0 0)) (by kernel_rfl) rfl rfl ?_ ⟨hT5.cell 2 rfl rfl, hT5.cell 2 rfl rfl⟩ ?_; (focus (have e89 : a11.eval (.tmp 89) = (.pointer (some ⟨bx, 2, none⟩)) := F11.ev 89 (by kernel_rfl); have ec : ∀ c, a11.eval (.const c) = c := fun _ => rfl; generalize a11.eval = ev at e89 ec ⊢; simp [go_sem, mkO, t6_13, ec, e89, hz, hc0, XP.sK]; done))
      clear hz hc0
      generalize (X4.setCell ⟨bx, 2, none⟩ (.slice none 0 0)) = X5 at *
      clear hT4
      clear X4
      show seqT _ _ _ _ _ a11 _
      exact F11.out hQn hT5.keep ⟨gL, gN, (hT5.pick [2, 3, 4, 5, 6, 1, 0] (by kernel_rfl) (by kernel_rfl) (by kernel_rfl)).again, (F11.fin [79, 80, 81, 82, 83, 84, 85, 86, 87, 88, 89] (by kernel_rfl))⟩
    · have hz := hT1.fz 4 rfl
      have hc0 : X1.cell? ⟨bx, 0, none⟩ = some (a.sL) := hT1.cell 4 rfl rfl
      have hT2 : Tr w W (X1.setCell ⟨bx, 0, none⟩ (.slice (some ⟨gL, 0, none⟩) a.L.length a.L.length)) [(gL, .cells (List.map vi (List.replicate a.L.length 0)).toArray 3 (0, 0)), (b, .cells #[a.sL, a.sN, a.sK] 25 (0, 0)), (ba, .cells #[.int .u8 (m1 : Int)] 5 (0, 0)), (bb, .cells #[.int .u8 (m2 : Int)] 5 (0, 0)), (bx, .cells #[.slice (some ⟨gL, 0, none⟩) a.L.length a.L.length, a.sN, a.sK] 25 (0, 0)), (bt, .cells #[a.sL, a.sN, a.sK] 25 (0, 0))] := (hT1.set 4 rfl 0 (.slice (some ⟨gL, 0, none⟩) a.L.length a.L.length))
      refine tr_store t6_9 (X1.setCell ⟨bx, 0, none⟩ (.slice (some ⟨gL, 0, none⟩) a.L.length a.L.length)) (by kernel_rfl) rfl rfl ?_ ⟨hT2.cell 1 rfl rfl, hT2.cell 1 rfl rfl⟩ ?_; (focus (have e82 : a8.eval (.tmp 82) = (.slice (some ⟨gL, 0, none⟩) a.L.length a.L.length) := F8.ev 82 (by kernel_rfl); have e87 : a8.eval (.tmp 87) = (.pointer (some ⟨bx, 0, none⟩)) := F8.ev 87 (by kernel_rfl); generalize a8.eval = ev at e82 e87 ⊢; simp [go_sem, mkO, t6_9, e82, e87, hz, hc0, XP.sL]; done))
      clear hz hc0
      generalize (X1.setCell ⟨bx, 0, none⟩ (.slice (some ⟨gL, 0, none⟩) a.L.length a.L.length)) = X2 at *
      clear hT1
      clear X1
      show seqT _ _ _ _ _ a8 _
      have hT3 : Tr w W (X2.alloc (.cells (List.map vi (List.replicate a.N.length 0)).toArray 3)) [(X2.heap.size, .cells (List.map vi (List.replicate a.N.length 0)).toArray 3 (0, 0)), (gL, .cells (List.map vi (List.replicate a.L.length 0)).toArray 3 (0, 0)), (b, .cells #[a.sL, a.sN, a.sK] 25 (0, 0)), (ba, .cells #[.int .u8 (m1 : Int)] 5 (0, 0)), (bb, .cells #[.int .u8 (m2 : Int)] 5 (0, 0)), (bx, .cells #[.slice (some ⟨gL, 0, none⟩) a.L.length a.L.length, a.sN, a.sK] 25 (0, 0)), (bt, .cells #[a.sL, a.sN, a.sK] 25 (0, 0))] := hT2.alloc (.cells (List.map vi (List.replicate a.N.length 0)).toArray 3)
      refine tr_make t6_7 (.slice (some ⟨X2.heap.size, 0, none⟩) a.N.length a.N.length) (X2.alloc (.cells (List.map vi (List.replicate a.N.length 0)).toArray 3)) (by kernel_rfl) rfl rfl ?_ ⟨hT3.cell 2 rfl rfl, hT3.cell 2 rfl rfl⟩ ?_; (focus (have e85 : a8.eval (.tmp 85) = (iv a.N.length) := F8.ev 85 (by kernel_rfl); generalize a8.eval = ev at e85 ⊢; simp [go_sem, mkO, t6_7, e85, hzN]; done))
      obtain ⟨gN, hggN⟩ : ∃ b, X2.heap.size = b := ⟨_, rfl⟩
      simp only [hggN] at hT3 ⊢
      generalize X2.alloc (.cells (List.map vi (List.replicate a.N.length 0)).toArray 3) = X3 at *
      clear hggN hT2
      clear X2
      refine F8.next 86 (.slice (some ⟨gN, 0, none⟩) a.N.length a.N.length) fun a9 F9 => ?_
      clear F8 a8
      refine tr_make t6_10 (.pointer (some ⟨bx, 1, none⟩)) _ (by kernel_rfl) rfl rfl ?_ ⟨hT3.cell 2 rfl rfl, hT3.cell 2 rfl rfl⟩ ?_; (focus (have hq := (show (fun W' : World => W'.cell? ⟨b, 0, none⟩ = some (a.sL) ∧ W'.cell? ⟨b, 1, none⟩ = some (a.sN)) X3 from ⟨hT3.cell 2 rfl rfl, hT3.cell 2 rfl rfl⟩); have e9 : a9.eval (.tmp 9) = (.pointer (some ⟨bx, 0, none⟩)) := F9.ev 9 (by kernel_rfl); generalize a9.eval = ev at e9 ⊢; simp [go_sem, mkO, t6_10, e9, hu25]; done))
      refine F9.next 88 (.pointer (some ⟨bx, 1, none⟩)) fun a10 F10 => ?_
      clear F9 a9
      have hz := hT3.fz 5 rfl
      have hc0 : X3.cell? ⟨bx, 1, none⟩ = some (a.sN) := hT3.cell 5 rfl rfl
      have hT4 : Tr w W (X3.setCell ⟨bx, 1, none⟩ (.slice (some ⟨gN, 0, none⟩) a.N.length a.N.length)) [(gN, .cells (List.map vi (List.replicate a.N.length 0)).toArray 3 (0, 0)), (gL, .cells (List.map vi (List.replicate a.L.length 0)).toArray 3 (0, 0)), (b, .cells #[a.sL, a.sN, a.sK] 25 (0, 0)), (ba, .cells #[.int .u8 (m1 : Int)] 5 (0, 0)), (bb, .cells #[.int .u8 (m2 : Int)] 5 (0, 0)), (bx, .cells #[.slice (some ⟨gL, 0, none⟩) a.L.length a.L.length, .slice (some ⟨gN, 0, none⟩) a.N.length a.N.length, a.sK] 25 (0, 0)), (bt, .cells #[a.sL, a.sN, a.sK] 25 (0, 0))] := (hT3.set 5 rfl 1 (.slice (some ⟨gN, 0, none⟩) a.N.length a.N.length))
      refine tr_store t6_11 (X3.setCell ⟨bx, 1, none⟩ (.slice (some ⟨gN, 0, none⟩) a.N.length a.N.length)) (by kernel_rfl) rfl rfl ?_ ⟨hT4.cell 2 rfl rfl, hT4.cell 2 rfl rfl⟩ ?_; (focus (have e86 : a10.eval (.tmp 86) = (.slice (some ⟨gN, 0, none⟩) a.N.length a.N.length) := F10.ev 86 (by kernel_rfl); have e88 : a10.eval (.tmp 88) = (.pointer (some ⟨bx, 1, none⟩)) := F10.ev 88 (by kernel_rfl); generalize a10.eval = ev at e86 e88 ⊢; simp [go_sem, mkO, t6_11, e86, e88, hz, hc0, XP.sN]; done))
      clear hz hc0
      generalize (X3.setCell ⟨bx, 1, none⟩ (.slice (some ⟨gN, 0, none⟩) a.N.length a.N.length)) = X4 at *
      clear hT3
      clear X3
      show seqT _ _ _ _ _ a10 _
      refine tr_make t6_12 (.pointer (some ⟨bx, 2, none⟩)) _ (by kernel_rfl) rfl rfl ?_ ⟨hT4.cell 2 rfl rfl, hT4.cell 2 rfl rfl⟩ ?_; (focus (have hq := (show (fun W' : World => W'.cell? ⟨b, 0, none⟩ = some (a.sL) ∧ W'.cell? ⟨b, 1, none⟩ = some (a.sN)) X4 from ⟨hT4.cell 2 rfl rfl, hT4.cell 2 rfl rfl⟩); have e9 : a10.eval (.tmp 9) = (.pointer (some ⟨bx, 0, none⟩)) := F10.ev 9 (by kernel_rfl); generalize a10.eval = ev at e9 ⊢; simp [go_sem, mkO, t6_12, e9, hu25]; done))
      refine F10.next 89 (.pointer (some ⟨bx, 2, none⟩)) fun a11 F11 => ?_
      clear F10 a10
      have hz := hT4.fz 5 rfl
      have hc0 : X4.cell? ⟨bx, 2, none⟩ = some (a.sK) := hT4.cell 5 rfl rfl
      have hT5 : Tr w W (X4.setCell ⟨bx, 2, none⟩ (.slice none 0 0)) [(gN, .cells (List.map vi (List.replicate a.N.length 0)).toArray 3 (0, 0)), (gL, .cells (List.map vi (List.replicate a.L.length 0)).toArray 3 (0, 0)), (b, .cells #[a.sL, a.sN, a.sK] 25 (0, 0)), (ba, .cells #[.int .u8 (m1 : Int)] 5 (0, 0)), (bb, .cells #[.int .u8 (m2 : Int)] 5 (0, 0)), (bx, .cells #[.slice (some ⟨gL, 0, none⟩) a.L.length a.L.length, .slice (some ⟨gN, 0, none⟩) a.N.length a.N.length, .slice none 0 0] 25 (0, 0)), (bt, .cells #[a.sL, a.sN, a.sK] 25 (0, 0))] := (hT4.set 5 rfl 2 (.slice none 0 0))
      refine tr_store t6_13 (X4.setCell ⟨bx, 2, none⟩ (.slice none 0 0)) (by kernel_rfl) rfl rfl ?_ ⟨hT5.cell 2 rfl rfl, hT5.cell 2 rfl rfl⟩ ?_; (focus (have e89 : a11.eval (.tmp 89) = (.pointer (some ⟨bx, 2, none⟩)) := F11.ev 89 (by kernel_rfl); have ec : ∀ c, a11.eval (.const c) = c := fun _ => rfl; generalize a11.eval = ev at e89 ec ⊢; simp [go_sem, mkO, t6_13, ec, e89, hz, hc0, XP.sK]; done))
      clear hz hc0
      generalize (X4.setCell ⟨bx, 2, none⟩ (.slice none 0 0)) = X5 at *
      clear hT4
      clear X4
      show seqT _ _ _ _ _ a11 _
      exact F11.out hQn hT5.keep ⟨gL, gN, (hT5.pick [2, 3, 4, 5, 6, 1, 0] (by kernel_rfl) (by kernel_rfl) (by kernel_rfl)).again, (F11.fin [79, 80, 81, 82, 83, 84, 85, 86, 87, 88, 89] (by kernel_rfl))⟩
  · have hT1 : Tr w W (X0.alloc (.cells (List.map vi (List.replicate a.N.length 0)).toArray 3)) [(X0.heap.size, .cells (List.map vi (List.replicate a.N.length 0)).toArray 3 (0, 0)), (b, .cells #[a.sL, a.sN, a.sK] 25 (0, 0)), (ba, .cells #[.int .u8 (m1 : Int)] 5 (0, 0)), (bb, .cells #[.int .u8 (m2 : Int)] 5 (0, 0)), (bx, .cells #[a.sL, a.sN, a.sK] 25 (0, 0)), (bt, .cells #[a.sL, a.sN, a.sK] 25 (0, 0))] := hT0.alloc (.cells (List.map vi (List.replicate a.N.length 0)).toArray 3)
    refine tr_make t6_7 (.slice (some ⟨X0.heap.size, 0, none⟩) a.N.length a.N.length) (X0.alloc (.cells (List.map vi (List.replicate a.N.length 0)).toArray 3)) (by kernel_rfl) rfl rfl ?_ ⟨hT1.cell 1 rfl rfl, hT1.cell 1 rfl rfl⟩ ?_; (focus (have e85 : a6.eval (.tmp 85) = (iv a.N.length) := F6.ev 85 (by kernel_rfl); generalize a6.eval = ev at e85 ⊢; simp [go_sem, mkO, t6_7, e85, hzN]; done))
    obtain ⟨gN, hggN⟩ : ∃ b, X0.heap.size = b := ⟨_, rfl⟩
    simp only [hggN] at hT1 ⊢
    generalize X0.alloc (.cells (List.map vi (List.replicate a.N.length 0)).toArray 3) = X1 at *
    clear hggN hT0
    clear X0
    refine F6.next 86 (.slice (some ⟨gN, 0, none⟩) a.N.length a.N.length) fun a7 F7 => ?_
    clear F6 a6
    have hT2 : Tr w W (X1.alloc (.cells (List.map vi (List.replicate a.L.length 0)).toArray 3)) [(X1.heap.size, .cells (List.map vi (List.replicate a.L.length 0)).toArray 3 (0, 0)), (gN, .cells (List.map vi (List.replicate a.N.length 0)).toArray 3 (0, 0)), (b, .cells #[a.sL, a.sN, a.sK] 25 (0, 0)), (ba, .cells #[.int .u8 (m1 : Int)] 5 (0, 0)), (bb, .cells #[.int .u8 (m2 : Int)] 5 (0, 0)), (bx, .cells #[a.sL, a.sN, a.sK] 25 (0, 0)), (bt, .cells #[a.sL, a.sN, a.sK] 25 (0, 0))] := hT1.alloc (.cells (List.map vi (List.replicate a.L.length 0)).toArray 3)
    refine tr_make t6_3 (.slice (some ⟨X1.heap.size, 0, none⟩) a.L.length a.L.length) (X1.alloc (.cells (List.map vi (List.replicate a.L.length 0)).toArray 3)) (by kernel_rfl) rfl rfl ?_ ⟨hT2.cell 2 rfl rfl, hT2.cell 2 rfl rfl⟩ ?_; (focus (have e81 : a7.eval (.tmp 81) = (iv a.L.length) := F7.ev 81 (by kernel_rfl); generalize a7.eval = ev at e81 ⊢; simp [go_sem, mkO, t6_3, e81, hzL]; done))
    obtain ⟨gL, hggL⟩ : ∃ b, X1.heap.size = b := ⟨_, rfl⟩
    simp only [hggL] at hT2 ⊢
    generalize X1.alloc (.cells (List.map vi (List.replicate a.L.length 0)).toArray 3) = X2 at *
    clear hggL hT1
    clear X1
    refine F7.next 82 (.slice (some ⟨gL, 0, none⟩) a.L.length a.L.length) fun a8 F8 => ?_
    clear F7 a7
    refine tr_make t6_8 (.pointer (some ⟨bx, 0, none⟩)) _ (by kernel_rfl) rfl rfl ?_ ⟨hT2.cell 2 rfl rfl, hT2.cell 2 rfl rfl⟩ ?_; (focus (have hq := (show (fun W' : World => W'.cell? ⟨b, 0, none⟩ = some (a.sL) ∧ W'.cell? ⟨b, 1, none⟩ = some (a.sN)) X2 from ⟨hT2.cell 2 rfl rfl, hT2.cell 2 rfl rfl⟩); have e9 : a8.eval (.tmp 9) = (.pointer (some ⟨bx, 0, none⟩)) := F8.ev 9 (by kernel_rfl); generalize a8.eval = ev at e9 ⊢; simp [go_sem, mkO, t6_8, e9, hu25]; done))
    refine F8.next 87 (.pointer (some ⟨bx, 0, none⟩)) fun a9 F9 => ?_
    clear F8 a8
    have hz := hT2.fz 5 rfl
    have hc0 : X2.cell? ⟨bx, 0, none⟩ = some (a.sL) := hT2.cell 5 rfl rfl
    have hT3 : Tr w W (X2.setCell ⟨bx, 0, none⟩ (.slice (some ⟨gL, 0, none⟩) a.L.length a.L.length)) [(gL, .cells (List.map vi (List.replicate a.L.length 0)).toArray 3 (0, 0)), (gN, .cells (List.map vi (List.replicate a.N.length 0)).toArray 3 (0, 0)), (b, .cells #[a.sL, a.sN, a.sK] 25 (0, 0)), (ba, .cells #[.int .u8 (m1 : Int)] 5 (0, 0)), (bb, .cells #[.int .u8 (m2 : Int)] 5 (0, 0)), (bx, .cells #[.slice (some ⟨gL, 0, none⟩) a.L.length a.L.length, a.sN, a.sK] 25 (0, 0)), (bt, .cells #[a.sL, a.sN, a.sK] 25 (0, 0))] := (hT2.set 5 rfl 0 (.slice (some ⟨gL, 0, none⟩) a.L.length a.L.length))
    refine tr_store t6_9 (X2.setCell ⟨bx, 0, none⟩ (.slice (some ⟨gL, 0, none⟩) a.L.length a.L.length)) (by kernel_rfl) rfl rfl ?_ ⟨hT3.cell 2 rfl rfl, hT3.cell 2 rfl rfl⟩ ?_; (focus (have e82 : a9.eval (.tmp 82) = (.slice (some ⟨gL, 0, none⟩) a.L.length a.L.length) := F9.ev 82 (by kernel_rfl); have e87 : a9.eval (.tmp 87) = (.pointer (some ⟨bx, 0, none⟩)) := F9.ev 87 (by kernel_rfl); generalize a9.eval = ev at e82 e87 ⊢; simp [go_sem, mkO, t6_9, e82, e87, hz, hc0, XP.sL]; done))
    clear hz hc0
    generalize (X2.setCell ⟨bx, 0, none⟩ (.slice (some ⟨gL, 0, none⟩) a.L.length a.L.length)) = X3 at *
    clear hT2
    clear X2
    show seqT _ _ _ _ _ a9 _
    refine tr_make t6_10 (.pointer (some ⟨bx, 1, none⟩)) _ (by kernel_rfl) rfl rfl ?_ ⟨hT3.cell 2 rfl rfl, hT3.cell 2 rfl rfl⟩ ?_; (focus (have hq := (show (fun W' : World => W'.cell? ⟨b, 0, none⟩ = some (a.sL) ∧ W'.cell? ⟨b, 1, none⟩ = some (a.sN)) X3 from ⟨hT3.cell 2 rfl rfl, hT3.cell 2 rfl rfl⟩); have e9 : a9.eval (.tmp 9) = (.pointer (some ⟨bx, 0, none⟩)) := F9.ev 9 (by kernel_rfl); generalize a9.eval = ev at e9 ⊢; simp [go_sem, mkO, t6_10, e9, hu25]; done))
    refine F9.next 88 (.pointer (some ⟨bx, 1, none⟩)) fun a10 F10 => ?_
    clear F9 a9
    have hz := hT3.fz 5 rfl
    have hc0 : X3.cell? ⟨bx, 1, none⟩ = some (a.sN) := hT3.cell 5 rfl rfl
    have hT4 : Tr w W (X3.setCell ⟨bx, 1, none⟩ (.slice (some ⟨gN, 0, none⟩) a.N.length a.N.length)) [(gL, .cells (List.map vi (List.replicate a.L.length 0)).toArray 3 (0, 0)), (gN, .cells (List.map vi (List.replicate a.N.length 0)).toArray 3 (0, 0)), (b, .cells #[a.sL, a.sN, a.sK] 25 (0, 0)), (ba, .cells #[.int .u8 (m1 : Int)] 5 (0, 0)), (bb, .cells #[.int .u8 (m2 : Int)] 5 (0, 0)), (bx, .cells #[.slice (some ⟨gL, 0, none⟩) a.L.length a.L.length, .slice (some ⟨gN, 0, none⟩) a.N.length a.N.length, a.sK] 25 (0, 0)), (bt, .cells #[a.sL, a.sN, a.sK] 25 (0, 0))] := (hT3.set 5 rfl 1 (.slice (some ⟨gN, 0, none⟩) a.N.length a.N.length))
    refine tr_store t6_11 (X3.setCell ⟨bx, 1, none⟩ (.slice (some ⟨gN, 0, none⟩) a.N.length a.N.length)) (by kernel_rfl) rfl rfl ?_ ⟨hT4.cell 2 rfl rfl, hT4.cell 2 rfl rfl⟩ ?_; (focus (have e86 : a10.eval (.tmp 86) = (.slice (some ⟨gN, 0, none⟩) a.N.length a.N.length) := F10.ev 86 (by kernel_rfl); have e88 : a10.eval (.tmp 88) = (.pointer (some ⟨bx, 1, none⟩)) := F10.ev 88 (by kernel_rfl); generalize a10.eval = ev at e86 e88 ⊢; simp [go_sem, mkO, t6_11, e86, e88, hz, hc0, XP.sN]; done))
    clear hz hc0
    generalize (X3.setCell ⟨bx, 1, none⟩ (.slice (some ⟨gN, 0, none⟩) a.N.length a.N.length)) = X4 at *
    clear hT3
    clear X3
    show seqT _ _ _ _ _ a10 _
    refine tr_make t6_12 (.pointer (some ⟨bx, 2, none⟩)) _ (by kernel_rfl) rfl rfl ?_ ⟨hT4.cell 2 rfl rfl, hT4.cell 2 rfl rfl⟩ ?_; (focus (have hq := (show (fun W' : World => W'.cell? ⟨b, 0, none⟩ = some (a.sL) ∧ W'.cell? ⟨b, 1, none⟩ = some (a.sN)) X4 from ⟨hT4.cell 2 rfl rfl, hT4.cell 2 rfl rfl⟩); have e9 : a10.eval (.tmp 9) = (.pointer (some ⟨bx, 0, none⟩)) := F10.ev 9 (by kernel_rfl); generalize a10.eval = ev at e9 ⊢; simp [go_sem, mkO, t6_12, e9, hu25]; done))
    refine F10.next 89 (.pointer (some ⟨bx, 2, none⟩)) fun a11 F11 => ?_
    clear F10 a10
    have hz := hT4.fz 5 rfl
    have hc0 : X4.cell? ⟨bx, 2, none⟩ = some (a.sK) := hT4.cell 5 rfl rfl
    have hT5 : Tr w W (X4.setCell ⟨bx, 2, none⟩ (.slice none 0 0)) [(gL, .cells (List.map vi (List.replicate a.L.length 0)).toArray 3 (0, 0)), (gN, .cells (List.map vi (List.replicate a.N.length 0)).toArray 3 (0, 0)), (b, .cells #[a.sL, a.sN, a.sK] 25 (0, 0)), (ba, .cells #[.int .u8 (m1 : Int)] 5 (0, 0)), (bb, .cells #[.int .u8 (m2 : Int)] 5 (0, 0)), (bx, .cells #[.slice (some ⟨gL, 0, none⟩) a.L.length a.L.length, .slice (some ⟨gN, 0, none⟩) a.N.length a.N.length, .slice none 0 0] 25 (0, 0)), (bt, .cells #[a.sL, a.sN, a.sK] 25 (0, 0))] := (hT4.set 5 rfl 2 (.slice none 0 0))
    refine tr_store t6_13 (X4.setCell ⟨bx, 2, none⟩ (.slice none 0 0)) (by kernel_rfl) rfl rfl ?_ ⟨hT5.cell 2 rfl rfl, hT5.cell 2 rfl rfl⟩ ?_; (focus (have e89 : a11.eval (.tmp 89) = (.pointer (some ⟨bx, 2, none⟩)) := F11.ev 89 (by kernel_rfl); have ec : ∀ c, a11.eval (.const c) = c := fun _ => rfl; generalize a11.eval = ev at e89 ec ⊢; simp [go_sem, mkO, t6_13, ec, e89, hz, hc0, XP.sK]; done))
    clear hz hc0
    generalize (X4.setCell ⟨bx, 2, none⟩ (.slice none 0 0)) = X5 at *
    clear hT4
    clear X4
    show seqT _ _ _ _ _ a11 _
    exact F11.out hQn hT5.keep ⟨gL, gN, (hT5.pick [2, 3, 4, 5, 6, 0, 1] (by kernel_rfl) (by kernel_rfl) (by kernel_rfl)).again, (F11.fin [79, 80, 81, 82, 83, 84, 85, 86, 87, 88, 89] (by kernel_rfl))⟩
end Go.Proofs.Ytbdmmikflkpmpaa
end

section
namespace Go.Proofs.Ytbdmmikflkpmpaa
open Go.RowKit Go.TL Go.Shelf Go.Pn
theorem getD_setJ (l : List Int) (r : Nat) (v : Int) {j : Nat} (hj : j < l.length) : (l.set r v).getD j 0 = if j = r then v else l.getD j 0 := by
  rw [List.getD_eq_getElem?_getD, List.getElem?_set, List.getD_eq_getElem?_getD]
  by_cases e : j = r
  · subst e
    rw [if_pos rfl, if_pos hj, if_pos rfl]
    rfl
  · rw [if_neg (fun c => e c.symm), if_neg e]
theorem getDJ (l : List Int) {r : Nat} (hr : r < l.length) : l[r]? = some (l.getD r 0) := by
  rw [List.getD_eq_getElem?_getD, List.getElem?_eq_getElem hr]
  rfl
def rotTo (L : List Int) (s : Nat → Nat) (k : Nat) : List Int := (List.range k).foldl (fun D j => D.set (s j) (L.getD j 0)) (List.replicate L.length 0)
theorem rotTo_succ (L : List Int) (s : Nat → Nat) (k : Nat) : rotTo L s (k + 1) = (rotTo L s k).set (s k) (L.getD k 0) := by
  unfold rotTo
  rw [List.range_succ, List.foldl_append]
  rfl
theorem rotTo_len (L : List Int) (s : Nat → Nat) : ∀ k, (rotTo L s k).length = L.length
  | 0 => by simp [rotTo]
  | k + 1 => by rw [rotTo_succ, List.length_set, rotTo_len L s k]
theorem rotTo_get {L : List Int} {s si : Nat → Nat} (h : Ren L.length s si) : ∀ k, k ≤ L.length → ∀ j, j < k → (rotTo L s k).getD (s j) 0 = L.getD j 0
  | 0, _, j, hj => by omega
  | k + 1, hk, j, hj => by
    rw [rotTo_succ, getD_setJ _ _ _ (by rw [rotTo_len]; exact h.lt j (by omega))]
    by_cases e : j = k
    · subst e
      rw [if_pos rfl]
    · rw [if_neg (fun c => e (by rw [← h.is j (by omega), c, h.is k (by omega)]))]
      exact rotTo_get h k (by omega) j (by omega)
def t10_0t : It := ⟨(Op.fieldAddr 25 (Operand.tmp 9) 0), some 98, 0, true, none⟩
def t10_1t : It := ⟨(Op.load 22 (Operand.tmp 98)), some 99, 22, true, none⟩
def t10_2t : It := ⟨(Op.move (Operand.tmp 7)), some 100, 43, true, none⟩
def t10_3t : It := ⟨(Op.move (Operand.tmp 11)), some 101, 3, true, none⟩
def t10_5t : It := ⟨(Op.move (Operand.tmp 12)), some 103, 3, true, none⟩
def t10_4 : It := ⟨(Op.call { callee := (Callee.value (Operand.tmp 100)), args := #[(Operand.tmp 101)], argTypes := #[3] }), some 102, 3, false, none⟩
def t10_6 : It := ⟨(Op.indexAddr 22 (Operand.tmp 99) (Operand.tmp 102)), some 104, 0, false, none⟩
def t10_7 : It := ⟨(Op.store 3 (Operand.tmp 104) (Operand.tmp 103)), none, 0, false, none⟩
set_option maxRecDepth 100000 in
set_option maxHeartbeats 4000000 in
theorem tu_r10 {w W : World} {a : XP} {b ba bb m1 m2 : Nat} {bx bt gL gN r k : Nat} {v : Int} {D : List Int} {cuN : List Value} (hf : a.Fine) (ha : a.At w) (hm : m1 < 256) (hk : k < a.L.length) (hr : (k + m1) % a.L.length = r) (hD : D.length = a.L.length) (hT : Tr w W W [(b, .cells #[a.sL, a.sN, a.sK] 25 (0, 0)), (ba, .cells #[.int .u8 (m1 : Int)] 5 (0, 0)), (bb, .cells #[.int .u8 (m2 : Int)] 5 (0, 0)), (bx, .cells #[.slice (some ⟨gL, 0, none⟩) a.L.length a.L.length, .slice (some ⟨gN, 0, none⟩) a.N.length a.N.length, .slice none 0 0] 25 (0, 0)), (bt, .cells #[a.sL, a.sN, a.sK] 25 (0, 0)), (gL, .cells (List.map vi D).toArray 3 (0, 0)), (gN, .cells (cuN).toArray 3 (0, 0))]) {t : Array Value} (hSl : Slots (none :: none :: none :: some (.pointer (some ⟨b, 0, none⟩)) :: some (.pointer (some ⟨ba, 0, none⟩)) :: some (.pointer (some ⟨bb, 0, none⟩)) :: some (.bool false) :: some (.func (.func 48) #[] #[.pointer (some ⟨ba, 0, none⟩), .pointer (some ⟨b, 0, none⟩)]) :: some (.func (.func 49) #[] #[.pointer (some ⟨bb, 0, none⟩), .pointer (some ⟨b, 0, none⟩)]) :: some (.pointer (some ⟨bx, 0, none⟩)) :: some (.pointer (some ⟨bt, 0, none⟩)) :: some (iv k) :: some (vi v) :: none :: none :: o4 (o4 (o4 (o64 (some (a.sL) :: some (iv a.L.length) :: some (iv k) :: o4 (o4 (o16 (o64 (o64 (o64 (o64 (o64 [])))))))))))) t) :
    Exec Try.prog none (sub (Try.f12.body.getD .skip) [1, 1, 1, 1, 1, 1, 0, 1, 0, 0, 1, 1, 0, 0, 1]) t W (andThen (fun t' W' => Tr w W' W' [(b, .cells #[a.sL, a.sN, a.sK] 25 (0, 0)), (ba, .cells #[.int .u8 (m1 : Int)] 5 (0, 0)), (bb, .cells #[.int .u8 (m2 : Int)] 5 (0, 0)), (bx, .cells #[.slice (some ⟨gL, 0, none⟩) a.L.length a.L.length, .slice (some ⟨gN, 0, none⟩) a.N.length a.N.length, .slice none 0 0] 25 (0, 0)), (bt, .cells #[a.sL, a.sN, a.sK] 25 (0, 0)), (gL, .cells ((List.map vi D).set r (vi v)).toArray 3 (0, 0)), (gN, .cells (cuN).toArray 3 (0, 0))] ∧ Slots (none :: none :: none :: some (.pointer (some ⟨b, 0, none⟩)) :: some (.pointer (some ⟨ba, 0, none⟩)) :: some (.pointer (some ⟨bb, 0, none⟩)) :: some (.bool false) :: some (.func (.func 48) #[] #[.pointer (some ⟨ba, 0, none⟩), .pointer (some ⟨b, 0, none⟩)]) :: some (.func (.func 49) #[] #[.pointer (some ⟨bb, 0, none⟩), .pointer (some ⟨b, 0, none⟩)]) :: some (.pointer (some ⟨bx, 0, none⟩)) :: some (.pointer (some ⟨bt, 0, none⟩)) :: o16 (o64 (some (a.sL) :: some (iv a.L.length) :: some (iv k) :: o4 (o4 (o16 (o64 (o64 (o64 (o64 (o64 [])))))))))) t') fun _ _ _ => False) := by
  have hu25 := Try.underlying25
  have hu22 := Try.underlying22
  have hrl : r < a.L.length := by rw [← hr]; exact Nat.mod_lt _ (by omega)
  have hrI : (r : Int) < a.L.length := by omega
  have hDr : (List.map vi D)[r]? = some (vi (D.getD r 0)) := by rw [List.getElem?_map, getDJ D (by omega)]; rfl
  have hcall := fun (X : World) (h1 : X.heap[ba]? = some (.cells #[.int .u8 (m1 : Int)] 5 (0, 0))) (h2 : PBx X b a) => judge48 hm h1 h2 hk
  rw [hr] at hcall
  have hT0 := hT.again.drew
  refine region_tree (c := (sub (Try.f12.body.getD .skip) [1, 1, 1, 1, 1, 1, 0, 1, 0, 0, 1, 1, 0, 0, 1])) (id := 10) (.one 0 true (.one 1 true (.one 2 true (.one 3 true (.one 5 true (.one 4 false (.one 6 false (.one 7 false (.nil))))))))) (Opq (regOps (sub (Try.f12.body.getD .skip) [1, 1, 1, 1, 1, 1, 0, 1, 0, 0, 1, 1, 0, 0, 1]))) rfl (by kernel_rfl) (by kernel_rfl) (by kernel_rfl) (by kernel_rfl) (by kernel_rfl) (by kernel_rfl) [0, 1, 0, 0, 12, 0, 63, 127] (by kernel_rfl) (by kernel_rfl) (fun W' => W'.cell? ⟨bx, 0, none⟩ = some (.slice (some ⟨gL, 0, none⟩) a.L.length a.L.length)) (fun _ _ _ => False) (fun _ _ _ h => h.elim) (fun _ _ _ _ _ _ _ _ h => h.elim) fun ds Q' hQn hQp => ?_
  have F0 : Fr (none :: none :: none :: some (.pointer (some ⟨b, 0, none⟩)) :: some (.pointer (some ⟨ba, 0, none⟩)) :: some (.pointer (some ⟨bb, 0, none⟩)) :: some (.bool false) :: some (.func (.func 48) #[] #[.pointer (some ⟨ba, 0, none⟩), .pointer (some ⟨b, 0, none⟩)]) :: some (.func (.func 49) #[] #[.pointer (some ⟨bb, 0, none⟩), .pointer (some ⟨b, 0, none⟩)]) :: some (.pointer (some ⟨bx, 0, none⟩)) :: some (.pointer (some ⟨bt, 0, none⟩)) :: some (iv k) :: some (vi v) :: none :: none :: o4 (o4 (o4 (o64 (some (a.sL) :: some (iv a.L.length) :: some (iv k) :: o4 (o4 (o16 (o64 (o64 (o64 (o64 (o64 [])))))))))))) ds { tmps := t, defers := ds } := Fr.start hSl
  clear hSl
  generalize ({ tmps := t, defers := ds } : Act) = a0 at *
  generalize W.drew = X0 at *
  refine tr_take t10_0t (.pointer (some ⟨bx, 0, none⟩)) (by kernel_rfl) rfl rfl (fun wq hq => ?_) (hT0.cell 3 rfl rfl) ?_; (focus (have e9 : a0.eval (.tmp 9) = (.pointer (some ⟨bx, 0, none⟩)) := F0.ev 9 (by kernel_rfl); generalize a0.eval = ev at e9 ⊢; simp [go_sem, mkO, t10_0t, e9, hu25]; done))
  refine F0.next 98 (.pointer (some ⟨bx, 0, none⟩)) fun a1 F1 => ?_
  clear F0
  refine tr_take t10_1t (.slice (some ⟨gL, 0, none⟩) a.L.length a.L.length) (by kernel_rfl) rfl rfl (fun wq hq => ?_) (hT0.cell 3 rfl rfl) ?_; (focus (have e98 : a1.eval (.tmp 98) = (.pointer (some ⟨bx, 0, none⟩)) := F1.ev 98 (by kernel_rfl); generalize a1.eval = ev at e98 ⊢; simp [go_sem, mkO, t10_1t, e98, hq]; done))
  refine F1.next 99 (.slice (some ⟨gL, 0, none⟩) a.L.length a.L.length) fun a2 F2 => ?_
  clear F1 a1
  refine tr_take t10_2t (.func (.func 48) #[] #[.pointer (some ⟨ba, 0, none⟩), .pointer (some ⟨b, 0, none⟩)]) (by kernel_rfl) rfl rfl (fun wq hq => ?_) (hT0.cell 3 rfl rfl) ?_; (focus (have e7 : a2.eval (.tmp 7) = (.func (.func 48) #[] #[.pointer (some ⟨ba, 0, none⟩), .pointer (some ⟨b, 0, none⟩)]) := F2.ev 7 (by kernel_rfl); generalize a2.eval = ev at e7 ⊢; simp [go_sem, mkO, t10_2t, e7]; done))
  refine F2.next 100 (.func (.func 48) #[] #[.pointer (some ⟨ba, 0, none⟩), .pointer (some ⟨b, 0, none⟩)]) fun a3 F3 => ?_
  clear F2 a2
  refine tr_take t10_3t (iv k) (by kernel_rfl) rfl rfl (fun wq hq => ?_) (hT0.cell 3 rfl rfl) ?_; (focus (have e11 : a3.eval (.tmp 11) = (iv k) := F3.ev 11 (by kernel_rfl); generalize a3.eval = ev at e11 ⊢; simp [go_sem, mkO, t10_3t, e11]; done))
  refine F3.next 101 (iv k) fun a4 F4 => ?_
  clear F3 a3
  refine tr_take t10_5t (vi v) (by kernel_rfl) rfl rfl (fun wq hq => ?_) (hT0.cell 3 rfl rfl) ?_; (focus (have e12 : a4.eval (.tmp 12) = (vi v) := F4.ev 12 (by kernel_rfl); generalize a4.eval = ev at e12 ⊢; simp [go_sem, mkO, t10_5t, e12]; done))
  refine F4.next 103 (vi v) fun a5 F5 => ?_
  clear F4 a4
  refine tr_call t10_4 (f := 48) (args := #[iv k, .pointer (some ⟨ba, 0, none⟩), .pointer (some ⟨b, 0, none⟩)]) (by kernel_rfl) rfl rfl ?_ ?_
  · (have e100 : a5.eval (.tmp 100) = (.func (.func 48) #[] #[.pointer (some ⟨ba, 0, none⟩), .pointer (some ⟨b, 0, none⟩)]) := F5.ev 100 (by kernel_rfl); have e101 : a5.eval (.tmp 101) = (iv k) := F5.ev 101 (by kernel_rfl); generalize a5.eval = ev at e100 e101 ⊢; simp [go_sem, mkO, t10_4, e100, e101]; done)
  refine (hcall X0 (hT0.get 1 rfl) ⟨hT0.get 0 rfl, ha.below hT0.below⟩).mono ?_
  rintro e X1 ⟨rfl, hy⟩
  have hT1 := hT0.step hy
  refine .inl ⟨_, rfl, (hT1.cell 3 rfl rfl), ?_⟩
  clear hy hT0
  clear X0
  refine F5.next 102 (iv r) fun a6 F6 => ?_
  clear F5 a5
  refine tr_make t10_6 (.pointer (some ⟨gL, r, none⟩)) _ (by kernel_rfl) rfl rfl ?_ (hT1.cell 3 rfl rfl) ?_; (focus (have hq := (show (fun W' : World => W'.cell? ⟨bx, 0, none⟩ = some (.slice (some ⟨gL, 0, none⟩) a.L.length a.L.length)) X1 from (hT1.cell 3 rfl rfl)); have e99 : a6.eval (.tmp 99) = (.slice (some ⟨gL, 0, none⟩) a.L.length a.L.length) := F6.ev 99 (by kernel_rfl); have e102 : a6.eval (.tmp 102) = (iv r) := F6.ev 102 (by kernel_rfl); generalize a6.eval = ev at e99 e102 ⊢; simp [go_sem, mkO, t10_6, e99, e102, hu22, hrI]; done))
  refine F6.next 104 (.pointer (some ⟨gL, r, none⟩)) fun a7 F7 => ?_
  clear F6 a6
  have hz := hT1.fz 5 rfl
  have hc0 := hT1.cell 5 rfl (hDr)
  have hT2 : Tr w W (X1.setCell ⟨gL, r, none⟩ (vi v)) [(b, .cells #[a.sL, a.sN, a.sK] 25 (0, 0)), (ba, .cells #[.int .u8 (m1 : Int)] 5 (0, 0)), (bb, .cells #[.int .u8 (m2 : Int)] 5 (0, 0)), (bx, .cells #[.slice (some ⟨gL, 0, none⟩) a.L.length a.L.length, .slice (some ⟨gN, 0, none⟩) a.N.length a.N.length, .slice none 0 0] 25 (0, 0)), (bt, .cells #[a.sL, a.sN, a.sK] 25 (0, 0)), (gL, .cells ((List.map vi D).set r (vi v)).toArray 3 (0, 0)), (gN, .cells (cuN).toArray 3 (0, 0))] := (hT1.set 5 rfl r (vi v))
  refine tr_store t10_7 (X1.setCell ⟨gL, r, none⟩ (vi v)) (by kernel_rfl) rfl rfl ?_ (hT2.cell 3 rfl rfl) ?_; (focus (have e103 : a7.eval (.tmp 103) = (vi v) := F7.ev 103 (by kernel_rfl); have e104 : a7.eval (.tmp 104) = (.pointer (some ⟨gL, r, none⟩)) := F7.ev 104 (by kernel_rfl); generalize a7.eval = ev at e103 e104 ⊢; simp [go_sem, mkO, t10_7, e103, e104, hz, hc0]; done))
  clear hz hc0
  generalize (X1.setCell ⟨gL, r, none⟩ (vi v)) = X2 at *
  clear hT1
  clear X1
  show seqT _ _ _ _ _ a7 _
  exact F7.out hQn hT2.keep ⟨hT2.again, (F7.fin [98, 99, 100, 101, 102, 103, 104, 11, 12] (by kernel_rfl))⟩
def TlLI (w : World) (a : XP) (b ba bb m1 m2 bx bt gL gN : Nat) (cuN : List Value) (n : Nat) (t : Array Value) (W : World) : Prop :=
  ∃ k : Nat, k ≤ a.L.length ∧ n = a.L.length - k ∧ Tr w W W [(b, .cells #[a.sL, a.sN, a.sK] 25 (0, 0)), (ba, .cells #[.int .u8 (m1 : Int)] 5 (0, 0)), (bb, .cells #[.int .u8 (m2 : Int)] 5 (0, 0)), (bx, .cells #[.slice (some ⟨gL, 0, none⟩) a.L.length a.L.length, .slice (some ⟨gN, 0, none⟩) a.N.length a.N.length, .slice none 0 0] 25 (0, 0)), (bt, .cells #[a.sL, a.sN, a.sK] 25 (0, 0)), (gL, .cells (List.map vi (rotTo a.L (fun j => (j + m1) % a.L.length) k)).toArray 3 (0, 0)), (gN, .cells (cuN).toArray 3 (0, 0))] ∧ Slots (none :: none :: none :: some (.pointer (some ⟨b, 0, none⟩)) :: some (.pointer (some ⟨ba, 0, none⟩)) :: some (.pointer (some ⟨bb, 0, none⟩)) :: some (.bool false) :: some (.func (.func 48) #[] #[.pointer (some ⟨ba, 0, none⟩), .pointer (some ⟨b, 0, none⟩)]) :: some (.func (.func 49) #[] #[.pointer (some ⟨bb, 0, none⟩), .pointer (some ⟨b, 0, none⟩)]) :: some (.pointer (some ⟨bx, 0, none⟩)) :: some (.pointer (some ⟨bt, 0, none⟩)) :: o16 (o64 (some (a.sL) :: some (iv a.L.length) :: some (iv k) :: o4 (o4 (o16 (o64 (o64 (o64 (o64 (o64 [])))))))))) t
set_option maxRecDepth 100000 in
set_option maxHeartbeats 4000000 in
theorem tu_loads {w W : World} {a : XP} {b ba bb m1 m2 : Nat} {bx bt gL gN : Nat} {cuN : List Value} (hf : a.Fine) (ha : a.At w) (hm : m1 < 256) (hT : Tr w W W [(b, .cells #[a.sL, a.sN, a.sK] 25 (0, 0)), (ba, .cells #[.int .u8 (m1 : Int)] 5 (0, 0)), (bb, .cells #[.int .u8 (m2 : Int)] 5 (0, 0)), (bx, .cells #[.slice (some ⟨gL, 0, none⟩) a.L.length a.L.length, .slice (some ⟨gN, 0, none⟩) a.N.length a.N.length, .slice none 0 0] 25 (0, 0)), (bt, .cells #[a.sL, a.sN, a.sK] 25 (0, 0)), (gL, .cells (List.map vi (rotTo a.L (fun j => (j + m1) % a.L.length) 0)).toArray 3 (0, 0)), (gN, .cells (cuN).toArray 3 (0, 0))]) {t : Array Value} (hSl : Slots (none :: none :: none :: some (.pointer (some ⟨b, 0, none⟩)) :: some (.pointer (some ⟨ba, 0, none⟩)) :: some (.pointer (some ⟨bb, 0, none⟩)) :: some (.bool false) :: some (.func (.func 48) #[] #[.pointer (some ⟨ba, 0, none⟩), .pointer (some ⟨b, 0, none⟩)]) :: some (.func (.func 49) #[] #[.pointer (some ⟨bb, 0, none⟩), .pointer (some ⟨b, 0, none⟩)]) :: some (.pointer (some ⟨bx, 0, none⟩)) :: some (.pointer (some ⟨bt, 0, none⟩)) :: none :: none :: none :: o4 (o4 (o16 (o16 (o64 (o64 (o64 (o64 (o64 (o64 [])))))))))) t) :
    Exec Try.prog none (sub (Try.f12.body.getD .skip) [1, 1, 1, 1, 1, 1, 0]) t W (andThen (fun t' W' => Tr w W' W' [(b, .cells #[a.sL, a.sN, a.sK] 25 (0, 0)), (ba, .cells #[.int .u8 (m1 : Int)] 5 (0, 0)), (bb, .cells #[.int .u8 (m2 : Int)] 5 (0, 0)), (bx, .cells #[.slice (some ⟨gL, 0, none⟩) a.L.length a.L.length, .slice (some ⟨gN, 0, none⟩) a.N.length a.N.length, .slice none 0 0] 25 (0, 0)), (bt, .cells #[a.sL, a.sN, a.sK] 25 (0, 0)), (gL, .cells (List.map vi (rotTo a.L (fun j => (j + m1) % a.L.length) a.L.length)).toArray 3 (0, 0)), (gN, .cells (cuN).toArray 3 (0, 0))] ∧ Slots (none :: none :: none :: some (.pointer (some ⟨b, 0, none⟩)) :: some (.pointer (some ⟨ba, 0, none⟩)) :: some (.pointer (some ⟨bb, 0, none⟩)) :: some (.bool false) :: some (.func (.func 48) #[] #[.pointer (some ⟨ba, 0, none⟩), .pointer (some ⟨b, 0, none⟩)]) :: some (.func (.func 49) #[] #[.pointer (some ⟨bb, 0, none⟩), .pointer (some ⟨b, 0, none⟩)]) :: some (.pointer (some ⟨bx, 0, none⟩)) :: some (.pointer (some ⟨bt, 0, none⟩)) :: none :: none :: none :: o4 (o4 (o16 (o16 (o64 (o64 (o64 (o64 (o64 (o64 [])))))))))) t') fun _ _ _ => False) := by
  have hu25 := Try.underlying25
  have hu22 := Try.underlying22
  have h6 := hf.j
  have c0 := hT.cell 0 rfl (j := 0) rfl
  simp only [XP.sL] at c0
  obtain ⟨x, hx⟩ := Slots.open_ hSl; simp only [fill, Nat.reduceAdd] at hx; subst hx; clear hSl
  show Exec _ _ (Code.seq _ (Code.block _ _)) _ _ _
  refine exec_seq (exec_region_o fun ds => ?_)
  gi_wp2
  refine eq_mk (Keep.refl _) ?_
  show Exec _ _ (Code.block _ _) _ _ _
  clear c0
  refine exec_block ?_
  refine exec_loop (TlLI w a b ba bb m1 m2 bx bt gL gN cuN) a.L.length ⟨0, by omega, rfl, hT, by simp [Slots, Fits, XP.sL]⟩ ?_
  clear hT x
  clear W
  rintro n t W ⟨k, hk, hn, hT, hSl⟩
  have HN := Lib.hid hn
  clear hn
  obtain ⟨x, hx⟩ := Slots.open_ hSl; simp only [fill, Nat.reduceAdd] at hx; subst hx; clear hSl
  show Exec _ _ (Code.seq _ (Code.seq _ _)) _ _ _
  refine exec_seq (exec_region_o fun ds => ?_)
  gi_wp2
  refine eq_mk (Keep.refl _) ?_
  show Exec _ _ (Code.seq (Code.cond _ _ _) _) _ _ _
  refine exec_seq (exec_cond (b := decide (k < a.L.length)) (by first | rfl | (show Value.bool _ = _; congr 1; exact decide_eq_decide.2 (by omega))) (fun hp => exec_skip ?_) (fun hp => exec_exit ?_))
  · have hkl : k < a.L.length := by have := of_decide_eq_true hp; omega
    have hkI : (k : Int) < a.L.length := by omega
    have hg := getDJ a.L hkl
    obtain ⟨ad, hA, ck⟩ := (ha.below hT.below).l k (vi (a.L.getD k 0)) (by rw [List.getElem?_map, hg]; rfl)
    obtain ⟨v, hv⟩ : ∃ v, a.L.getD k 0 = v := ⟨_, rfl⟩
    rw [hv] at ck
    have HV := Lib.hid hv
    clear hv
    show Exec _ _ (Code.seq (Code.block _ _) _) _ _ _
    refine exec_cut (fun t' W => Tr w W W [(b, .cells #[a.sL, a.sN, a.sK] 25 (0, 0)), (ba, .cells #[.int .u8 (m1 : Int)] 5 (0, 0)), (bb, .cells #[.int .u8 (m2 : Int)] 5 (0, 0)), (bx, .cells #[.slice (some ⟨gL, 0, none⟩) a.L.length a.L.length, .slice (some ⟨gN, 0, none⟩) a.N.length a.N.length, .slice none 0 0] 25 (0, 0)), (bt, .cells #[a.sL, a.sN, a.sK] 25 (0, 0)), (gL, .cells (List.map vi (rotTo a.L (fun j => (j + m1) % a.L.length) (k + 1))).toArray 3 (0, 0)), (gN, .cells (cuN).toArray 3 (0, 0))] ∧ Slots (none :: none :: none :: some (.pointer (some ⟨b, 0, none⟩)) :: some (.pointer (some ⟨ba, 0, none⟩)) :: some (.pointer (some ⟨bb, 0, none⟩)) :: some (.bool false) :: some (.func (.func 48) #[] #[.pointer (some ⟨ba, 0, none⟩), .pointer (some ⟨b, 0, none⟩)]) :: some (.func (.func 49) #[] #[.pointer (some ⟨bb, 0, none⟩), .pointer (some ⟨b, 0, none⟩)]) :: some (.pointer (some ⟨bx, 0, none⟩)) :: some (.pointer (some ⟨bt, 0, none⟩)) :: o16 (o64 (some (a.sL) :: some (iv a.L.length) :: some (iv k) :: o4 (o4 (o16 (o64 (o64 (o64 (o64 (o64 [])))))))))) t') (exec_block ?_) ?_
    · have HA := Lib.hid hA
      simp only [XP.sL, hA]
      clear hA hg
      show Exec _ _ (Code.seq _ _) _ _ _
      refine exec_seq (exec_region_o fun ds => ?_)
      gi_wp2
      refine eq_mk (Keep.refl _) ?_
      show Exec _ _ (sub (Try.f12.body.getD .skip) [1, 1, 1, 1, 1, 1, 0, 1, 0, 0, 1, 1, 0, 0, 1]) _ _ _
      refine (tu_r10 (k := k) (v := v) (cuN := cuN) hf ha hm hkl rfl (by rw [rotTo_len]) hT ?_).mono ?_
      · simp [Slots, Fits, XP.sL, HA.out]
      · intro e t' Z hh
        obtain ⟨rfl, hT2, hS2⟩ := only_normal hh
        have hA2 := HA.out
        simp only [XP.sL, hA2] at hT2 hS2
        refine ⟨?_, hS2⟩
        rw [rotTo_succ, HV.out, List.map_set]
        exact hT2
    · clear hT x ck HV
      clear W
      rintro t' Y ⟨hT, hSl⟩
      obtain ⟨x, hx⟩ := Slots.open_ hSl; simp only [fill, Nat.reduceAdd] at hx; subst hx; clear hSl
      have hw : IntKind.i64.wrap ((k : Int) + 1) = ((k + 1 : Nat) : Int) := by rw [IntWalk.i64_in _ (by omega)]; norm_cast
      refine exec_region_o fun ds => ?_
      gi_wp2
      exact eq_mk (Keep.refl _) ⟨n - 1, by rw [HN.out]; omega, k + 1, by omega, by rw [HN.out]; omega, hT, by simp only [Slots, Fits, and_self]; simp⟩
  · have hk2 : k = a.L.length := by have := of_decide_eq_false hp; omega
    subst hk2
    exact ⟨hT, by simp [Slots, Fits]⟩
def t15_0t : It := ⟨(Op.fieldAddr 25 (Operand.tmp 9) 1), some 114, 0, true, none⟩
def t15_1t : It := ⟨(Op.load 22 (Operand.tmp 114)), some 115, 22, true, none⟩
def t15_2t : It := ⟨(Op.move (Operand.tmp 8)), some 116, 43, true, none⟩
def t15_3t : It := ⟨(Op.move (Operand.tmp 13)), some 117, 3, true, none⟩
def t15_5t : It := ⟨(Op.move (Operand.tmp 14)), some 119, 3, true, none⟩
def t15_4 : It := ⟨(Op.call { callee := (Callee.value (Operand.tmp 116)), args := #[(Operand.tmp 117)], argTypes := #[3] }), some 118, 3, false, none⟩
def t15_6 : It := ⟨(Op.indexAddr 22 (Operand.tmp 115) (Operand.tmp 118)), some 120, 0, false, none⟩
def t15_7 : It := ⟨(Op.store 3 (Operand.tmp 120) (Operand.tmp 119)), none, 0, false, none⟩
set_option maxRecDepth 100000 in
set_option maxHeartbeats 4000000 in
theorem tu_r15 {w W : World} {a : XP} {b ba bb m1 m2 : Nat} {bx bt gL gN r k : Nat} {v : Int} {D : List Int} {cuL : List Value} (hf : a.Fine) (ha : a.At w) (hm : m2 < 256) (hk : k < a.N.length) (hr : (k + m2) % a.N.length = r) (hD : D.length = a.N.length) (hT : Tr w W W [(b, .cells #[a.sL, a.sN, a.sK] 25 (0, 0)), (ba, .cells #[.int .u8 (m1 : Int)] 5 (0, 0)), (bb, .cells #[.int .u8 (m2 : Int)] 5 (0, 0)), (bx, .cells #[.slice (some ⟨gL, 0, none⟩) a.L.length a.L.length, .slice (some ⟨gN, 0, none⟩) a.N.length a.N.length, .slice none 0 0] 25 (0, 0)), (bt, .cells #[a.sL, a.sN, a.sK] 25 (0, 0)), (gL, .cells (cuL).toArray 3 (0, 0)), (gN, .cells (List.map vi D).toArray 3 (0, 0))]) {t : Array Value} (hSl : Slots (none :: none :: none :: some (.pointer (some ⟨b, 0, none⟩)) :: some (.pointer (some ⟨ba, 0, none⟩)) :: some (.pointer (some ⟨bb, 0, none⟩)) :: some (.bool false) :: some (.func (.func 48) #[] #[.pointer (some ⟨ba, 0, none⟩), .pointer (some ⟨b, 0, none⟩)]) :: some (.func (.func 49) #[] #[.pointer (some ⟨bb, 0, none⟩), .pointer (some ⟨b, 0, none⟩)]) :: some (.pointer (some ⟨bx, 0, none⟩)) :: some (.pointer (some ⟨bt, 0, none⟩)) :: none :: none :: some (iv k) :: some (vi v) :: o4 (o4 (o4 (o16 (o64 (some (a.sN) :: some (iv a.N.length) :: some (iv k) :: o4 (o4 (o64 (o64 (o64 (o64 (o64 [])))))))))))) t) :
    Exec Try.prog none (sub (Try.f12.body.getD .skip) [1, 1, 1, 1, 1, 1, 1, 0, 1, 0, 0, 1, 1, 0, 0, 1]) t W (andThen (fun t' W' => Tr w W' W' [(b, .cells #[a.sL, a.sN, a.sK] 25 (0, 0)), (ba, .cells #[.int .u8 (m1 : Int)] 5 (0, 0)), (bb, .cells #[.int .u8 (m2 : Int)] 5 (0, 0)), (bx, .cells #[.slice (some ⟨gL, 0, none⟩) a.L.length a.L.length, .slice (some ⟨gN, 0, none⟩) a.N.length a.N.length, .slice none 0 0] 25 (0, 0)), (bt, .cells #[a.sL, a.sN, a.sK] 25 (0, 0)), (gL, .cells (cuL).toArray 3 (0, 0)), (gN, .cells ((List.map vi D).set r (vi v)).toArray 3 (0, 0))] ∧ Slots (none :: none :: none :: some (.pointer (some ⟨b, 0, none⟩)) :: some (.pointer (some ⟨ba, 0, none⟩)) :: some (.pointer (some ⟨bb, 0, none⟩)) :: some (.bool false) :: some (.func (.func 48) #[] #[.pointer (some ⟨ba, 0, none⟩), .pointer (some ⟨b, 0, none⟩)]) :: some (.func (.func 49) #[] #[.pointer (some ⟨bb, 0, none⟩), .pointer (some ⟨b, 0, none⟩)]) :: some (.pointer (some ⟨bx, 0, none⟩)) :: some (.pointer (some ⟨bt, 0, none⟩)) :: o16 (o16 (o64 (some (a.sN) :: some (iv a.N.length) :: some (iv k) :: o4 (o4 (o64 (o64 (o64 (o64 (o64 [])))))))))) t') fun _ _ _ => False) := by
  have hu25 := Try.underlying25
  have hu22 := Try.underlying22
  have hrl : r < a.N.length := by rw [← hr]; exact Nat.mod_lt _ (by omega)
  have hrI : (r : Int) < a.N.length := by omega
  have hDr : (List.map vi D)[r]? = some (vi (D.getD r 0)) := by rw [List.getElem?_map, getDJ D (by omega)]; rfl
  have hcall := fun (X : World) (h1 : X.heap[bb]? = some (.cells #[.int .u8 (m2 : Int)] 5 (0, 0))) (h2 : PBx X b a) => plot49 hm h1 h2 hk
  rw [hr] at hcall
  have hT0 := hT.again.drew
  refine region_tree (c := (sub (Try.f12.body.getD .skip) [1, 1, 1, 1, 1, 1, 1, 0, 1, 0, 0, 1, 1, 0, 0, 1])) (id := 15) (.one 0 true (.one 1 true (.one 2 true (.one 3 true (.one 5 true (.one 4 false (.one 6 false (.one 7 false (.nil))))))))) (Opq (regOps (sub (Try.f12.body.getD .skip) [1, 1, 1, 1, 1, 1, 1, 0, 1, 0, 0, 1, 1, 0, 0, 1]))) rfl (by kernel_rfl) (by kernel_rfl) (by kernel_rfl) (by kernel_rfl) (by kernel_rfl) (by kernel_rfl) [0, 1, 0, 0, 12, 0, 63, 127] (by kernel_rfl) (by kernel_rfl) (fun W' => W'.cell? ⟨bx, 1, none⟩ = some (.slice (some ⟨gN, 0, none⟩) a.N.length a.N.length)) (fun _ _ _ => False) (fun _ _ _ h => h.elim) (fun _ _ _ _ _ _ _ _ h => h.elim) fun ds Q' hQn hQp => ?_
  have F0 : Fr (none :: none :: none :: some (.pointer (some ⟨b, 0, none⟩)) :: some (.pointer (some ⟨ba, 0, none⟩)) :: some (.pointer (some ⟨bb, 0, none⟩)) :: some (.bool false) :: some (.func (.func 48) #[] #[.pointer (some ⟨ba, 0, none⟩), .pointer (some ⟨b, 0, none⟩)]) :: some (.func (.func 49) #[] #[.pointer (some ⟨bb, 0, none⟩), .pointer (some ⟨b, 0, none⟩)]) :: some (.pointer (some ⟨bx, 0, none⟩)) :: some (.pointer (some ⟨bt, 0, none⟩)) :: none :: none :: some (iv k) :: some (vi v) :: o4 (o4 (o4 (o16 (o64 (some (a.sN) :: some (iv a.N.length) :: some (iv k) :: o4 (o4 (o64 (o64 (o64 (o64 (o64 [])))))))))))) ds { tmps := t, defers := ds } := Fr.start hSl
  clear hSl
  generalize ({ tmps := t, defers := ds } : Act) = a0 at *
  generalize W.drew = X0 at *
  refine tr_take t15_0t (.pointer (some ⟨bx, 1, none⟩)) (by kernel_rfl) rfl rfl (fun wq hq => ?_) (hT0.cell 3 rfl rfl) ?_; (focus (have e9 : a0.eval (.tmp 9) = (.pointer (some ⟨bx, 0, none⟩)) := F0.ev 9 (by kernel_rfl); generalize a0.eval = ev at e9 ⊢; simp [go_sem, mkO, t15_0t, e9, hu25]; done))
  refine F0.next 114 (.pointer (some ⟨bx, 1, none⟩)) fun a1 F1 => ?_
  clear F0
  refine tr_take t15_1t (.slice (some ⟨gN, 0, none⟩) a.N.length a.N.length) (by kernel_rfl) rfl rfl (fun wq hq => ?_) (hT0.cell 3 rfl rfl) ?_; (focus (have e114 : a1.eval (.tmp 114) = (.pointer (some ⟨bx, 1, none⟩)) := F1.ev 114 (by kernel_rfl); generalize a1.eval = ev at e114 ⊢; simp [go_sem, mkO, t15_1t, e114, hq]; done))
  refine F1.next 115 (.slice (some ⟨gN, 0, none⟩) a.N.length a.N.length) fun a2 F2 => ?_
  clear F1 a1
  refine tr_take t15_2t (.func (.func 49) #[] #[.pointer (some ⟨bb, 0, none⟩), .pointer (some ⟨b, 0, none⟩)]) (by kernel_rfl) rfl rfl (fun wq hq => ?_) (hT0.cell 3 rfl rfl) ?_; (focus (have e8 : a2.eval (.tmp 8) = (.func (.func 49) #[] #[.pointer (some ⟨bb, 0, none⟩), .pointer (some ⟨b, 0, none⟩)]) := F2.ev 8 (by kernel_rfl); generalize a2.eval = ev at e8 ⊢; simp [go_sem, mkO, t15_2t, e8]; done))
  refine F2.next 116 (.func (.func 49) #[] #[.pointer (some ⟨bb, 0, none⟩), .pointer (some ⟨b, 0, none⟩)]) fun a3 F3 => ?_
  clear F2 a2
  refine tr_take t15_3t (iv k) (by kernel_rfl) rfl rfl (fun wq hq => ?_) (hT0.cell 3 rfl rfl) ?_; (focus (have e13 : a3.eval (.tmp 13) = (iv k) := F3.ev 13 (by kernel_rfl); generalize a3.eval = ev at e13 ⊢; simp [go_sem, mkO, t15_3t, e13]; done))
  refine F3.next 117 (iv k) fun a4 F4 => ?_
  clear F3 a3
  refine tr_take t15_5t (vi v) (by kernel_rfl) rfl rfl (fun wq hq => ?_) (hT0.cell 3 rfl rfl) ?_; (focus (have e14 : a4.eval (.tmp 14) = (vi v) := F4.ev 14 (by kernel_rfl); generalize a4.eval = ev at e14 ⊢; simp [go_sem, mkO, t15_5t, e14]; done))
  refine F4.next 119 (vi v) fun a5 F5 => ?_
  clear F4 a4
  refine tr_call t15_4 (f := 49) (args := #[iv k, .pointer (some ⟨bb, 0, none⟩), .pointer (some ⟨b, 0, none⟩)]) (by kernel_rfl) rfl rfl ?_ ?_
  · (have e116 : a5.eval (.tmp 116) = (.func (.func 49) #[] #[.pointer (some ⟨bb, 0, none⟩), .pointer (some ⟨b, 0, none⟩)]) := F5.ev 116 (by kernel_rfl); have e117 : a5.eval (.tmp 117) = (iv k) := F5.ev 117 (by kernel_rfl); generalize a5.eval = ev at e116 e117 ⊢; simp [go_sem, mkO, t15_4, e116, e117]; done)
  refine (hcall X0 (hT0.get 2 rfl) ⟨hT0.get 0 rfl, ha.below hT0.below⟩).mono ?_
  rintro e X1 ⟨rfl, hy⟩
  have hT1 := hT0.step hy
  refine .inl ⟨_, rfl, (hT1.cell 3 rfl rfl), ?_⟩
  clear hy hT0
  clear X0
  refine F5.next 118 (iv r) fun a6 F6 => ?_
  clear F5 a5
  refine tr_make t15_6 (.pointer (some ⟨gN, r, none⟩)) _ (by kernel_rfl) rfl rfl ?_ (hT1.cell 3 rfl rfl) ?_; (focus (have hq := (show (fun W' : World => W'.cell? ⟨bx, 1, none⟩ = some (.slice (some ⟨gN, 0, none⟩) a.N.length a.N.length)) X1 from (hT1.cell 3 rfl rfl)); have e115 : a6.eval (.tmp 115) = (.slice (some ⟨gN, 0, none⟩) a.N.length a.N.length) := F6.ev 115 (by kernel_rfl); have e118 : a6.eval (.tmp 118) = (iv r) := F6.ev 118 (by kernel_rfl); generalize a6.eval = ev at e115 e118 ⊢; simp [go_sem, mkO, t15_6, e115, e118, hu22, hrI]; done))
  refine F6.next 120 (.pointer (some ⟨gN, r, none⟩)) fun a7 F7 => ?_
  clear F6 a6
  have hz := hT1.fz 6 rfl
  have hc0 := hT1.cell 6 rfl (hDr)
  have hT2 : Tr w W (X1.setCell ⟨gN, r, none⟩ (vi v)) [(b, .cells #[a.sL, a.sN, a.sK] 25 (0, 0)), (ba, .cells #[.int .u8 (m1 : Int)] 5 (0, 0)), (bb, .cells #[.int .u8 (m2 : Int)] 5 (0, 0)), (bx, .cells #[.slice (some ⟨gL, 0, none⟩) a.L.length a.L.length, .slice (some ⟨gN, 0, none⟩) a.N.length a.N.length, .slice none 0 0] 25 (0, 0)), (bt, .cells #[a.sL, a.sN, a.sK] 25 (0, 0)), (gL, .cells (cuL).toArray 3 (0, 0)), (gN, .cells ((List.map vi D).set r (vi v)).toArray 3 (0, 0))] := (hT1.set 6 rfl r (vi v))
  refine tr_store t15_7 (X1.setCell ⟨gN, r, none⟩ (vi v)) (by kernel_rfl) rfl rfl ?_ (hT2.cell 3 rfl rfl) ?_; (focus (have e119 : a7.eval (.tmp 119) = (vi v) := F7.ev 119 (by kernel_rfl); have e120 : a7.eval (.tmp 120) = (.pointer (some ⟨gN, r, none⟩)) := F7.ev 120 (by kernel_rfl); generalize a7.eval = ev at e119 e120 ⊢; simp [go_sem, mkO, t15_7, e119, e120, hz, hc0]; done))
  clear hz hc0
  generalize (X1.setCell ⟨gN, r, none⟩ (vi v)) = X2 at *
  clear hT1
  clear X1
  show seqT _ _ _ _ _ a7 _
  exact F7.out hQn hT2.keep ⟨hT2.again, (F7.fin [114, 115, 116, 117, 118, 119, 120, 13, 14] (by kernel_rfl))⟩
def TlNI (w : World) (a : XP) (b ba bb m1 m2 bx bt gL gN : Nat) (cuL : List Value) (n : Nat) (t : Array Value) (W : World) : Prop :=
  ∃ k : Nat, k ≤ a.N.length ∧ n = a.N.length - k ∧ Tr w W W [(b, .cells #[a.sL, a.sN, a.sK] 25 (0, 0)), (ba, .cells #[.int .u8 (m1 : Int)] 5 (0, 0)), (bb, .cells #[.int .u8 (m2 : Int)] 5 (0, 0)), (bx, .cells #[.slice (some ⟨gL, 0, none⟩) a.L.length a.L.length, .slice (some ⟨gN, 0, none⟩) a.N.length a.N.length, .slice none 0 0] 25 (0, 0)), (bt, .cells #[a.sL, a.sN, a.sK] 25 (0, 0)), (gL, .cells (cuL).toArray 3 (0, 0)), (gN, .cells (List.map vi (rotTo a.N (fun j => (j + m2) % a.N.length) k)).toArray 3 (0, 0))] ∧ Slots (none :: none :: none :: some (.pointer (some ⟨b, 0, none⟩)) :: some (.pointer (some ⟨ba, 0, none⟩)) :: some (.pointer (some ⟨bb, 0, none⟩)) :: some (.bool false) :: some (.func (.func 48) #[] #[.pointer (some ⟨ba, 0, none⟩), .pointer (some ⟨b, 0, none⟩)]) :: some (.func (.func 49) #[] #[.pointer (some ⟨bb, 0, none⟩), .pointer (some ⟨b, 0, none⟩)]) :: some (.pointer (some ⟨bx, 0, none⟩)) :: some (.pointer (some ⟨bt, 0, none⟩)) :: o16 (o16 (o64 (some (a.sN) :: some (iv a.N.length) :: some (iv k) :: o4 (o4 (o64 (o64 (o64 (o64 (o64 [])))))))))) t
set_option maxRecDepth 100000 in
set_option maxHeartbeats 4000000 in
theorem tu_needs {w W : World} {a : XP} {b ba bb m1 m2 : Nat} {bx bt gL gN : Nat} {cuL : List Value} (hf : a.Fine) (ha : a.At w) (hm : m2 < 256) (hT : Tr w W W [(b, .cells #[a.sL, a.sN, a.sK] 25 (0, 0)), (ba, .cells #[.int .u8 (m1 : Int)] 5 (0, 0)), (bb, .cells #[.int .u8 (m2 : Int)] 5 (0, 0)), (bx, .cells #[.slice (some ⟨gL, 0, none⟩) a.L.length a.L.length, .slice (some ⟨gN, 0, none⟩) a.N.length a.N.length, .slice none 0 0] 25 (0, 0)), (bt, .cells #[a.sL, a.sN, a.sK] 25 (0, 0)), (gL, .cells (cuL).toArray 3 (0, 0)), (gN, .cells (List.map vi (rotTo a.N (fun j => (j + m2) % a.N.length) 0)).toArray 3 (0, 0))]) {t : Array Value} (hSl : Slots (none :: none :: none :: some (.pointer (some ⟨b, 0, none⟩)) :: some (.pointer (some ⟨ba, 0, none⟩)) :: some (.pointer (some ⟨bb, 0, none⟩)) :: some (.bool false) :: some (.func (.func 48) #[] #[.pointer (some ⟨ba, 0, none⟩), .pointer (some ⟨b, 0, none⟩)]) :: some (.func (.func 49) #[] #[.pointer (some ⟨bb, 0, none⟩), .pointer (some ⟨b, 0, none⟩)]) :: some (.pointer (some ⟨bx, 0, none⟩)) :: some (.pointer (some ⟨bt, 0, none⟩)) :: none :: none :: none :: o4 (o4 (o16 (o16 (o64 (o64 (o64 (o64 (o64 (o64 [])))))))))) t) :
    Exec Try.prog none (sub (Try.f12.body.getD .skip) [1, 1, 1, 1, 1, 1, 1, 0]) t W (andThen (fun t' W' => Tr w W' W' [(b, .cells #[a.sL, a.sN, a.sK] 25 (0, 0)), (ba, .cells #[.int .u8 (m1 : Int)] 5 (0, 0)), (bb, .cells #[.int .u8 (m2 : Int)] 5 (0, 0)), (bx, .cells #[.slice (some ⟨gL, 0, none⟩) a.L.length a.L.length, .slice (some ⟨gN, 0, none⟩) a.N.length a.N.length, .slice none 0 0] 25 (0, 0)), (bt, .cells #[a.sL, a.sN, a.sK] 25 (0, 0)), (gL, .cells (cuL).toArray 3 (0, 0)), (gN, .cells (List.map vi (rotTo a.N (fun j => (j + m2) % a.N.length) a.N.length)).toArray 3 (0, 0))] ∧ Slots (none :: none :: none :: some (.pointer (some ⟨b, 0, none⟩)) :: some (.pointer (some ⟨ba, 0, none⟩)) :: some (.pointer (some ⟨bb, 0, none⟩)) :: some (.bool false) :: some (.func (.func 48) #[] #[.pointer (some ⟨ba, 0, none⟩), .pointer (some ⟨b, 0, none⟩)]) :: some (.func (.func 49) #[] #[.pointer (some ⟨bb, 0, none⟩), .pointer (some ⟨b, 0, none⟩)]) :: some (.pointer (some ⟨bx, 0, none⟩)) :: some (.pointer (some ⟨bt, 0, none⟩)) :: none :: none :: none :: o4 (o4 (o16 (o16 (o64 (o64 (o64 (o64 (o64 (o64 [])))))))))) t') fun _ _ _ => False) := by
  have hu25 := Try.underlying25
  have hu22 := Try.underlying22
  have h6 := hf.p
  have c0 := hT.cell 0 rfl (j := 1) rfl
  simp only [XP.sN] at c0
  obtain ⟨x, hx⟩ := Slots.open_ hSl; simp only [fill, Nat.reduceAdd] at hx; subst hx; clear hSl
  show Exec _ _ (Code.seq _ (Code.block _ _)) _ _ _
  refine exec_seq (exec_region_o fun ds => ?_)
  gi_wp2
  refine eq_mk (Keep.refl _) ?_
  show Exec _ _ (Code.block _ _) _ _ _
  clear c0
  refine exec_block ?_
  refine exec_loop (TlNI w a b ba bb m1 m2 bx bt gL gN cuL) a.N.length ⟨0, by omega, rfl, hT, by simp [Slots, Fits, XP.sN]⟩ ?_
  clear hT x
  clear W
  rintro n t W ⟨k, hk, hn, hT, hSl⟩
  have HN := Lib.hid hn
  clear hn
  obtain ⟨x, hx⟩ := Slots.open_ hSl; simp only [fill, Nat.reduceAdd] at hx; subst hx; clear hSl
  show Exec _ _ (Code.seq _ (Code.seq _ _)) _ _ _
  refine exec_seq (exec_region_o fun ds => ?_)
  gi_wp2
  refine eq_mk (Keep.refl _) ?_
  show Exec _ _ (Code.seq (Code.cond _ _ _) _) _ _ _
  refine exec_seq (exec_cond (b := decide (k < a.N.length)) (by first | rfl | (show Value.bool _ = _; congr 1; exact decide_eq_decide.2 (by omega))) (fun hp => exec_skip ?_) (fun hp => exec_exit ?_))
  · have hkl : k < a.N.length := by have := of_decide_eq_true hp; omega
    have hkI : (k : Int) < a.N.length := by omega
    have hg := getDJ a.N hkl
    obtain ⟨ad, hA, ck⟩ := (ha.below hT.below).n k (vi (a.N.getD k 0)) (by rw [List.getElem?_map, hg]; rfl)
    obtain ⟨v, hv⟩ : ∃ v, a.N.getD k 0 = v := ⟨_, rfl⟩
    rw [hv] at ck
    have HV := Lib.hid hv
    clear hv
    show Exec _ _ (Code.seq (Code.block _ _) _) _ _ _
    refine exec_cut (fun t' W => Tr w W W [(b, .cells #[a.sL, a.sN, a.sK] 25 (0, 0)), (ba, .cells #[.int .u8 (m1 : Int)] 5 (0, 0)), (bb, .cells #[.int .u8 (m2 : Int)] 5 (0, 0)), (bx, .cells #[.slice (some ⟨gL, 0, none⟩) a.L.length a.L.length, .slice (some ⟨gN, 0, none⟩) a.N.length a.N.length, .slice none 0 0] 25 (0, 0)), (bt, .cells #[a.sL, a.sN, a.sK] 25 (0, 0)), (gL, .cells (cuL).toArray 3 (0, 0)), (gN, .cells (List.map vi (rotTo a.N (fun j => (j + m2) % a.N.length) (k + 1))).toArray 3 (0, 0))] ∧ Slots (none :: none :: none :: some (.pointer (some ⟨b, 0, none⟩)) :: some (.pointer (some ⟨ba, 0, none⟩)) :: some (.pointer (some ⟨bb, 0, none⟩)) :: some (.bool false) :: some (.func (.func 48) #[] #[.pointer (some ⟨ba, 0, none⟩), .pointer (some ⟨b, 0, none⟩)]) :: some (.func (.func 49) #[] #[.pointer (some ⟨bb, 0, none⟩), .pointer (some ⟨b, 0, none⟩)]) :: some (.pointer (some ⟨bx, 0, none⟩)) :: some (.pointer (some ⟨bt, 0, none⟩)) :: o16 (o16 (o64 (some (a.sN) :: some (iv a.N.length) :: some (iv k) :: o4 (o4 (o64 (o64 (o64 (o64 (o64 [])))))))))) t') (exec_block ?_) ?_
    · have HA := Lib.hid hA
      simp only [XP.sN, hA]
      clear hA hg
      show Exec _ _ (Code.seq _ _) _ _ _
      refine exec_seq (exec_region_o fun ds => ?_)
      gi_wp2
      refine eq_mk (Keep.refl _) ?_
      show Exec _ _ (sub (Try.f12.body.getD .skip) [1, 1, 1, 1, 1, 1, 1, 0, 1, 0, 0, 1, 1, 0, 0, 1]) _ _ _
      refine (tu_r15 (k := k) (v := v) (cuL := cuL) hf ha hm hkl rfl (by rw [rotTo_len]) hT ?_).mono ?_
      · simp [Slots, Fits, XP.sN, HA.out]
      · intro e t' Z hh
        obtain ⟨rfl, hT2, hS2⟩ := only_normal hh
        have hA2 := HA.out
        simp only [XP.sN, hA2] at hT2 hS2
        refine ⟨?_, hS2⟩
        rw [rotTo_succ, HV.out, List.map_set]
        exact hT2
    · clear hT x ck HV
      clear W
      rintro t' Y ⟨hT, hSl⟩
      obtain ⟨x, hx⟩ := Slots.open_ hSl; simp only [fill, Nat.reduceAdd] at hx; subst hx; clear hSl
      have hw : IntKind.i64.wrap ((k : Int) + 1) = ((k + 1 : Nat) : Int) := by rw [IntWalk.i64_in _ (by omega)]; norm_cast
      refine exec_region_o fun ds => ?_
      gi_wp2
      exact eq_mk (Keep.refl _) ⟨n - 1, by rw [HN.out]; omega, k + 1, by omega, by rw [HN.out]; omega, hT, by simp only [Slots, Fits, and_self]; simp⟩
  · have hk2 : k = a.N.length := by have := of_decide_eq_false hp; omega
    subst hk2
    exact ⟨hT, by simp [Slots, Fits]⟩
end Go.Proofs.Ytbdmmikflkpmpaa
end
