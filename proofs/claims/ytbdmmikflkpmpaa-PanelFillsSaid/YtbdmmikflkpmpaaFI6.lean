/- The statement PanelFills, proved for all panels, in whatever order Go evaluates what it leaves open; no condition. -/
import Derived.Test.YtbdmmikflkpmpaaProg
import Derived.Test.YtbdmmikflkpmpaaFI1
import Derived.Test.YtbdmmikflkpmpaaFI5
import Derived.Test.YtbdmmikflkpmpaaFI2
import Derived.Maps.AppendAt
import Derived.WalkKit
import Derived.WalkSpells
import Derived.WalkLawsBesides
import Derived.Outline
import Derived.OwnWalkIn
import Derived.TacticsInMore
import Derived.LoopNIn
import Derived.LoopIn
import Derived.Shelf.RegionOpen
import Derived.Deep.QuietTactic
import Derived.BigQuiet
import Derived.Lib.Hide
import Derived.Test.YtbdmmikflkpmpaaFI4
import Derived.Test.YtbdmmikflkpmpaaFI3
import Derived.Deep.SlicePairs
import Derived.Lib.SmallJoins
import Derived.Carry
import Derived.ChangeArms
import Derived.ChangeOld
import Derived.WideShapes
import Derived.ProofKit
import Derived.OpenShut
import Derived.ShutString
import Derived.Below
import Derived.SizedLaws
import Derived.Test.YtbdmmikflkpmpaaRows
set_option linter.unusedVariables false
set_option linter.unusedSimpArgs false
section
namespace Go.Proofs.Ytbdmmikflkpmpaa
open Go.RowKit Go.TL Go.Shelf Go.Pn
def Sh44 (w : World) (a : XP) (P : Nat) (m : Nat) (t : Array Value) (Y : World) : Prop :=
  ∃ b k : Nat, k ≤ P ∧ m = P - k ∧ BestS a b k ∧ PBx Y w.heap.size a ∧ Below w.heap.size w Y ∧ Slots (none :: some (.pointer (some ⟨w.heap.size, 0, none⟩)) :: none :: none :: some (iv b) :: some (iv k) :: o16 (o16 [])) t
set_option maxRecDepth 100000 in
set_option maxHeartbeats 2000000 in
theorem short44 (a : XP) (w : World) (ha : a.At w) : Calls Try.prog 44 #[a.val] w fun e w' => e = .returned (.tuple #[vi (shortA a).1, vi (shortA a).2]) ∧ Below w.heap.size w w' := by
  have hu25 := Try.underlying25
  have hu85 := Try.underlying85
  have hu22 := Try.underlying22
  obtain ⟨R, hR⟩ : ∃ R, shortA a = R := ⟨_, rfl⟩
  rw [hR]
  have HR := Lib.hid hR
  clear hR
  refine calls_of_exec Try.func44 rfl ?_
  simp only [Try.ntmps44, List.size_toArray, List.length_cons, List.length_nil, Nat.reduceAdd, Nat.reduceSub, Array.replicate_succ, Array.replicate_zero, List.push_toArray, List.append_toArray, List.nil_append, List.cons_append]
  simp only [XP.val]
  refine exec_seq (exec_region_o fun ds => ?_)
  gi_wp2
  refine eq_mk ((Keep.refl w).alloc _) ?_
  show Exec _ _ (Code.seq _ _) _ (w.alloc (.cells #[a.sL, a.sN, a.sK] 25)) _
  have hB := (Below.refl w.heap.size w).alloc (Nat.le_refl _) (.cells #[a.sL, a.sN, a.sK] 25)
  have hX : (w.alloc (.cells #[a.sL, a.sN, a.sK] 25)).heap[w.heap.size]? = some (.cells #[a.sL, a.sN, a.sK] 25 (0, 0)) := World.alloc_heap_new _ _
  generalize w.alloc (.cells #[a.sL, a.sN, a.sK] 25) = X at *
  have haX := ha.below hB
  have c0 := cells_get (cs := [_, _, _]) (k := 0) hX rfl
  have c1 := cells_get (cs := [_, _, _]) (k := 1) hX rfl
  have c2 := cells_get (cs := [_, _, _]) (k := 2) hX rfl
  have hcall := panels22 a X haX
  obtain ⟨q, hq⟩ : ∃ q, a.isP = q := ⟨_, rfl⟩
  rw [hq] at hcall
  have HQ := Lib.hid hq
  have HX := Lib.hid hX
  clear hq hX
  refine exec_seq (exec_seq (exec_region_o fun ds => ?_))
  gi_wp2_with fail
  refine ⟨trivial, rfl, (callsIn_wide.2 hcall).mono ?_⟩
  rintro e Y ⟨rfl, hy⟩
  have haY := haX.below hy
  have hBY := hB.trans (hy.mono hB.size)
  have hXY := (hy.block _ (heap_lt HX.out)).trans HX.out
  clear hcall c0 c1 c2
  have HXY := Lib.hid hXY
  clear hXY
  gi_wp2
  refine eq_mk (Keep.of_below hy) ?_
  show Exec _ _ (Code.cond _ _ _) _ _ _
  cases q with
  | false =>
    refine exec_cond (b := true) rfl (fun _ => ?_) (fun h => by cases h)
    show Exec _ _ (Code.seq _ _) _ _ _
    refine exec_seq (exec_region_o fun ds => ?_)
    gi_wp2
    refine eq_mk (Keep.refl _) ?_
    have hr : R = (0, 1) := by rw [← HR.out]; unfold shortA; rw [HQ.out]; rfl
    exact exec_ret ⟨.inr rfl, fun W' hG => ⟨.tuple #[vi 0, vi 1], by simp [results, Try.f44, go_sem], by rw [hr]; exact ⟨rfl, hBY.trans (hG.below (Nat.le_refl _) hBY.size)⟩⟩⟩
  | true =>
    have hf := a.fine HQ.out
    refine exec_cond (b := false) rfl (fun h => by cases h) (fun _ => exec_skip ?_)
    have hbx : PBx Y w.heap.size a := ⟨HXY.out, haY⟩
    have hr : R = match shortF a.s3 with | some s => (((s : Nat) : Int), 0) | none => (0, 4) := by rw [← HR.out]; unfold shortA; rw [HQ.out]; rfl
    have HRR := Lib.hid hr
    clear hr
    have hp6 := hf.p
    have hP6 : 2 ^ a.N.length ≤ 2 ^ 6 := Nat.pow_le_pow_right (by omega) (by omega)
    have hP1 : 0 < 2 ^ a.N.length := Nat.pow_pos (by omega)
    have hpw := power99 a.N.length (by omega)
    have hB0 := fun h => best_zero (a := a) h
    have hB3 := fun b h1 h2 => best_end (a := a) (b := b) hf h1 h2
    have hB1 := fun b k => @best_new a b k
    have hB2 := fun b k => @best_old a b k hf
    have hlb := fun b k (h : BestS a b k) => h.lt
    obtain ⟨P, hP⟩ : ∃ P, 2 ^ a.N.length = P := ⟨_, rfl⟩
    rw [hP] at hP6 hP1 hpw
    simp only [hP] at hB0 hB3 hB1 hB2 hlb
    clear hP
    have HB0 := Lib.hid hB0
    have HB1 := Lib.hid hB1
    have HB2 := Lib.hid hB2
    have HB3 := Lib.hid hB3
    have HLB := Lib.hid hlb
    have HPW := Lib.hid hpw
    clear hB0 hB1 hB2 hB3 hlb hpw
    have hh := hbx.heap
    simp only [XP.sN] at hh
    have c0 := cells_get (cs := [_, _, _]) (k := 1) hh rfl
    clear hh
    have hcall := HPW.out Y
    have hwp : IntKind.i64.wrap ((P : Int) - 1) = ((P - 1 : Nat) : Int) := by rw [IntWalk.i64_in _ (by omega)]; omega
    show Exec _ _ (Code.seq _ _) _ _ _
    refine exec_seq (exec_region_o fun ds => ?_)
    gi_wp2_with fail
    refine ⟨trivial, rfl, (callsIn_wide.2 hcall).mono ?_⟩
    rintro e Z ⟨rfl, hz⟩
    have hbZ := hbx.keep hz
    have hBZ := hBY.trans (hz.mono hBY.size)
    clear hcall c0 hbx
    gi_wp2
    refine eq_mk (Keep.of_below hz) ?_
    clear hwp
    have c0 := cells_get (cs := [_, _, _]) (k := 0) hbZ.heap rfl
    have c1 := cells_get (cs := [_, _, _]) (k := 1) hbZ.heap rfl
    have c2 := cells_get (cs := [_, _, _]) (k := 2) hbZ.heap rfl
    have hcb := canb a hf Z hbZ.at_
    obtain ⟨q, hq⟩ : ∃ q, canV (toP a.s3) = q := ⟨_, rfl⟩
    rw [hq] at hcb
    have HQ2 := Lib.hid hq
    clear hq
    show Exec _ _ (Code.seq (Code.seq _ _) _) _ _ _
    refine exec_seq (exec_seq (exec_region_o fun ds => ?_))
    gi_wp2_with fail
    refine ⟨trivial, rfl, (callsIn_wide.2 hcb).mono ?_⟩
    rintro e Z2 ⟨rfl, hz2⟩
    have hbZ2 := hbZ.keep hz2
    have hBZ2 := hBZ.trans (hz2.mono hBZ.size)
    clear hcb c0 c1 c2 hbZ
    gi_wp2
    refine eq_mk (Keep.of_below hz2) ?_
    show Exec _ _ (Code.cond _ _ _) _ _ _
    cases q with
    | true =>
      refine exec_cond (b := true) rfl (fun _ => ?_) (fun h => by cases h)
      show Exec _ _ (Code.seq _ _) _ _ _
      refine exec_seq (exec_region_o fun ds => ?_)
      gi_wp2
      refine eq_mk (Keep.refl _) ?_
      have hr : R = (0, 4) := by
        rw [HRR.out]
        cases e : shortF a.s3 with
        | none => rfl
        | some s =>
          have := (short_facts hf e).2
          rw [HQ2.out] at this
          cases this
      exact exec_ret ⟨.inr rfl, fun W' hG => ⟨.tuple #[vi 0, vi 4], by simp [results, Try.f44, go_sem], by rw [hr], hBZ2.trans (hG.below (Nat.le_refl _) hBZ2.size)⟩⟩
    | false =>
    refine exec_cond (b := false) rfl (fun h => by cases h) (fun _ => exec_skip ?_)
    have h0 := HB0.out HQ2.out
    show Exec _ _ (Code.seq (Code.seq _ _) _) _ _ _
    refine exec_seq (exec_seq (exec_region_o fun ds => ?_))
    gi_wp2
    refine eq_mk (Keep.refl _) ?_
    show Exec _ _ (Code.block _ _) _ _ _
    refine exec_block ?_
    refine exec_loop (Sh44 w a P) P ⟨P - 1, 0, by omega, rfl, h0, hbZ2, hBZ2, by simp [Slots, Fits]⟩ ?_
    clear h0 hbZ2 hBZ2 hBZ hBY haY HXY hy hz hz2
    clear Z2 Z Y
    rintro m t Y ⟨b, k, hk, hm, hbe, hbx, hBY, hSl⟩
    have hbP := HLB.out b k hbe
    have HM := Lib.hid hm
    have HBE := Lib.hid hbe
    clear hm hbe
    have hh := hbx.heap
    simp only [XP.sN] at hh
    have c0 := cells_get (cs := [_, _, _]) (k := 1) hh rfl
    clear hh
    have hcall := HPW.out Y
    obtain ⟨x, hx⟩ := Slots.open_ hSl; simp only [fill, Nat.reduceAdd] at hx; subst hx; clear hSl
    show Exec _ _ (Code.seq (Code.seq _ _) (Code.seq _ _)) _ _ _
    refine exec_seq (exec_seq (exec_region_o fun ds => ?_))
    gi_wp2_with fail
    refine ⟨trivial, rfl, (callsIn_wide.2 hcall).mono ?_⟩
    rintro e Z ⟨rfl, hz⟩
    have hbZ := hbx.keep hz
    have hBZ := hBY.trans (hz.mono hBY.size)
    clear hcall c0 hbx
    gi_wp2
    refine eq_mk (Keep.of_below hz) ?_
    show Exec _ _ (Code.cond _ _ _) _ _ _
    refine exec_cond (b := decide (k < P)) (by first | rfl | (show Value.bool _ = _; congr 1; exact decide_eq_decide.2 (by omega))) (fun hp => exec_skip ?_) (fun hp => exec_exit ?_)
    · have hkP := of_decide_eq_true ‹decide (k < P) = true›
      have hw : IntKind.i64.wrap ((k : Int) + 1) = ((k + 1 : Nat) : Int) := by rw [IntWalk.i64_in _ (by omega)]; norm_cast
      have HEND : RowKit.Hid (∀ (b2 : Nat) (Z : World), BestS a b2 (k + 1) → PBx Z w.heap.size a → Below w.heap.size w Z → ∀ t, Slots (none :: some (.pointer (some ⟨w.heap.size, 0, none⟩)) :: none :: none :: some (iv b2) :: some (iv k) :: o16 (o16 [])) t → Exec Try.prog none (sub (Try.f44.body.getD .skip) [1, 1, 1, 1, 0, 1, 0, 0, 1, 1]) t Z (fun e t' W' => e = .normal ∧ ∃ m', m' < m ∧ Sh44 w a P m' t' W')) := Lib.hid (by
        intro b2 Z hb2 hbx2 hBZ t hSl
        have HV2 := Lib.hid hb2
        have HBX := Lib.hid hbx2
        clear hb2 hbx2 hbZ
        obtain ⟨x, hx⟩ := Slots.open_ hSl; simp only [fill, Nat.reduceAdd] at hx; subst hx; clear hSl
        show Exec _ _ (Code.region _ _ _) _ _ _
        refine exec_region_o fun ds => ?_
        gi_wp2
        refine eq_mk (Keep.refl _) ?_
        exact ⟨rfl, m - 1, by have := HM.out; omega, b2, k + 1, by omega, by have := HM.out; omega, HV2.out, HBX.out, hBZ, by simp [Slots, Fits]; try omega⟩)
      have hk1 := size30 k (by omega) Z
      obtain ⟨pk, hpk⟩ : ∃ x, pop k = x := ⟨_, rfl⟩
      obtain ⟨pb, hpb⟩ : ∃ x, pop b = x := ⟨_, rfl⟩
      rw [hpk] at hk1
      have HPK := Lib.hid hpk
      have HPB := Lib.hid hpb
      clear hpk hpb
      show Exec _ _ (Code.seq (Code.block _ _) _) _ _ _
      refine exec_seq (exec_block (exec_seq (exec_region_o fun ds => ?_)))
      gi_wp2_with fail
      refine ⟨trivial, rfl, (callsIn_wide.2 hk1).mono ?_⟩
      rintro e Z2 ⟨rfl, hz2⟩
      have hbZ2 := hbZ.keep hz2
      have hBZ2 := hBZ.trans (hz2.mono hBZ.size)
      have hk2 := size30 b (by omega) Z2
      rw [HPB.out] at hk2
      clear hk1 hbZ
      gi_wp2_with fail
      refine ⟨trivial, rfl, (callsIn_wide.2 hk2).mono ?_⟩
      rintro e Z3 ⟨rfl, hz3⟩
      have hbZ3 := hbZ2.keep hz3
      have hBZ3 := hBZ2.trans (hz3.mono hBZ2.size)
      have hK3 := (Keep.of_below hz2).trans (Keep.of_below hz3)
      clear hk2 hbZ2
      have hOLD := fun h => HB2.out b k HBE.out hkP h
      have hNEW := fun h1 h2 => HB1.out b k HBE.out hkP h1 h2
      rw [HPK.out, HPB.out] at hOLD hNEW
      have HOLD := Lib.hid hOLD
      have HNEW := Lib.hid hNEW
      clear hOLD hNEW
      by_cases hlt : pk < pb
      · have hltI : (pk : Int) < (pb : Int) := by omega
        have c0 := cells_get (cs := [_, _, _]) (k := 0) hbZ3.heap rfl
        have c1 := cells_get (cs := [_, _, _]) (k := 1) hbZ3.heap rfl
        have c2 := cells_get (cs := [_, _, _]) (k := 2) hbZ3.heap rfl
        have hcall := only103 a hf k (by omega) Z3 hbZ3.at_
        gi_wp2_with fail
        refine ⟨trivial, rfl, (callsIn_wide.2 hcall).mono ?_⟩
        rintro e Z4 ⟨⟨A, c⟩, ⟨rfl, hsub⟩, hz4⟩
        have hbZ4 := hbZ3.keep hz4
        have hBZ4 := hBZ3.trans (hz4.mono hBZ3.size)
        have hcb := canb (a.sub A c k) (XP.sub_fine hf A c k) Z4 hsub
        rw [XP.sub_s3] at hcb
        obtain ⟨q, hq⟩ : ∃ q, canV (toP (a.s3.only k)) = q := ⟨_, rfl⟩
        rw [hq] at hcb
        have HQ3 := Lib.hid hq
        clear hq hcall c0 c1 c2 hsub hbZ3
        generalize a.sub A c k = a2 at *
        gi_wp2_with fail
        refine ⟨trivial, rfl, (callsIn_wide.2 hcb).mono ?_⟩
        rintro e Z5 ⟨rfl, hz5⟩
        have hbZ5 := hbZ4.keep hz5
        have hBZ5 := hBZ4.trans (hz5.mono hBZ4.size)
        clear hcb hbZ4
        gi_wp2
        refine eq_mk ((hK3.trans (Keep.of_below hz4)).trans (Keep.of_below hz5)) ?_
        show Exec _ _ (Code.cond _ _ _) _ _ _
        cases q with
        | true =>
          refine exec_cond (b := false) rfl (fun h => by cases h) (fun _ => exec_skip ?_)
          show Exec Try.prog none (sub (Try.f44.body.getD .skip) [1, 1, 1, 1, 0, 1, 0, 0, 1, 1]) _ _ _
          refine (HEND.out b Z5 (HOLD.out fun h => by have := h.2; rw [HQ3.out] at this; cases this) hbZ5 hBZ5 _ (by simp [Slots, Fits])).mono ?_
          rintro e t W ⟨rfl, h⟩
          exact h
        | false =>
          refine exec_cond (b := true) rfl (fun _ => ?_) (fun h => by cases h)
          have HB5 := Lib.hid hbZ5
          clear hbZ5
          show Exec _ _ (Code.region _ _ _) _ _ _
          refine exec_region_o fun ds => ?_
          gi_wp2
          refine eq_mk (Keep.refl _) ?_
          show Exec Try.prog none (sub (Try.f44.body.getD .skip) [1, 1, 1, 1, 0, 1, 0, 0, 1, 1]) _ _ _
          refine (HEND.out k Z5 (HNEW.out hlt HQ3.out) HB5.out hBZ5 _ (by simp [Slots, Fits])).mono ?_
          rintro e t W ⟨rfl, h⟩
          exact h
      · have hltI : ¬ (pk : Int) < (pb : Int) := by omega
        have HB5 := Lib.hid hbZ3
        clear hbZ3
        gi_wp2
        first | refine ⟨trivial, ?_⟩ | refine ⟨fun f h => (by cases h), ?_⟩ | skip
        first | (rename_i hKK; refine hKK _ _ ?_) | (rename_i hKK _; refine hKK _ _ ?_) | (rename_i hKK _ _; refine hKK _ _ ?_) | (rename_i hKK _ _ _; refine hKK _ _ ?_) | skip
        gi_wp2
        first | refine ⟨trivial, ?_⟩ | refine ⟨fun f h => (by cases h), ?_⟩ | skip
        first | (rename_i hKK; refine hKK _ _ ?_) | (rename_i hKK _; refine hKK _ _ ?_) | (rename_i hKK _ _; refine hKK _ _ ?_) | (rename_i hKK _ _ _; refine hKK _ _ ?_) | skip
        try gi_wp2
        refine eq_mk hK3 ?_
        show Exec _ _ (Code.cond _ _ _) _ _ _
        refine exec_cond (b := false) rfl (fun h => by cases h) (fun _ => exec_skip ?_)
        show Exec Try.prog none (sub (Try.f44.body.getD .skip) [1, 1, 1, 1, 0, 1, 0, 0, 1, 1]) _ _ _
        refine (HEND.out b Z3 (HOLD.out fun h => hlt h.1) HB5.out hBZ3 _ (by simp [Slots, Fits])).mono ?_
        rintro e t W ⟨rfl, h⟩
        exact h
    · have hkP : k = P := by have := of_decide_eq_false ‹decide (k < P) = false›; omega
      have hr : R = ((b : Int), 0) := by
        rw [HRR.out, HB3.out b HQ2.out (by rw [← hkP]; exact HBE.out)]
      have HR4 := Lib.hid hr
      clear hr
      show Exec _ _ (Code.seq _ _) _ _ _
      refine exec_seq (exec_region_o fun ds => ?_)
      gi_wp2
      refine eq_mk (Keep.refl _) ?_
      exact exec_ret ⟨.inr rfl, fun W' hG => ⟨.tuple #[iv b, vi 0], by simp [results, Try.f44, go_sem], by rw [HR4.out], hBZ.trans (hG.below (Nat.le_refl _) hBZ.size)⟩⟩
end Go.Proofs.Ytbdmmikflkpmpaa
end

section
namespace Go.Proofs.Ytbdmmikflkpmpaa
open Go.RowKit Go.TL Go.Shelf Go.Pn
structure BestW (a : XP) (b k : Nat) : Prop where
  lt : b < 2 ^ a.K.length
  can : canV (toP (a.s3.waive b)) = true
  min : ∀ t, t < k → canV (toP (a.s3.waive t)) = true → pop b < pop t ∨ (pop b = pop t ∧ b ≤ t)
  old : b < k ∨ b = 2 ^ a.K.length - 1
theorem bestW_zero {a : XP} (h : canV (toP (a.s3.waive (2 ^ a.K.length - 1))) = true) : BestW a (2 ^ a.K.length - 1) 0 := by
  have hp : 0 < 2 ^ a.K.length := Nat.pow_pos (by omega)
  exact ⟨by omega, h, fun t ht => by omega, .inr rfl⟩
theorem bestW_new {a : XP} {b k : Nat} (h : BestW a b k) (hk : k < 2 ^ a.K.length) (hp : pop k < pop b) (hn : canV (toP (a.s3.waive k)) = true) : BestW a k (k + 1) := by
  refine ⟨hk, hn, fun t ht hc => ?_, .inl (by omega)⟩
  by_cases e : t = k
  · exact .inr ⟨by rw [e], by omega⟩
  · rcases h.min t (by omega) hc with h1 | ⟨h1, _⟩
    · exact .inl (by omega)
    · exact .inl (by omega)
theorem bestW_old {a : XP} {b k : Nat} (hf : a.Fine) (h : BestW a b k) (hk : k < 2 ^ a.K.length) (hp : ¬ (pop k < pop b ∧ canV (toP (a.s3.waive k)) = true)) : BestW a b (k + 1) := by
  have hN := hf.k
  have h10 : 2 ^ a.K.length ≤ 2 ^ 10 := Nat.pow_le_pow_right (by omega) (by omega)
  refine ⟨h.lt, h.can, fun t ht hc => ?_, h.old.imp (fun x => by omega) id⟩
  by_cases e : t = k
  · subst e
    have hle : pop b ≤ pop t := by
      rcases Nat.lt_or_ge (pop t) (pop b) with c | c
      · exact absurd ⟨c, hc⟩ hp
      · exact c
    rcases Nat.lt_or_ge (pop b) (pop t) with c | c
    · exact .inl c
    · refine .inr ⟨by omega, ?_⟩
      rcases h.old with h1 | h1
      · omega
      · have hb := pop_eq_bits (s := b) (t := t) (fun i hi hb => by
          have := bit_lt hk hb
          rw [h1, Nat.testBit_two_pow_sub_one, decide_eq_true this]) hle
        have : t = b := Nat.eq_of_testBit_eq fun i => by
          by_cases hi : i < 10
          · exact hb i hi
          · have hbl := h.lt
            rw [Nat.testBit_lt_two_pow (Nat.lt_of_lt_of_le hk (Nat.le_trans h10 (Nat.pow_le_pow_right (by omega) (by omega)))), Nat.testBit_lt_two_pow (Nat.lt_of_lt_of_le hbl (Nat.le_trans h10 (Nat.pow_le_pow_right (by omega) (by omega))))]
        omega
  · exact h.min t (by omega) hc
theorem bestW_end {a : XP} {b : Nat} (hf : a.Fine) (hc : canV (toP (a.s3.waive (2 ^ a.K.length - 1))) = true) (h : BestW a b (2 ^ a.K.length)) : waiveF a.s3 = b := by
  have f := waive_facts hf hc
  have h1 := h.min _ f.lt f.can
  have h2 := f.min b h.lt h.can
  omega
def Wv45 (w : World) (a : XP) (P : Nat) (m : Nat) (t : Array Value) (Y : World) : Prop :=
  ∃ b k : Nat, k ≤ P ∧ m = P - k ∧ BestW a b k ∧ PBx Y w.heap.size a ∧ Below w.heap.size w Y ∧ Slots (none :: some (.pointer (some ⟨w.heap.size, 0, none⟩)) :: none :: none :: some (iv (P - 1)) :: some (iv b) :: some (iv k) :: o16 (o16 [])) t
set_option maxRecDepth 100000 in
set_option maxHeartbeats 2000000 in
theorem waive45 (a : XP) (w : World) (ha : a.At w) : Calls Try.prog 45 #[a.val] w fun e w' => e = .returned (.tuple #[vi (waiveA a).1, vi (waiveA a).2]) ∧ Below w.heap.size w w' := by
  have hu25 := Try.underlying25
  have hu85 := Try.underlying85
  have hu22 := Try.underlying22
  obtain ⟨R, hR⟩ : ∃ R, waiveA a = R := ⟨_, rfl⟩
  rw [hR]
  have HR := Lib.hid hR
  clear hR
  refine calls_of_exec Try.func45 rfl ?_
  simp only [Try.ntmps45, List.size_toArray, List.length_cons, List.length_nil, Nat.reduceAdd, Nat.reduceSub, Array.replicate_succ, Array.replicate_zero, List.push_toArray, List.append_toArray, List.nil_append, List.cons_append]
  simp only [XP.val]
  refine exec_seq (exec_region_o fun ds => ?_)
  gi_wp2
  refine eq_mk ((Keep.refl w).alloc _) ?_
  show Exec _ _ (Code.seq _ _) _ (w.alloc (.cells #[a.sL, a.sN, a.sK] 25)) _
  have hB := (Below.refl w.heap.size w).alloc (Nat.le_refl _) (.cells #[a.sL, a.sN, a.sK] 25)
  have hX : (w.alloc (.cells #[a.sL, a.sN, a.sK] 25)).heap[w.heap.size]? = some (.cells #[a.sL, a.sN, a.sK] 25 (0, 0)) := World.alloc_heap_new _ _
  generalize w.alloc (.cells #[a.sL, a.sN, a.sK] 25) = X at *
  have haX := ha.below hB
  have c0 := cells_get (cs := [_, _, _]) (k := 0) hX rfl
  have c1 := cells_get (cs := [_, _, _]) (k := 1) hX rfl
  have c2 := cells_get (cs := [_, _, _]) (k := 2) hX rfl
  have hcall := panels22 a X haX
  obtain ⟨q, hq⟩ : ∃ q, a.isP = q := ⟨_, rfl⟩
  rw [hq] at hcall
  have HQ := Lib.hid hq
  have HX := Lib.hid hX
  clear hq hX
  refine exec_seq (exec_seq (exec_region_o fun ds => ?_))
  gi_wp2_with fail
  refine ⟨trivial, rfl, (callsIn_wide.2 hcall).mono ?_⟩
  rintro e Y ⟨rfl, hy⟩
  have haY := haX.below hy
  have hBY := hB.trans (hy.mono hB.size)
  have hXY := (hy.block _ (heap_lt HX.out)).trans HX.out
  clear hcall c0 c1 c2
  have HXY := Lib.hid hXY
  clear hXY
  gi_wp2
  refine eq_mk (Keep.of_below hy) ?_
  show Exec _ _ (Code.cond _ _ _) _ _ _
  cases q with
  | false =>
    refine exec_cond (b := true) rfl (fun _ => ?_) (fun h => by cases h)
    show Exec _ _ (Code.seq _ _) _ _ _
    refine exec_seq (exec_region_o fun ds => ?_)
    gi_wp2
    refine eq_mk (Keep.refl _) ?_
    have hr : R = (0, 1) := by rw [← HR.out]; unfold waiveA; rw [HQ.out]; rfl
    exact exec_ret ⟨.inr rfl, fun W' hG => ⟨.tuple #[vi 0, vi 1], by simp [results, Try.f45, go_sem], by rw [hr]; exact ⟨rfl, hBY.trans (hG.below (Nat.le_refl _) hBY.size)⟩⟩⟩
  | true =>
    have hf := a.fine HQ.out
    refine exec_cond (b := false) rfl (fun h => by cases h) (fun _ => exec_skip ?_)
    have hbx : PBx Y w.heap.size a := ⟨HXY.out, haY⟩
    have hr : R = if canV (toP (a.s3.waive (2 ^ a.K.length - 1))) then (((waiveF a.s3 : Nat) : Int), 0) else (0, 4) := by rw [← HR.out]; unfold waiveA; rw [HQ.out]; rfl
    have HRR := Lib.hid hr
    clear hr
    have hp6 := hf.k
    have hP6 : 2 ^ a.K.length ≤ 2 ^ 10 := Nat.pow_le_pow_right (by omega) (by omega)
    have hP1 : 0 < 2 ^ a.K.length := Nat.pow_pos (by omega)
    have hpw := power99 a.K.length (by omega)
    have hB0 := fun h => bestW_zero (a := a) h
    have hB3 := fun b h1 h2 => bestW_end (a := a) (b := b) hf h1 h2
    have hB1 := fun b k => @bestW_new a b k
    have hB2 := fun b k => @bestW_old a b k hf
    have hlb := fun b k (h : BestW a b k) => h.lt
    obtain ⟨P, hP⟩ : ∃ P, 2 ^ a.K.length = P := ⟨_, rfl⟩
    rw [hP] at hP6 hP1 hpw HRR
    simp only [hP] at hB0 hB3 hB1 hB2 hlb
    clear hP
    have HB0 := Lib.hid hB0
    have HB1 := Lib.hid hB1
    have HB2 := Lib.hid hB2
    have HB3 := Lib.hid hB3
    have HLB := Lib.hid hlb
    have HPW := Lib.hid hpw
    clear hB0 hB1 hB2 hB3 hlb hpw
    have hh := hbx.heap
    simp only [XP.sK] at hh
    have c0 := cells_get (cs := [_, _, _]) (k := 2) hh rfl
    clear hh
    have hcall := HPW.out Y
    have hwp : IntKind.i64.wrap ((P : Int) - 1) = ((P - 1 : Nat) : Int) := by rw [IntWalk.i64_in _ (by omega)]; omega
    show Exec _ _ (Code.seq _ _) _ _ _
    refine exec_seq (exec_region_o fun ds => ?_)
    gi_wp2_with fail
    refine ⟨trivial, rfl, (callsIn_wide.2 hcall).mono ?_⟩
    rintro e Z ⟨rfl, hz⟩
    have hbZ := hbx.keep hz
    have hBZ := hBY.trans (hz.mono hBY.size)
    clear hcall c0 hbx
    gi_wp2
    refine eq_mk (Keep.of_below hz) ?_
    clear hwp
    have c0 := cells_get (cs := [_, _, _]) (k := 0) hbZ.heap rfl
    have c1 := cells_get (cs := [_, _, _]) (k := 1) hbZ.heap rfl
    have c2 := cells_get (cs := [_, _, _]) (k := 2) hbZ.heap rfl
    have hcall := waived104 a hf (P - 1) (by omega) Z hbZ.at_
    show Exec _ _ (Code.seq (Code.seq _ _) _) _ _ _
    refine exec_seq (exec_seq (exec_region_o fun ds => ?_))
    gi_wp2_with fail
    refine ⟨trivial, rfl, (callsIn_wide.2 hcall).mono ?_⟩
    rintro e Z1 ⟨A, c, rfl, hsub, hz1⟩
    have hbZ1 := hbZ.keep hz1
    have hBZ1 := hBZ.trans (hz1.mono hBZ.size)
    have hcb := canb (a.waived A c (P - 1)) (XP.waived_fine hf A c (P - 1)) Z1 hsub
    rw [XP.waived_s3] at hcb
    obtain ⟨q, hq⟩ : ∃ q, canV (toP (a.s3.waive (P - 1))) = q := ⟨_, rfl⟩
    rw [hq] at hcb HRR
    have HQ2 := Lib.hid hq
    clear hq hcall c0 c1 c2 hsub hbZ
    generalize a.waived A c (P - 1) = a1 at *
    gi_wp2_with fail
    refine ⟨trivial, rfl, (callsIn_wide.2 hcb).mono ?_⟩
    rintro e Z2 ⟨rfl, hz2⟩
    have hbZ2 := hbZ1.keep hz2
    have hBZ2 := hBZ1.trans (hz2.mono hBZ1.size)
    clear hcb hbZ1
    gi_wp2
    refine eq_mk ((Keep.of_below hz1).trans (Keep.of_below hz2)) ?_
    show Exec _ _ (Code.cond _ _ _) _ _ _
    cases q with
    | false =>
      refine exec_cond (b := true) rfl (fun _ => ?_) (fun h => by cases h)
      show Exec _ _ (Code.seq _ _) _ _ _
      refine exec_seq (exec_region_o fun ds => ?_)
      gi_wp2
      refine eq_mk (Keep.refl _) ?_
      have hr : R = (0, 4) := HRR.out
      exact exec_ret ⟨.inr rfl, fun W' hG => ⟨.tuple #[vi 0, vi 4], by simp [results, Try.f45, go_sem], by rw [hr], hBZ2.trans (hG.below (Nat.le_refl _) hBZ2.size)⟩⟩
    | true =>
    refine exec_cond (b := false) rfl (fun h => by cases h) (fun _ => exec_skip ?_)
    have h0 := HB0.out HQ2.out
    show Exec _ _ (Code.seq _ _) _ _ _
    refine exec_seq (exec_region_o fun ds => ?_)
    gi_wp2
    refine eq_mk (Keep.refl _) ?_
    show Exec _ _ (Code.seq (Code.seq _ _) _) _ _ _
    refine exec_seq (exec_seq (exec_region_o fun ds => ?_))
    gi_wp2
    refine eq_mk (Keep.refl _) ?_
    show Exec _ _ (Code.block _ _) _ _ _
    refine exec_block ?_
    refine exec_loop (Wv45 w a P) P ⟨P - 1, 0, by omega, rfl, h0, hbZ2, hBZ2, by simp [Slots, Fits]⟩ ?_
    clear h0 hbZ2 hBZ2 hBZ hBY haY HXY hy hz hz2 hz1 hBZ1
    clear Z2 Z1 Z Y
    rintro m t Y ⟨b, k, hk, hm, hbe, hbx, hBY, hSl⟩
    have hbP := HLB.out b k hbe
    have HM := Lib.hid hm
    have HBE := Lib.hid hbe
    clear hm hbe
    obtain ⟨x, hx⟩ := Slots.open_ hSl; simp only [fill, Nat.reduceAdd] at hx; subst hx; clear hSl
    show Exec _ _ (Code.seq (Code.seq _ _) (Code.seq _ _)) _ _ _
    refine exec_seq (exec_seq (exec_region_o fun ds => ?_))
    gi_wp2
    refine eq_mk (Keep.refl _) ?_
    show Exec _ _ (Code.cond _ _ _) _ _ _
    refine exec_cond (b := decide (k < P)) (by first | rfl | (show Value.bool _ = _; congr 1; exact decide_eq_decide.2 (by omega))) (fun hp => exec_skip ?_) (fun hp => exec_exit ?_)
    · have hkP := of_decide_eq_true ‹decide (k < P) = true›
      have hw : IntKind.i64.wrap ((k : Int) + 1) = ((k + 1 : Nat) : Int) := by rw [IntWalk.i64_in _ (by omega)]; norm_cast
      have HEND : RowKit.Hid (∀ (b2 : Nat) (Z : World), BestW a b2 (k + 1) → PBx Z w.heap.size a → Below w.heap.size w Z → ∀ t, Slots (none :: some (.pointer (some ⟨w.heap.size, 0, none⟩)) :: none :: none :: some (iv (P - 1)) :: some (iv b2) :: some (iv k) :: o16 (o16 [])) t → Exec Try.prog none (sub (Try.f45.body.getD .skip) [1, 1, 1, 1, 1, 0, 1, 0, 0, 1, 1]) t Z (fun e t' W' => e = .normal ∧ ∃ m', m' < m ∧ Wv45 w a P m' t' W')) := Lib.hid (by
        intro b2 Z hb2 hbx2 hBZ t hSl
        have HV2 := Lib.hid hb2
        have HBX := Lib.hid hbx2
        clear hb2 hbx2 hbx
        obtain ⟨x, hx⟩ := Slots.open_ hSl; simp only [fill, Nat.reduceAdd] at hx; subst hx; clear hSl
        show Exec _ _ (Code.region _ _ _) _ _ _
        refine exec_region_o fun ds => ?_
        gi_wp2
        refine eq_mk (Keep.refl _) ?_
        exact ⟨rfl, m - 1, by have := HM.out; omega, b2, k + 1, by omega, by have := HM.out; omega, HV2.out, HBX.out, hBZ, by simp [Slots, Fits]; try omega⟩)
      have hk1 := size30 k (by omega) Y
      obtain ⟨pk, hpk⟩ : ∃ x, pop k = x := ⟨_, rfl⟩
      obtain ⟨pb, hpb⟩ : ∃ x, pop b = x := ⟨_, rfl⟩
      rw [hpk] at hk1
      have HPK := Lib.hid hpk
      have HPB := Lib.hid hpb
      clear hpk hpb
      show Exec _ _ (Code.seq (Code.block _ _) _) _ _ _
      refine exec_seq (exec_block (exec_seq (exec_region_o fun ds => ?_)))
      gi_wp2_with fail
      refine ⟨trivial, rfl, (callsIn_wide.2 hk1).mono ?_⟩
      rintro e Z2 ⟨rfl, hz2⟩
      have hbZ2 := hbx.keep hz2
      have hBZ2 := hBY.trans (hz2.mono hBY.size)
      have hk2 := size30 b (by omega) Z2
      rw [HPB.out] at hk2
      clear hk1 hbx
      gi_wp2_with fail
      refine ⟨trivial, rfl, (callsIn_wide.2 hk2).mono ?_⟩
      rintro e Z3 ⟨rfl, hz3⟩
      have hbZ3 := hbZ2.keep hz3
      have hBZ3 := hBZ2.trans (hz3.mono hBZ2.size)
      have hK3 := (Keep.of_below hz2).trans (Keep.of_below hz3)
      clear hk2 hbZ2
      have hOLD := fun h => HB2.out b k HBE.out hkP h
      have hNEW := fun h1 h2 => HB1.out b k HBE.out hkP h1 h2
      rw [HPK.out, HPB.out] at hOLD hNEW
      have HOLD := Lib.hid hOLD
      have HNEW := Lib.hid hNEW
      clear hOLD hNEW
      by_cases hlt : pk < pb
      · have hltI : (pk : Int) < (pb : Int) := by omega
        have c0 := cells_get (cs := [_, _, _]) (k := 0) hbZ3.heap rfl
        have c1 := cells_get (cs := [_, _, _]) (k := 1) hbZ3.heap rfl
        have c2 := cells_get (cs := [_, _, _]) (k := 2) hbZ3.heap rfl
        have hcall := waived104 a hf k (by omega) Z3 hbZ3.at_
        gi_wp2_with fail
        refine ⟨trivial, rfl, (callsIn_wide.2 hcall).mono ?_⟩
        rintro e Z4 ⟨A, c, rfl, hsub, hz4⟩
        have hbZ4 := hbZ3.keep hz4
        have hBZ4 := hBZ3.trans (hz4.mono hBZ3.size)
        have hcb := canb (a.waived A c k) (XP.waived_fine hf A c k) Z4 hsub
        rw [XP.waived_s3] at hcb
        obtain ⟨q, hq⟩ : ∃ q, canV (toP (a.s3.waive k)) = q := ⟨_, rfl⟩
        rw [hq] at hcb
        have HQ3 := Lib.hid hq
        clear hq hcall c0 c1 c2 hsub hbZ3
        generalize a.waived A c k = a2 at *
        gi_wp2_with fail
        refine ⟨trivial, rfl, (callsIn_wide.2 hcb).mono ?_⟩
        rintro e Z5 ⟨rfl, hz5⟩
        have hbZ5 := hbZ4.keep hz5
        have hBZ5 := hBZ4.trans (hz5.mono hBZ4.size)
        clear hcb hbZ4
        gi_wp2
        refine eq_mk ((hK3.trans (Keep.of_below hz4)).trans (Keep.of_below hz5)) ?_
        show Exec _ _ (Code.cond _ _ _) _ _ _
        cases q with
        | false =>
          refine exec_cond (b := false) rfl (fun h => by cases h) (fun _ => exec_skip ?_)
          show Exec Try.prog none (sub (Try.f45.body.getD .skip) [1, 1, 1, 1, 1, 0, 1, 0, 0, 1, 1]) _ _ _
          refine (HEND.out b Z5 (HOLD.out fun h => by have := h.2; rw [HQ3.out] at this; cases this) hbZ5 hBZ5 _ (by simp [Slots, Fits])).mono ?_
          rintro e t W ⟨rfl, h⟩
          exact h
        | true =>
          refine exec_cond (b := true) rfl (fun _ => ?_) (fun h => by cases h)
          have HB5 := Lib.hid hbZ5
          clear hbZ5
          show Exec _ _ (Code.region _ _ _) _ _ _
          refine exec_region_o fun ds => ?_
          gi_wp2
          refine eq_mk (Keep.refl _) ?_
          show Exec Try.prog none (sub (Try.f45.body.getD .skip) [1, 1, 1, 1, 1, 0, 1, 0, 0, 1, 1]) _ _ _
          refine (HEND.out k Z5 (HNEW.out hlt HQ3.out) HB5.out hBZ5 _ (by simp [Slots, Fits])).mono ?_
          rintro e t W ⟨rfl, h⟩
          exact h
      · have hltI : ¬ (pk : Int) < (pb : Int) := by omega
        have HB5 := Lib.hid hbZ3
        clear hbZ3
        gi_wp2
        first | refine ⟨trivial, ?_⟩ | refine ⟨fun f h => (by cases h), ?_⟩ | skip
        first | (rename_i hKK; refine hKK _ _ ?_) | (rename_i hKK _; refine hKK _ _ ?_) | (rename_i hKK _ _; refine hKK _ _ ?_) | (rename_i hKK _ _ _; refine hKK _ _ ?_) | skip
        gi_wp2
        first | refine ⟨trivial, ?_⟩ | refine ⟨fun f h => (by cases h), ?_⟩ | skip
        first | (rename_i hKK; refine hKK _ _ ?_) | (rename_i hKK _; refine hKK _ _ ?_) | (rename_i hKK _ _; refine hKK _ _ ?_) | (rename_i hKK _ _ _; refine hKK _ _ ?_) | skip
        try gi_wp2
        refine eq_mk hK3 ?_
        show Exec _ _ (Code.cond _ _ _) _ _ _
        refine exec_cond (b := false) rfl (fun h => by cases h) (fun _ => exec_skip ?_)
        show Exec Try.prog none (sub (Try.f45.body.getD .skip) [1, 1, 1, 1, 1, 0, 1, 0, 0, 1, 1]) _ _ _
        refine (HEND.out b Z3 (HOLD.out fun h => hlt h.1) HB5.out hBZ3 _ (by simp [Slots, Fits])).mono ?_
        rintro e t W ⟨rfl, h⟩
        exact h
    · have hkP : k = P := by have := of_decide_eq_false ‹decide (k < P) = false›; omega
      have hr : R = ((b : Int), 0) := by
        have hr0 : R = (((waiveF a.s3 : Nat) : Int), 0) := HRR.out
        rw [hr0, HB3.out b HQ2.out (by rw [← hkP]; exact HBE.out)]
      have HR4 := Lib.hid hr
      clear hr
      show Exec _ _ (Code.seq _ _) _ _ _
      refine exec_seq (exec_region_o fun ds => ?_)
      gi_wp2
      refine eq_mk (Keep.refl _) ?_
      exact exec_ret ⟨.inr rfl, fun W' hG => ⟨.tuple #[iv b, vi 0], by simp [results, Try.f45, go_sem], by rw [HR4.out], hBY.trans (hG.below (Nat.le_refl _) hBY.size)⟩⟩
end Go.Proofs.Ytbdmmikflkpmpaa
end

section
namespace Go.Proofs.Ytbdmmikflkpmpaa
open Go.RowKit Go.TL Go.Shelf Go.Pn
theorem mkS_add (f : Nat → Bool) (n : Nat) : mkS f (n + 1) = mkS f n + if f n = true then 2 ^ n else 0 := by
  have hl := mkS_lt f n
  show (if f n = true then setB (mkS f n) n else mkS f n) = _
  split
  · unfold setB
    have := Nat.two_pow_add_eq_or_of_lt hl 1
    rw [Nat.mul_one] at this
    rw [Nat.or_comm, ← this, Nat.add_comm]
  · rfl
def spF (a : XP) (j : Nat) : Bool := canV (toP (a.s3.loaded j 0))
def Sp40 (w : World) (a : XP) (m : Nat) (t : Array Value) (Y : World) : Prop :=
  ∃ k : Nat, k ≤ a.L.length ∧ m = a.L.length - k ∧ PBx Y w.heap.size a ∧ Below w.heap.size w Y ∧ Slots (none :: some (.pointer (some ⟨w.heap.size, 0, none⟩)) :: none :: none :: some (iv (mkS (spF a) k)) :: some (iv k) :: none :: none :: o4 (o16 [])) t
set_option maxRecDepth 100000 in
set_option maxHeartbeats 2000000 in
theorem spare40 (a : XP) (w : World) (ha : a.At w) : Calls Try.prog 40 #[a.val] w fun e w' => e = .returned (.tuple #[vi (spareA a).1, vi (spareA a).2]) ∧ Below w.heap.size w w' := by
  have hu25 := Try.underlying25
  have hu85 := Try.underlying85
  have hu22 := Try.underlying22
  obtain ⟨R, hR⟩ : ∃ R, spareA a = R := ⟨_, rfl⟩
  rw [hR]
  have HR := Lib.hid hR
  clear hR
  refine calls_of_exec Try.func40 rfl ?_
  simp only [Try.ntmps40, List.size_toArray, List.length_cons, List.length_nil, Nat.reduceAdd, Nat.reduceSub, Array.replicate_succ, Array.replicate_zero, List.push_toArray, List.append_toArray, List.nil_append, List.cons_append]
  simp only [XP.val]
  refine exec_seq (exec_region_o fun ds => ?_)
  gi_wp2
  refine eq_mk ((Keep.refl w).alloc _) ?_
  show Exec _ _ (Code.seq _ _) _ (w.alloc (.cells #[a.sL, a.sN, a.sK] 25)) _
  have hB := (Below.refl w.heap.size w).alloc (Nat.le_refl _) (.cells #[a.sL, a.sN, a.sK] 25)
  have hX : (w.alloc (.cells #[a.sL, a.sN, a.sK] 25)).heap[w.heap.size]? = some (.cells #[a.sL, a.sN, a.sK] 25 (0, 0)) := World.alloc_heap_new _ _
  generalize w.alloc (.cells #[a.sL, a.sN, a.sK] 25) = X at *
  have haX := ha.below hB
  have c0 := cells_get (cs := [_, _, _]) (k := 0) hX rfl
  have c1 := cells_get (cs := [_, _, _]) (k := 1) hX rfl
  have c2 := cells_get (cs := [_, _, _]) (k := 2) hX rfl
  have hcall := panels22 a X haX
  obtain ⟨q, hq⟩ : ∃ q, a.isP = q := ⟨_, rfl⟩
  rw [hq] at hcall
  have HQ := Lib.hid hq
  have HX := Lib.hid hX
  clear hq hX
  refine exec_seq (exec_seq (exec_region_o fun ds => ?_))
  gi_wp2_with fail
  refine ⟨trivial, rfl, (callsIn_wide.2 hcall).mono ?_⟩
  rintro e Y ⟨rfl, hy⟩
  have haY := haX.below hy
  have hBY := hB.trans (hy.mono hB.size)
  have hXY := (hy.block _ (heap_lt HX.out)).trans HX.out
  clear hcall c0 c1 c2
  have HXY := Lib.hid hXY
  clear hXY
  gi_wp2
  refine eq_mk (Keep.of_below hy) ?_
  show Exec _ _ (Code.cond _ _ _) _ _ _
  cases q with
  | false =>
    refine exec_cond (b := true) rfl (fun _ => ?_) (fun h => by cases h)
    show Exec _ _ (Code.seq _ _) _ _ _
    refine exec_seq (exec_region_o fun ds => ?_)
    gi_wp2
    refine eq_mk (Keep.refl _) ?_
    have hr : R = (0, 1) := by rw [← HR.out]; unfold spareA; rw [HQ.out]; rfl
    exact exec_ret ⟨.inr rfl, fun W' hG => ⟨.tuple #[vi 0, vi 1], by simp [results, Try.f40, go_sem], by rw [hr]; exact ⟨rfl, hBY.trans (hG.below (Nat.le_refl _) hBY.size)⟩⟩⟩
  | true =>
    have hf := a.fine HQ.out
    refine exec_cond (b := false) rfl (fun h => by cases h) (fun _ => exec_skip ?_)
    have hbx : PBx Y w.heap.size a := ⟨HXY.out, haY⟩
    have hr : R = if canV (toP a.s3) then (((mkS (spF a) a.L.length : Nat) : Int), 0) else (0, 4) := by rw [← HR.out]; unfold spareA; rw [HQ.out]; rfl
    have HRR := Lib.hid hr
    clear hr
    have c0 := cells_get (cs := [_, _, _]) (k := 0) hbx.heap rfl
    have c1 := cells_get (cs := [_, _, _]) (k := 1) hbx.heap rfl
    have c2 := cells_get (cs := [_, _, _]) (k := 2) hbx.heap rfl
    have hcb := canb a hf Y hbx.at_
    obtain ⟨q, hq⟩ : ∃ q, canV (toP a.s3) = q := ⟨_, rfl⟩
    rw [hq] at hcb
    have HQ2 := Lib.hid hq
    clear hq
    show Exec _ _ (Code.seq (Code.seq _ _) _) _ _ _
    refine exec_seq (exec_seq (exec_region_o fun ds => ?_))
    gi_wp2_with fail
    refine ⟨trivial, rfl, (callsIn_wide.2 hcb).mono ?_⟩
    rintro e Z ⟨rfl, hz⟩
    have hbZ := hbx.keep hz
    have hBZ := hBY.trans (hz.mono hBY.size)
    clear hcb c0 c1 c2 hbx
    gi_wp2
    refine eq_mk (Keep.of_below hz) ?_
    show Exec _ _ (Code.cond _ _ _) _ _ _
    cases q with
    | false =>
      refine exec_cond (b := true) rfl (fun _ => ?_) (fun h => by cases h)
      show Exec _ _ (Code.seq _ _) _ _ _
      refine exec_seq (exec_region_o fun ds => ?_)
      gi_wp2
      refine eq_mk (Keep.refl _) ?_
      have hr : R = (0, 4) := by rw [HRR.out, HQ2.out]; rfl
      exact exec_ret ⟨.inr rfl, fun W' hG => ⟨.tuple #[vi 0, vi 4], by simp [results, Try.f40, go_sem], by rw [hr], hBZ.trans (hG.below (Nat.le_refl _) hBZ.size)⟩⟩
    | true =>
    refine exec_cond (b := false) rfl (fun h => by cases h) (fun _ => exec_skip ?_)
    show Exec _ _ (Code.seq _ _) _ _ _
    refine exec_seq (exec_region_o fun ds => ?_)
    gi_wp2
    refine eq_mk (Keep.refl _) ?_
    show Exec _ _ (Code.seq (Code.seq _ _) _) _ _ _
    refine exec_seq (exec_seq (exec_region_o fun ds => ?_))
    gi_wp2
    refine eq_mk (Keep.refl _) ?_
    show Exec _ _ (Code.block _ _) _ _ _
    refine exec_block ?_
    refine exec_loop (Sp40 w a) a.L.length ⟨0, by omega, rfl, hbZ, hBZ, by simp [Slots, Fits, mkS]⟩ ?_
    clear hbZ hBZ haY HXY hy hz
    clear Z
    rintro m t Y ⟨k, hk, hm, hbx, hBY, hSl⟩
    have HM := Lib.hid hm
    have hlt := mkS_lt (spF a) k
    have hadd := mkS_add (spF a) k
    have hj6 := hf.j
    have hp10 : 2 ^ k ≤ 2 ^ 10 := Nat.pow_le_pow_right (by omega) (by omega)
    have hend : k = a.L.length → mkS (spF a) k = mkS (spF a) a.L.length := fun e => by rw [e]
    obtain ⟨v, hv⟩ : ∃ v, mkS (spF a) k = v := ⟨_, rfl⟩
    rw [hv] at hSl hlt hadd hend
    have hpw := power99 k (by omega)
    generalize 2 ^ k = P at *
    have HADD := Lib.hid hadd
    have HE := Lib.hid hend
    have HPW := Lib.hid hpw
    clear hm hv hadd hend hpw
    have hh := hbx.heap
    simp only [XP.sL] at hh
    have c0 := cells_get (cs := [_, _, _]) (k := 0) hh rfl
    clear hh
    obtain ⟨x, hx⟩ := Slots.open_ hSl; simp only [fill, Nat.reduceAdd] at hx; subst hx; clear hSl
    show Exec _ _ (Code.seq (Code.seq _ _) (Code.seq _ _)) _ _ _
    refine exec_seq (exec_seq (exec_region_o fun ds => ?_))
    gi_wp2
    refine eq_mk (Keep.refl _) ?_
    clear c0
    show Exec _ _ (Code.cond _ _ _) _ _ _
    refine exec_cond (b := decide (k < a.L.length)) (by first | rfl | (show Value.bool _ = _; congr 1; exact decide_eq_decide.2 (by omega))) (fun hp => exec_skip ?_) (fun hp => exec_exit ?_)
    · have hkl := of_decide_eq_true ‹decide (k < a.L.length) = true›
      have c0 := cells_get (cs := [_, _, _]) (k := 0) hbx.heap rfl
      have c1 := cells_get (cs := [_, _, _]) (k := 1) hbx.heap rfl
      have c2 := cells_get (cs := [_, _, _]) (k := 2) hbx.heap rfl
      have hcall : Calls Try.prog 98 #[a.val, vi 6, vi (k : Int)] Y fun e W' => ∃ q : Option Addr × Nat, (e = .returned (a.cut q.1 q.2 6 (k : Int)).val ∧ (a.cut q.1 q.2 6 (k : Int)).At W') ∧ Below Y.heap.size Y W' := bounded98 a hf 6 (by omega) (k : Int) Y hbx.at_
      show Exec _ _ (Code.seq (Code.block _ _) _) _ _ _
      refine exec_seq (exec_block (exec_seq (exec_region_o fun ds => ?_)))
      gi_wp2_with fail
      refine ⟨trivial, rfl, (callsIn_wide.2 hcall).mono ?_⟩
      rintro e Z ⟨⟨A, c⟩, ⟨rfl, hcut⟩, hz⟩
      have hbZ := hbx.keep hz
      have hBZ := hBY.trans (hz.mono hBY.size)
      have hcb := canb (a.cut A c 6 (k : Int)) (XP.cut_fine hf A c 6 (k : Int)) Z hcut
      rw [XP.cut_s3, lbL_spare hf hkl] at hcb
      obtain ⟨q, hq⟩ : ∃ q, spF a k = q := ⟨_, rfl⟩
      replace hcb : Calls Try.prog 97 #[(a.cut A c 6 (k : Int)).val] Z fun e w' => e = .returned (.bool q) ∧ Below Z.heap.size Z w' := by rw [← hq]; exact hcb
      have HQ3 := Lib.hid hq
      clear hq hcall c0 c1 c2 hcut
      generalize a.cut A c 6 (k : Int) = b at *
      gi_wp2_with fail
      refine ⟨trivial, rfl, (callsIn_wide.2 hcb).mono ?_⟩
      rintro e Z2 ⟨rfl, hz2⟩
      have hbZ2 := hbZ.keep hz2
      have hBZ2 := hBZ.trans (hz2.mono hBZ.size)
      clear hcb
      have hw : IntKind.i64.wrap ((k : Int) + 1) = ((k + 1 : Nat) : Int) := by rw [IntWalk.i64_in _ (by omega)]; norm_cast
      have HEND : RowKit.Hid (∀ (v2 : Nat) (Z : World), v2 = mkS (spF a) (k + 1) → PBx Z w.heap.size a → Below w.heap.size w Z → ∀ t, Slots (none :: some (.pointer (some ⟨w.heap.size, 0, none⟩)) :: none :: none :: some (iv v2) :: some (iv k) :: none :: none :: o4 (o16 [])) t → Exec Try.prog none (sub (Try.f40.body.getD .skip) [1, 1, 1, 1, 0, 1, 0, 0, 1, 1]) t Z (fun e t' W' => e = .normal ∧ ∃ m', m' < m ∧ Sp40 w a m' t' W')) := Lib.hid (by
        intro v2 Z hv2 hbZ hBZ t hSl
        have HV2 := Lib.hid hv2
        have HBX := Lib.hid hbZ
        clear hv2 hbZ hbx
        obtain ⟨x, hx⟩ := Slots.open_ hSl; simp only [fill, Nat.reduceAdd] at hx; subst hx; clear hSl
        show Exec _ _ (Code.region _ _ _) _ _ _
        refine exec_region_o fun ds => ?_
        gi_wp2
        refine eq_mk (Keep.refl _) ?_
        exact ⟨rfl, m - 1, by have := HM.out; omega, k + 1, by omega, by have := HM.out; omega, HBX.out, hBZ, by rw [← HV2.out]; simp [Slots, Fits]; try omega⟩)
      gi_wp2
      refine eq_mk ((Keep.of_below hz).trans (Keep.of_below hz2)) ?_
      show Exec _ _ (Code.cond _ _ _) _ _ _
      cases q with
      | false =>
        refine exec_cond (b := false) rfl (fun h => by cases h) (fun _ => exec_skip ?_)
        show Exec Try.prog none (sub (Try.f40.body.getD .skip) [1, 1, 1, 1, 0, 1, 0, 0, 1, 1]) _ _ _
        refine (HEND.out v Z2 (by rw [HADD.out, HQ3.out]; rfl) hbZ2 hBZ2 _ (by simp [Slots, Fits])).mono ?_
        rintro e t W ⟨rfl, h⟩
        exact h
      | true =>
        have hwv : IntKind.i64.wrap ((v : Int) + (P : Int)) = ((v + P : Nat) : Int) := by rw [IntWalk.i64_in _ (by omega)]; norm_cast
        refine exec_cond (b := true) rfl (fun _ => ?_) (fun h => by cases h)
        have hcall := HPW.out Z2
        show Exec _ _ (Code.region _ _ _) _ _ _
        refine exec_region_o fun ds => ?_
        gi_wp2_with fail
        refine ⟨trivial, rfl, (callsIn_wide.2 hcall).mono ?_⟩
        rintro e Z3 ⟨rfl, hz3⟩
        have hbZ3 := hbZ2.keep hz3
        have hBZ3 := hBZ2.trans (hz3.mono hBZ2.size)
        clear hcall
        gi_wp2
        refine eq_mk (Keep.of_below hz3) ?_
        show Exec Try.prog none (sub (Try.f40.body.getD .skip) [1, 1, 1, 1, 0, 1, 0, 0, 1, 1]) _ _ _
        refine (HEND.out (v + P) Z3 (by rw [HADD.out, HQ3.out]; rfl) hbZ3 hBZ3 _ (by simp [Slots, Fits])).mono ?_
        rintro e t W ⟨rfl, h⟩
        exact h
    · have hkl : k = a.L.length := by have := of_decide_eq_false ‹decide (k < a.L.length) = false›; omega
      have hr : R = ((v : Int), 0) := by rw [HRR.out, HQ2.out, if_pos rfl, HE.out hkl]
      have HR4 := Lib.hid hr
      clear hr
      show Exec _ _ (Code.seq _ _) _ _ _
      refine exec_seq (exec_region_o fun ds => ?_)
      gi_wp2
      refine eq_mk (Keep.refl _) ?_
      exact exec_ret ⟨.inr rfl, fun W' hG => ⟨.tuple #[iv v, vi 0], by simp [results, Try.f40, go_sem], by rw [HR4.out], hBY.trans (hG.below (Nat.le_refl _) hBY.size)⟩⟩
end Go.Proofs.Ytbdmmikflkpmpaa
end

section
namespace Go.Proofs.Ytbdmmikflkpmpaa
open Go.RowKit Go.TL Go.Shelf Go.Pn
set_option maxRecDepth 100000 in
set_option maxHeartbeats 2000000 in
theorem fills_law (a : XP) (w : World) (h : a.Row w ∧ a.N.length ≤ a.cN) : Calls Try.prog 9 #[a.val] w fun e w' => e = .returned (.bool true) ∧ Below w.heap.size w w' := by
  have hu25 := Try.underlying25
  have hu22 := Try.underlying22
  obtain ⟨h, hcN⟩ := h
  have HCN := Lib.hid hcN
  clear hcN
  refine calls_of_exec Try.func9 rfl ?_
  simp only [Try.ntmps9, List.size_toArray, List.length_cons, List.length_nil, Nat.reduceAdd, Nat.reduceSub, Array.replicate_succ, Array.replicate_zero, List.push_toArray, List.append_toArray, List.nil_append, List.cons_append]
  simp only [XP.val]
  refine exec_seq (exec_region_o fun ds => ?_)
  gi_wp2
  refine eq_mk ((Keep.refl w).alloc _) ?_
  show Exec _ _ (Code.seq _ _) _ (w.alloc (.cells #[a.sL, a.sN, a.sK] 25)) _
  have hB := (Below.refl w.heap.size w).alloc (Nat.le_refl _) (.cells #[a.sL, a.sN, a.sK] 25)
  have hh : (w.alloc (.cells #[a.sL, a.sN, a.sK] 25)).heap[w.heap.size]? = some (.cells #[a.sL, a.sN, a.sK] 25 (0, 0)) := World.alloc_heap_new _ _
  have hR := h.below hB
  generalize w.alloc (.cells #[a.sL, a.sN, a.sK] 25) = W0 at *
  have c0 := cells_get (cs := [_, _, _]) (k := 0) hh rfl
  have c1 := cells_get (cs := [_, _, _]) (k := 1) hh rfl
  have c2 := cells_get (cs := [_, _, _]) (k := 2) hh rfl
  obtain ⟨hv, hhv⟩ : ∃ b, heavyB a 4 4 6 = b := ⟨_, rfl⟩
  have hvy : Calls Try.prog 13 #[.agg #[a.sL, a.sN, a.sK], .int .i64 4, .int .i64 4, .int .i64 6] W0 fun e w' => e = .returned (.bool (heavyB a 4 4 6)) ∧ Below W0.heap.size W0 w' := heavy13 a 4 4 6 W0 hR
  rw [hhv] at hvy
  refine exec_seq (exec_seq (exec_region_o fun ds => ?_))
  gi_wp2_with fail
  refine ⟨trivial, rfl, (callsIn_wide.2 hvy).mono ?_⟩
  rintro e X0 ⟨rfl, hx⟩
  have hhX := (hx.block _ (heap_lt hh)).trans hh
  have hRX := hR.below hx
  have hBX := hB.trans (hx.mono hB.size)
  have hK := Keep.of_below hx
  clear hx hvy c0 c1 c2 hh hR hB h
  gi_wp2
  refine eq_mk hK ?_
  show Exec _ _ (Code.cond _ _ _) _ _ _
  clear hK
  clear W0
  cases hv with
  | true =>
    refine exec_cond (b := true) rfl (fun _ => ?_) (fun h => by cases h)
    refine exec_seq (exec_region_o fun ds => ?_)
    gi_wp2_with fail
    refine ⟨trivial, rfl, (callsIn_wide.2 (alive14 X0)).mono ?_⟩
    rintro e Y ⟨rfl, hy⟩
    have hBY := hBX.trans (hy.mono hBX.size)
    gi_wp2
    refine eq_mk (Keep.of_below hy) ?_
    show Exec _ _ _ _ _ _
    exact exec_ret ⟨.inr rfl, fun W' hG => ⟨.bool true, by simp [results, Try.f9, go_sem], rfl, hBY.trans (hG.below (Nat.le_refl _) hBY.size)⟩⟩
  | false =>
  refine exec_cond (b := false) rfl (fun h => by cases h) (fun _ => exec_skip ?_)
  have hsm : a.small = true := by
    cases hs : a.small with
    | true => rfl
    | false => rw [heavyB, hs] at hhv; cases hhv
  have h3 : (a.L.length ≤ 40 ∧ a.N.length ≤ 40) ∧ a.K.length ≤ 40 := by simpa [XP.small] using hsm
  have hX0 : PBx X0 w.heap.size a := ⟨hhX, hRX.at_ h3.1.1 h3.1.2 h3.2⟩
  clear hhv hsm h3 hhX hRX
  have hc1 := fun W (hX : PBx W w.heap.size a) => Spare_any a W hX.at_
  have hc2 := fun W (hX : PBx W w.heap.size a) => spare40 a W hX.at_
  have hc3 := fun W (hX : PBx W w.heap.size a) => Busy_any a W hX.at_
  have hc4 := fun W (hX : PBx W w.heap.size a) => busy42 a W hX.at_
  have hc5 := fun W (hX : PBx W w.heap.size a) => Seats_any a W hX.at_
  have hc6 := fun W (hX : PBx W w.heap.size a) => seats43 a HCN.out W hX.at_
  have hc7 := fun W (hX : PBx W w.heap.size a) => Short_any a W hX.at_
  have hc8 := fun W (hX : PBx W w.heap.size a) => short44 a W hX.at_
  have hc9 := fun W (hX : PBx W w.heap.size a) => Waive_any a W hX.at_
  have hc10 := fun W (hX : PBx W w.heap.size a) => waive45 a W hX.at_
  generalize spareA a = speA at *
  obtain ⟨speA1, speA2⟩ := speA
  generalize busyA a = buyA at *
  obtain ⟨buyA1, buyA2⟩ := buyA
  generalize seatsA a = sesA at *
  obtain ⟨sesA1, sesA2⟩ := sesA
  generalize shortA a = shtA at *
  obtain ⟨shtA1, shtA2⟩ := shtA
  generalize waiveA a = waeA at *
  obtain ⟨waeA1, waeA2⟩ := waeA
  simp only [] at *
  have HC1 := Lib.hid hc1
  have HC2 := Lib.hid hc2
  have HC3 := Lib.hid hc3
  have HC4 := Lib.hid hc4
  have HC5 := Lib.hid hc5
  have HC6 := Lib.hid hc6
  have HC7 := Lib.hid hc7
  have HC8 := Lib.hid hc8
  have HC9 := Lib.hid hc9
  have HC10 := Lib.hid hc10
  clear hc1 hc2 hc3 hc4 hc5 hc6 hc7 hc8 hc9 hc10
  show Exec _ _ (Code.seq _ _) _ _ _
  have c0 := cells_get (cs := [_, _, _]) (k := 0) hX0.heap rfl
  have c1 := cells_get (cs := [_, _, _]) (k := 1) hX0.heap rfl
  have c2 := cells_get (cs := [_, _, _]) (k := 2) hX0.heap rfl
  have hcall := HC1.out X0 hX0
  refine exec_seq (exec_region_o fun ds => ?_)
  gi_wp2_with fail
  refine ⟨trivial, rfl, (callsIn_wide.2 hcall).mono ?_⟩
  rintro e X1 ⟨rfl, hx⟩
  have hX1 := hX0.keep hx
  replace hBX := hBX.trans (hx.mono hBX.size)
  clear hcall c0 c1 c2
  gi_wp2
  refine eq_mk (Keep.of_below hx) ?_
  clear hx hX0
  clear X0
  show Exec _ _ (Code.seq _ _) _ _ _
  have c0 := cells_get (cs := [_, _, _]) (k := 0) hX1.heap rfl
  have c1 := cells_get (cs := [_, _, _]) (k := 1) hX1.heap rfl
  have c2 := cells_get (cs := [_, _, _]) (k := 2) hX1.heap rfl
  have hcall := HC2.out X1 hX1
  refine exec_seq (exec_region_o fun ds => ?_)
  gi_wp2_with fail
  refine ⟨trivial, rfl, (callsIn_wide.2 hcall).mono ?_⟩
  rintro e X2 ⟨rfl, hx⟩
  have hX2 := hX1.keep hx
  replace hBX := hBX.trans (hx.mono hBX.size)
  clear hcall c0 c1 c2
  gi_wp2
  refine eq_mk (Keep.of_below hx) ?_
  clear hx hX1
  clear X1
  show Exec _ _ (Code.seq _ _) _ _ _
  have c0 := cells_get (cs := [_, _, _]) (k := 0) hX2.heap rfl
  have c1 := cells_get (cs := [_, _, _]) (k := 1) hX2.heap rfl
  have c2 := cells_get (cs := [_, _, _]) (k := 2) hX2.heap rfl
  have hcall := HC3.out X2 hX2
  refine exec_seq (exec_region_o fun ds => ?_)
  gi_wp2_with fail
  refine ⟨trivial, rfl, (callsIn_wide.2 hcall).mono ?_⟩
  rintro e X3 ⟨rfl, hx⟩
  have hX3 := hX2.keep hx
  replace hBX := hBX.trans (hx.mono hBX.size)
  clear hcall c0 c1 c2
  gi_wp2
  refine eq_mk (Keep.of_below hx) ?_
  clear hx hX2
  clear X2
  show Exec _ _ (Code.seq _ _) _ _ _
  have c0 := cells_get (cs := [_, _, _]) (k := 0) hX3.heap rfl
  have c1 := cells_get (cs := [_, _, _]) (k := 1) hX3.heap rfl
  have c2 := cells_get (cs := [_, _, _]) (k := 2) hX3.heap rfl
  have hcall := HC4.out X3 hX3
  refine exec_seq (exec_region_o fun ds => ?_)
  gi_wp2_with fail
  refine ⟨trivial, rfl, (callsIn_wide.2 hcall).mono ?_⟩
  rintro e X4 ⟨rfl, hx⟩
  have hX4 := hX3.keep hx
  replace hBX := hBX.trans (hx.mono hBX.size)
  clear hcall c0 c1 c2
  gi_wp2
  refine eq_mk (Keep.of_below hx) ?_
  clear hx hX3
  clear X3
  show Exec _ _ (Code.seq _ _) _ _ _
  have c0 := cells_get (cs := [_, _, _]) (k := 0) hX4.heap rfl
  have c1 := cells_get (cs := [_, _, _]) (k := 1) hX4.heap rfl
  have c2 := cells_get (cs := [_, _, _]) (k := 2) hX4.heap rfl
  have hcall := HC5.out X4 hX4
  refine exec_seq (exec_region_o fun ds => ?_)
  gi_wp2_with fail
  refine ⟨trivial, rfl, (callsIn_wide.2 hcall).mono ?_⟩
  rintro e X5 ⟨rfl, hx⟩
  have hX5 := hX4.keep hx
  replace hBX := hBX.trans (hx.mono hBX.size)
  clear hcall c0 c1 c2
  gi_wp2
  refine eq_mk (Keep.of_below hx) ?_
  clear hx hX4
  clear X4
  show Exec _ _ (Code.seq _ _) _ _ _
  have c0 := cells_get (cs := [_, _, _]) (k := 0) hX5.heap rfl
  have c1 := cells_get (cs := [_, _, _]) (k := 1) hX5.heap rfl
  have c2 := cells_get (cs := [_, _, _]) (k := 2) hX5.heap rfl
  have hcall := HC6.out X5 hX5
  refine exec_seq (exec_region_o fun ds => ?_)
  gi_wp2_with fail
  refine ⟨trivial, rfl, (callsIn_wide.2 hcall).mono ?_⟩
  rintro e X6 ⟨rfl, hx⟩
  have hX6 := hX5.keep hx
  replace hBX := hBX.trans (hx.mono hBX.size)
  clear hcall c0 c1 c2
  gi_wp2
  refine eq_mk (Keep.of_below hx) ?_
  clear hx hX5
  clear X5
  show Exec _ _ (Code.seq _ _) _ _ _
  have c0 := cells_get (cs := [_, _, _]) (k := 0) hX6.heap rfl
  have c1 := cells_get (cs := [_, _, _]) (k := 1) hX6.heap rfl
  have c2 := cells_get (cs := [_, _, _]) (k := 2) hX6.heap rfl
  have hcall := HC7.out X6 hX6
  refine exec_seq (exec_region_o fun ds => ?_)
  gi_wp2_with fail
  refine ⟨trivial, rfl, (callsIn_wide.2 hcall).mono ?_⟩
  rintro e X7 ⟨rfl, hx⟩
  have hX7 := hX6.keep hx
  replace hBX := hBX.trans (hx.mono hBX.size)
  clear hcall c0 c1 c2
  gi_wp2
  refine eq_mk (Keep.of_below hx) ?_
  clear hx hX6
  clear X6
  show Exec _ _ (Code.seq _ _) _ _ _
  have c0 := cells_get (cs := [_, _, _]) (k := 0) hX7.heap rfl
  have c1 := cells_get (cs := [_, _, _]) (k := 1) hX7.heap rfl
  have c2 := cells_get (cs := [_, _, _]) (k := 2) hX7.heap rfl
  have hcall := HC8.out X7 hX7
  refine exec_seq (exec_region_o fun ds => ?_)
  gi_wp2_with fail
  refine ⟨trivial, rfl, (callsIn_wide.2 hcall).mono ?_⟩
  rintro e X8 ⟨rfl, hx⟩
  have hX8 := hX7.keep hx
  replace hBX := hBX.trans (hx.mono hBX.size)
  clear hcall c0 c1 c2
  gi_wp2
  refine eq_mk (Keep.of_below hx) ?_
  clear hx hX7
  clear X7
  show Exec _ _ (Code.seq _ _) _ _ _
  have c0 := cells_get (cs := [_, _, _]) (k := 0) hX8.heap rfl
  have c1 := cells_get (cs := [_, _, _]) (k := 1) hX8.heap rfl
  have c2 := cells_get (cs := [_, _, _]) (k := 2) hX8.heap rfl
  have hcall := HC9.out X8 hX8
  refine exec_seq (exec_region_o fun ds => ?_)
  gi_wp2_with fail
  refine ⟨trivial, rfl, (callsIn_wide.2 hcall).mono ?_⟩
  rintro e X9 ⟨rfl, hx⟩
  have hX9 := hX8.keep hx
  replace hBX := hBX.trans (hx.mono hBX.size)
  clear hcall c0 c1 c2
  gi_wp2
  refine eq_mk (Keep.of_below hx) ?_
  clear hx hX8
  clear X8
  show Exec _ _ (Code.seq _ _) _ _ _
  have c0 := cells_get (cs := [_, _, _]) (k := 0) hX9.heap rfl
  have c1 := cells_get (cs := [_, _, _]) (k := 1) hX9.heap rfl
  have c2 := cells_get (cs := [_, _, _]) (k := 2) hX9.heap rfl
  have hcall := HC10.out X9 hX9
  refine exec_seq (exec_region_o fun ds => ?_)
  gi_wp2_with fail
  refine ⟨trivial, rfl, (callsIn_wide.2 hcall).mono ?_⟩
  rintro e X10 ⟨rfl, hx⟩
  have hX10 := hX9.keep hx
  replace hBX := hBX.trans (hx.mono hBX.size)
  clear hcall c0 c1 c2
  gi_wp2
  refine eq_mk (Keep.of_below hx) ?_
  clear hx hX9
  clear X9
  show Exec _ _ (Code.seq _ _) _ _ _
  refine exec_seq (exec_region_o fun ds => ?_)
  gi_wp2_with fail
  refine ⟨trivial, rfl, (callsIn_wide.2 (alive14 X10)).mono ?_⟩
  rintro e X11 ⟨rfl, hx11⟩
  gi_wp2
  refine eq_mk (Keep.of_below hx11) ?_
  have hB11 := hBX.trans (hx11.mono hBX.size)
  show Exec _ _ _ _ _ _
  exact exec_ret ⟨.inr rfl, fun W' hG => ⟨.bool true, by simp [results, Try.f9, go_sem], rfl, hB11.trans (hG.below (Nat.le_refl _) hB11.size)⟩⟩
end Go.Proofs.Ytbdmmikflkpmpaa
end

section
namespace Go.Proofs.Ytbdmmikflkpmpaa
open Go.ChangeShapes Go.WideShapes Go.ChangeAt Go.RowKit Go.Joins Go.Deep
section
variable {H : Type} {enc : TypeId × Value → H} {w : World}
theorem row_ints {n : Nat} {v : Value} {y : DataW H × List MemPlace} (h : DataW.trod enc Try.prog w 0 (fun _ => true) true n 22 [v] = some y) : ∃ A c l, v = .slice A (l : List Int).length c ∧ RowV w A (l.map vi) := by
  rcases open_ints Try.underlying22 Try.underlying3 (by kernel_rfl) h with ⟨hcs, _⟩ | ⟨x, l, c, zs, hcs, _, hl, hm, hz, _, hcell, hwz⟩
  · simp only [List.cons.injEq, and_true] at hcs
    exact ⟨none, 0, [], hcs, fun i v hv => by simp at hv⟩
  · simp only [List.cons.injEq, and_true] at hcs
    have hz' : zs.length = c := by simpa using hz
    have htl : (zs.take l).length = l := by rw [List.length_take]; omega
    refine ⟨some x, c, zs.take l, by rw [htl]; exact hcs, fun i v hv => ⟨x, rfl, ?_⟩⟩
    rw [List.getElem?_map] at hv
    obtain ⟨u, hu, rfl⟩ := Option.map_eq_some_iff.1 hv
    have hi : i < l := by
      have := (List.getElem?_eq_some_iff.1 hu).1
      omega
    rw [List.getElem?_take_of_lt hi] at hu
    have := hcell i (by omega)
    rw [this, List.getD_eq_getElem?_getD, hu]
    rfl
theorem row_pairs {n : Nat} {v : Value} {y : DataW H × List MemPlace} (h : DataW.trod enc Try.prog w 0 (fun _ => true) true n 23 [v] = some y) : ∃ A c l, v = .slice A (l : List (Int × Int)).length c ∧ RowKI w A l := by
  rcases open_slice_pairs Try.underlying23 Try.underlying50 (by kernel_rfl) rfl rfl (by kernel_rfl) (by kernel_rfl) h with ⟨hcs, _⟩ | ⟨a, len, cap, m, n', V0, V1, D0, D1, P0, P1, hcs, _, hl, hm, hmm, _, hi⟩
  · simp only [List.cons.injEq, and_true] at hcs
    exact ⟨none, 0, [], hcs, fun i k hk => by simp at hk⟩
  · simp only [List.cons.injEq, and_true] at hcs
    have hlm : len ≤ m := by rw [hmm]; split <;> omega
    have each : ∀ i, i < len → ∃ x : Int × Int, w.cell? (a.add (i * 2)) = some (.int .i64 x.1) ∧ w.cell? (a.add (i * 2 + 1)) = some (.int .i64 x.2) := by
      intro i hi'
      obtain ⟨c0, c1, t0, t1⟩ := hi i (by omega)
      obtain ⟨x, e0, _, _⟩ := DataW.trod_int Try.underlying3 t0
      obtain ⟨z, e1, _, _⟩ := DataW.trod_int Try.underlying3 t1
      simp only [List.cons.injEq, and_true] at e0 e1
      exact ⟨⟨x, z⟩, by rw [c0, e0], by rw [c1, e1]⟩
    have hex : ∀ k, k ≤ len → ∃ l : List (Int × Int), l.length = k ∧ ∀ i p, l[i]? = some p → w.cell? (a.add (i * 2)) = some (.int .i64 p.1) ∧ w.cell? (a.add (i * 2 + 1)) = some (.int .i64 p.2) := by
      intro k
      induction k with
      | zero => exact fun _ => ⟨[], rfl, fun i p hp => by simp at hp⟩
      | succ k ih =>
        intro hk
        obtain ⟨l, hl1, hl2⟩ := ih (by omega)
        obtain ⟨x, h1, h2⟩ := each k (by omega)
        refine ⟨l ++ [x], by simp [hl1], fun i p hp => ?_⟩
        rcases Nat.lt_or_ge i l.length with hlt | hge
        · rw [List.getElem?_append_left hlt] at hp
          exact hl2 i p hp
        · rw [List.getElem?_append_right hge] at hp
          have hi0 : i - l.length = 0 := by
            rcases Nat.eq_zero_or_pos (i - l.length) with h0 | h0
            · exact h0
            · obtain ⟨q, hq⟩ : ∃ q, i - l.length = q + 1 := ⟨i - l.length - 1, by omega⟩
              rw [hq] at hp
              simp at hp
          rw [hi0] at hp
          simp only [List.getElem?_cons_zero, Option.some.injEq] at hp
          subst hp
          obtain rfl : i = k := by omega
          exact ⟨h1, h2⟩
    obtain ⟨l, hl1, hl2⟩ := hex len (Nat.le_refl _)
    refine ⟨some a, cap, l, by rw [hcs, hl1], fun i p hp => ⟨a, rfl, ?_⟩⟩
    obtain ⟨h1, h2⟩ := hl2 i p hp
    refine ⟨h1, ?_⟩
    rw [← h2]
    congr 1
    unfold Addr.add
    split <;> (try rfl) <;> simp_all <;> omega
end
end Go.Proofs.Ytbdmmikflkpmpaa
end

section
namespace Go.Proofs.Ytbdmmikflkpmpaa
open Go.ChangeShapes Go.WideShapes Go.ChangeAt Go.RowKit Go.Joins Go.Deep
section
variable {H : Type} {enc : TypeId × Value → H} {w : World}
theorem row_intsN {n : Nat} {v : Value} {y : DataW H × List MemPlace} (h : DataW.trod enc Try.prog w 0 (fun _ => true) true n 22 [v] = some y) : ∃ A c l, v = .slice A (l : List Int).length c ∧ RowV w A (l.map vi) ∧ l.length ≤ c := by
  rcases open_ints Try.underlying22 Try.underlying3 (by kernel_rfl) h with ⟨hcs, _⟩ | ⟨x, l, c, zs, hcs, _, hl, hm, hz, _, hcell, hwz⟩
  · simp only [List.cons.injEq, and_true] at hcs
    exact ⟨none, 0, [], hcs, fun i v hv => by simp at hv, Nat.le_refl _⟩
  · simp only [List.cons.injEq, and_true] at hcs
    have hz' : zs.length = c := by simpa using hz
    have htl : (zs.take l).length = l := by rw [List.length_take]; omega
    refine ⟨some x, c, zs.take l, by rw [htl]; exact hcs, fun i v hv => ⟨x, rfl, ?_⟩, by omega⟩
    rw [List.getElem?_map] at hv
    obtain ⟨u, hu, rfl⟩ := Option.map_eq_some_iff.1 hv
    have hi : i < l := by
      have := (List.getElem?_eq_some_iff.1 hu).1
      omega
    rw [List.getElem?_take_of_lt hi] at hu
    have := hcell i (by omega)
    rw [this, List.getD_eq_getElem?_getD, hu]
    rfl
set_option maxRecDepth 100000 in
theorem xp_openN {r : Reach} {b0 : Nat} {v : Value} {d : DataW H} {p : List MemPlace} (hv : Value.okWide Try.prog w r b0 25 v) (h : DataW.Trod enc Try.prog w 0 (fun _ => true) true 25 v d p) : ∃ F : XP, v = F.val ∧ F.Row w ∧ F.N.length ≤ F.cN := by
  obtain ⟨v0, v1, v2, y0, y1, y2, n, rfl, _, _, h0, h1, h2⟩ := open_agg3 Try.underlying25 (by kernel_rfl) (by kernel_rfl) hv h
  obtain ⟨A0, c0, l0, rfl, r0⟩ := row_ints h0
  obtain ⟨A1, c1, l1, rfl, r1, k1⟩ := row_intsN h1
  obtain ⟨A2, c2, l2, rfl, r2⟩ := row_pairs h2
  exact ⟨⟨A0, c0, l0, A1, c1, l1, A2, c2, l2⟩, rfl, ⟨r0, r1, r2⟩, k1⟩
end
end Go.Proofs.Ytbdmmikflkpmpaa
namespace Go.Proofs.Ytbdmmikflkpmpaa.panelFills
open Go.ChangeShapes Go.WideShapes Go.ChangeAt Go.RowKit
open Go.ChangeMaps (open_string shut_string)
theorem own : ownKnob Try.prog.godebug = none := by kernel_rfl
theorem laidOut : laidOutB Try.prog = true := by kernel_rfl
set_option maxRecDepth 100000 in
theorem lifted (os : Os) (started : os.Started) (H : Type) (enc : TypeId × Value → H) :
    ReturnsInHanded {} Try.checked os 9 .any (Rows.panelFillsSpec.pre6 enc Try.prog Try.f9 Rows.panelFillsRow.domain false) (Rows.panelFillsSpec.post enc Try.prog Try.f9 false true false false) := by
  refine returnsInHanded_of_change_sized (C := Try.checked) own started (by kernel_rfl) Try.func9
    (ChangeSpec.witness6 (enc := enc) (C := Try.checked) false ⟨#[], #[.agg #[.slice none 0 0, .slice none 0 0, .slice none 0 0]], []⟩ 8 (by kernel_rfl) (by kernel_rfl) (by kernel_rfl) (by kernel_rfl)) ?_
  intro W base args ds gs before hval0 hW hcnd hsz0 _
  have hsz : (DataW.weightsEach Try.prog (Try.f9.params.toList ++ Rows.panelFillsSpec.plain.varTypes Try.prog) (ds ++ gs)).all (· ≤ reachBytes) = true := hsz0
  have hval : ∀ (j : Nat) t v, Try.f9.params[j]? = some t → args[j]? = some v → Value.okWide Try.prog W .any base t v := hval0
  have hW' := hW
  obtain ⟨p, q, hA0, hV, rfl, hfz, hnd⟩ := hW
  have hA : DataW.TrodAll enc Try.prog W 0 (fun _ => true) true Try.f9.params.toList args.toList ds p := hA0
  rw [Try.params9] at hA hval hsz
  obtain ⟨v0, vs0, d0, ds0, p0, q0, hargs, rfl, rfl, h0, r0⟩ := trodAll_cons hA
  obtain ⟨rfl, rfl, rfl⟩ := trodAll_nil r0
  obtain rfl : args = #[v0] := by cases args; simp_all
  obtain ⟨rfl, rfl⟩ := trodVars_none hV
  have k0 := h0
  have lt0 : ∀ x ∈ p0, x.block < W.heap.size := by obtain ⟨m, hm⟩ := k0; exact DataW.trod_lt m _ _ _ hm
  obtain ⟨F0, rfl, hF0⟩ := xp_openN (hval 0 25 v0 rfl rfl) h0
  clear hA0 hval0 hsz0 hsz
  refine (fills_law F0 W hF0).mono fun e W' ⟨he, bel⟩ => ?_
  subst he
  exact ⟨_, rfl, _, _, _, [], _, [], hW', trodAll_mk1 (shut_bool Try.underlying4 _), (trodAll_cons_mk (Below.trod laidOut (by kernel_rfl) (of_decide_eq_true (by kernel_rfl)) k0 bel lt0) trodAll_mk0), rfl, bel.frame _, fun h => by cases h⟩
theorem over : Rows.panelFillsRow.holds Try.pinned (OpenSpec.ofChange Rows.panelFillsSpec) :=
  OpenClaim.holds_of_wide 9 Try.f9 rfl rfl rfl rfl rfl rfl rfl ⟨rfl, rfl, rfl, rfl, rfl⟩ rfl rfl rfl rfl rfl (by kernel_rfl) Try.func9 (by kernel_rfl)
    (of_decide_eq_true (by kernel_rfl)) (by unfold Func.isWrapper; first | (rw [if_pos (by decide +kernel)]; kernel_rfl) | (rw [if_neg (by decide +kernel)]; exact ⟨rfl, rfl⟩))
    (fun os started H enc _ => lifted os started H enc)
theorem proved : Rows.PanelFillsSaid := over
#print axioms proved
end Go.Proofs.Ytbdmmikflkpmpaa.panelFills
namespace Go.Proofs.Ytbdmmikflkpmpaa
theorem panelFills_holds : Rows.PanelFillsSaid := panelFills.proved
end Go.Proofs.Ytbdmmikflkpmpaa
end
