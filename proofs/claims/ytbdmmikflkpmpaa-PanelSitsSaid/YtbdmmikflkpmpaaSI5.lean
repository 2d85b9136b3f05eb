/- PanelSits: the row, proved -/
import Derived.Test.YtbdmmikflkpmpaaProg
import Derived.Test.YtbdmmikflkpmpaaSI1
import Derived.Test.YtbdmmikflkpmpaaSI4
import Derived.Test.YtbdmmikflkpmpaaSI3
import Derived.Maps.AppendAt
import Derived.Test.YtbdmmikflkpmpaaSI2
import Derived.WalkKit
import Derived.WalkSpells
import Derived.WalkLawsBesides
import Derived.Outline
import Derived.OwnWalkIn
import Derived.TacticsInMore
import Derived.LoopNIn
import Derived.LoopIn
import Derived.Shelf.RegionOpen
import Derived.Deep.QuietTactic
import Derived.BigQuiet
import Derived.Lib.Hide
import Derived.Deep.SlicePairs
import Derived.Lib.SmallJoins
import Derived.Carry
import Derived.ChangeArms
import Derived.ChangeOld
import Derived.WideShapes
import Derived.ProofKit
import Derived.OpenShut
import Derived.ShutString
import Derived.Below
import Derived.SizedLaws
import Derived.Test.YtbdmmikflkpmpaaRows
set_option linter.unusedVariables false
set_option linter.unusedSimpArgs false
section
namespace Go.Proofs.Ytbdmmikflkpmpaa
open Go.RowKit Go.TL Go.Shelf Go.Pn
theorem holds_succ {ls : List (List Nat)} {k : Nat} {l : List Nat} (p j : Nat) (h : ls[k]? = some l) : holds (ls.take (k + 1)) p j = holds (ls.take k) p j + if (l.getD p 0).testBit j then 1 else 0 := by
  have e : ls.take (k + 1) = ls.take k ++ [l] := by
    rw [List.take_add_one, h]
    rfl
  unfold holds
  rw [e, List.filter_append, List.length_append]
  congr 1
  cases hb : (l.getD p 0).testBit j with
  | false => simp only [List.filter_cons, List.filter_nil, hb]; rfl
  | true => simp only [List.filter_cons, List.filter_nil, hb]; rfl
theorem holds_le (ls : List (List Nat)) (p j : Nat) : holds ls p j ≤ ls.length := List.length_filter_le _ _
def PrI (w : World) (j p : Nat) (A : Option Addr) (c : Nat) (ls : List (List Nat)) (m : Nat) (t : Array Value) (Y : World) : Prop :=
  ∃ k : Nat, k ≤ ls.length ∧ m = ls.length - k ∧ LLr Y w (.slice A ls.length c) ls ∧ Below w.heap.size w Y ∧ Slots (none :: some (iv j) :: some (iv p) :: none :: o4 (some (.slice A ls.length c) :: some (iv (holds (ls.take k) p j)) :: some (iv k) :: none :: none :: none :: o4 (o4 (o4 (o16 (o16 [])))))) t
set_option maxRecDepth 100000 in
set_option maxHeartbeats 2000000 in
theorem pair20 (a : XP) (x y : Int) (w : World) (ha : a.At w) : Calls Try.prog 20 #[a.val, vi x, vi y] w fun e w' => e = .returned (.tuple #[vi (pairA a x y).1, vi (pairA a x y).2]) ∧ Below w.heap.size w w' := by
  have hu25 := Try.underlying25
  have hu85 := Try.underlying85
  have hu22 := Try.underlying22
  obtain ⟨R, hR⟩ : ∃ R, pairA a x y = R := ⟨_, rfl⟩
  rw [hR]
  have HR := Lib.hid hR
  clear hR
  refine calls_of_exec Try.func20 rfl ?_
  simp only [Try.ntmps20, List.size_toArray, List.length_cons, List.length_nil, Nat.reduceAdd, Nat.reduceSub, Array.replicate_succ, Array.replicate_zero, List.push_toArray, List.append_toArray, List.nil_append, List.cons_append]
  simp only [XP.val]
  refine exec_seq (exec_region_o fun ds => ?_)
  gi_wp2
  refine eq_mk ((Keep.refl w).alloc _) ?_
  show Exec _ _ (Code.seq _ _) _ (w.alloc (.cells #[a.sL, a.sN, a.sK] 25)) _
  have hB := (Below.refl w.heap.size w).alloc (Nat.le_refl _) (.cells #[a.sL, a.sN, a.sK] 25)
  have hX : (w.alloc (.cells #[a.sL, a.sN, a.sK] 25)).heap[w.heap.size]? = some (.cells #[a.sL, a.sN, a.sK] 25 (0, 0)) := World.alloc_heap_new _ _
  generalize w.alloc (.cells #[a.sL, a.sN, a.sK] 25) = X at *
  have haX := ha.below hB
  have c0 := cells_get (cs := [_, _, _]) (k := 0) hX rfl
  have c1 := cells_get (cs := [_, _, _]) (k := 1) hX rfl
  have c2 := cells_get (cs := [_, _, _]) (k := 2) hX rfl
  have hcall := panels22 a X haX
  obtain ⟨q, hq⟩ : ∃ q, a.isP = q := ⟨_, rfl⟩
  rw [hq] at hcall
  have HQ := Lib.hid hq
  have HX := Lib.hid hX
  clear hq hX
  refine exec_seq (exec_seq (exec_region_o fun ds => ?_))
  gi_wp2_with fail
  refine ⟨trivial, rfl, (callsIn_wide.2 hcall).mono ?_⟩
  rintro e Y ⟨rfl, hy⟩
  have haY := haX.below hy
  have hBY := hB.trans (hy.mono hB.size)
  have hXY := (hy.block _ (heap_lt HX.out)).trans HX.out
  clear hcall c0 c1 c2
  have HXY := Lib.hid hXY
  clear hXY
  gi_wp2
  refine eq_mk (Keep.of_below hy) ?_
  show Exec _ _ (Code.cond _ _ _) _ _ _
  cases q with
  | false =>
    refine exec_cond (b := true) rfl (fun _ => ?_) (fun h => by cases h)
    show Exec _ _ (Code.seq _ _) _ _ _
    refine exec_seq (exec_region_o fun ds => ?_)
    gi_wp2
    refine eq_mk (Keep.refl _) ?_
    have hr : R = (0, 1) := by rw [← HR.out]; unfold pairA; rw [HQ.out]; rfl
    exact exec_ret ⟨.inr rfl, fun W' hG => ⟨.tuple #[vi 0, vi 1], by simp [results, Try.f20, go_sem], by rw [hr]; exact ⟨rfl, hBY.trans (hG.below (Nat.le_refl _) hBY.size)⟩⟩⟩
  | true =>
    have hf := a.fine HQ.out
    refine exec_cond (b := false) rfl (fun h => by cases h) (fun _ => exec_skip ?_)
    have hj6 := hf.j
    have hp6 := hf.p
    have hw1 : IntKind.i64.wrap ((a.L.length : Int) - 1) = (a.L.length : Int) - 1 := IntWalk.i64_in _ (by omega)
    have hw2 : IntKind.i64.wrap ((a.N.length : Int) - 1) = (a.N.length : Int) - 1 := IntWalk.i64_in _ (by omega)
    have hh := HXY.out
    simp only [XP.sL, XP.sN] at hh
    have c0 := cells_get (cs := [_, _, _]) (k := 0) hh rfl
    have hcall := in70 x 0 ((a.L.length : Int) - 1) Y
    obtain ⟨qx, hqx⟩ : ∃ q, inB x 0 ((a.L.length : Int) - 1) = q := ⟨_, rfl⟩
    rw [hqx] at hcall
    have HQX := Lib.hid hqx
    clear hqx
    show Exec _ _ (Code.seq (Code.seq _ _) _) _ _ _
    refine exec_seq (exec_seq (exec_region_o fun ds => ?_))
    gi_wp2_with fail
    refine ⟨trivial, rfl, (callsIn_wide.2 hcall).mono ?_⟩
    rintro e Z ⟨rfl, hz⟩
    have hBZ := hBY.trans (hz.mono hBY.size)
    have c1 := (Grow.of_below (B := 0) hz).cell (cells_get (cs := [_, _, _]) (k := 1) hh rfl)
    clear hcall hh c0
    have hXZ := (hz.block _ (heap_lt HXY.out)).trans HXY.out
    have HXZ := Lib.hid hXZ
    have haZ := haY.below hz
    clear hXZ
    cases qx with
    | false =>
      gi_wp2
      refine ⟨trivial, ?_⟩
      rename_i hK
      refine hK _ _ ?_
      gi_wp2
      refine eq_mk (Keep.of_below hz) ?_
      show Exec _ _ (Code.cond _ _ _) _ _ _
      refine exec_cond (b := true) rfl (fun _ => ?_) (fun h => by cases h)
      show Exec _ _ (Code.seq _ _) _ _ _
      refine exec_seq (exec_region_o fun ds => ?_)
      gi_wp2
      refine eq_mk (Keep.refl _) ?_
      have hr : R = (0, 2) := by rw [← HR.out]; unfold pairA; rw [HQ.out, HQX.out]; rfl
      exact exec_ret ⟨.inr rfl, fun W' hG => ⟨.tuple #[vi 0, vi 2], by simp [results, Try.f20, go_sem], by rw [hr], hBZ.trans (hG.below (Nat.le_refl _) hBZ.size)⟩⟩
    | true =>
    have hcall := in70 y 0 ((a.N.length : Int) - 1) Z
    obtain ⟨qy, hqy⟩ : ∃ q, inB y 0 ((a.N.length : Int) - 1) = q := ⟨_, rfl⟩
    rw [hqy] at hcall
    have HQY := Lib.hid hqy
    clear hqy
    gi_wp2_with fail
    refine ⟨trivial, rfl, (callsIn_wide.2 hcall).mono ?_⟩
    rintro e Z2 ⟨rfl, hz2⟩
    have hK : Keep Y Z2 := (Keep.of_below hz).trans (Keep.of_below hz2)
    have hBZ2 := hBZ.trans (hz2.mono hBZ.size)
    clear hcall c1
    have hXZ2 := (hz2.block _ (heap_lt HXZ.out)).trans HXZ.out
    have HXZ2 := Lib.hid hXZ2
    have haZ2 := haZ.below hz2
    clear hXZ2
    cases qy with
    | false =>
      gi_wp2
      refine eq_mk hK ?_
      show Exec _ _ (Code.cond _ _ _) _ _ _
      refine exec_cond (b := true) rfl (fun _ => ?_) (fun h => by cases h)
      show Exec _ _ (Code.seq _ _) _ _ _
      refine exec_seq (exec_region_o fun ds => ?_)
      gi_wp2
      refine eq_mk (Keep.refl _) ?_
      have hr : R = (0, 2) := by rw [← HR.out]; unfold pairA; rw [HQ.out, HQX.out, HQY.out]; rfl
      exact exec_ret ⟨.inr rfl, fun W' hG => ⟨.tuple #[vi 0, vi 2], by simp [results, Try.f20, go_sem], by rw [hr], hBZ2.trans (hG.below (Nat.le_refl _) hBZ2.size)⟩⟩
    | true =>
    gi_wp2
    refine eq_mk hK ?_
    show Exec _ _ (Code.cond _ _ _) _ _ _
    refine exec_cond (b := false) rfl (fun h => by cases h) (fun _ => exec_skip ?_)
    clear hK hz hz2 hw1 hw2
    have hx := HQX.out
    have hy2 := HQY.out
    simp only [inB, Bool.and_eq_true, decide_eq_true_eq] at hx hy2
    obtain ⟨j, rfl⟩ : ∃ j : Nat, x = j := ⟨x.toNat, by omega⟩
    obtain ⟨p, rfl⟩ : ∃ p : Nat, y = p := ⟨y.toNat, by omega⟩
    have hj : j < a.L.length := by omega
    have hp : p < a.N.length := by omega
    clear hx hy2
    have hr : R = if canV (toP a.s3) then (((pairV (toP a.s3) p j : Nat) : Int), 0) else (0, 4) := by
      rw [← HR.out]
      unfold pairA
      rw [HQ.out, HQX.out, HQY.out]
      rfl
    have hall := all65 a hf Z2 haZ2
    have hno := fun h => all_none (a := a) hf h
    have hhd := fun h => all_head (a := a) hf h
    have hpi := fun h => pair_is (a := a) hf h hp hj
    have hlen := allF_len hf
    have hmem : ∀ l ∈ allF a a.N.length [], l.length = a.N.length ∧ ∀ s ∈ l, s < 2 ^ a.L.length := fun l hl => by
      rw [allF_ok hf, List.mem_filter] at hl
      exact (mem_seqs _ _ _).1 hl.1
    obtain ⟨ls, hls⟩ : ∃ ls, allF a a.N.length [] = ls := ⟨_, rfl⟩
    rw [hls] at hall hlen
    simp only [hls] at hno hhd hpi hmem
    clear hls
    have HNO := Lib.hid hno
    have HHD := Lib.hid hhd
    have HPI := Lib.hid hpi
    have HMEM := Lib.hid hmem
    have HRR := Lib.hid hr
    clear hno hhd hpi hmem hr
    have c0 := cells_get (cs := [_, _, _]) (k := 0) HXZ2.out rfl
    have c1 := cells_get (cs := [_, _, _]) (k := 1) HXZ2.out rfl
    have c2 := cells_get (cs := [_, _, _]) (k := 2) HXZ2.out rfl
    show Exec _ _ (Code.seq _ _) _ _ _
    refine exec_seq (exec_region_o fun ds => ?_)
    gi_wp2_with fail
    refine ⟨trivial, rfl, (callsIn_wide.2 hall).mono ?_⟩
    rintro e V ⟨v, ⟨rfl, hv⟩, hz⟩
    obtain ⟨A, c, rfl⟩ := hv.shape
    have HV := Lib.hid (hv.mono hBZ2.size)
    clear hall hv c0 c1 c2
    gi_wp2
    refine eq_mk (Keep.of_below hz) ?_
    have hBV := hBZ2.trans (hz.mono hBZ2.size)
    show Exec _ _ (Code.seq (Code.seq _ _) _) _ _ _
    refine exec_seq (exec_seq (exec_region_o fun ds => ?_))
    gi_wp2
    refine eq_mk (Keep.refl _) ?_
    show Exec _ _ (Code.cond _ _ _) _ _ _
    cases hc : canV (toP a.s3) with
    | false =>
      have h0 : ls.length = 0 := by rw [HNO.out hc]; rfl
      refine exec_cond (b := true) (by rw [h0]; rfl) (fun _ => ?_) (fun h => by cases h)
      show Exec _ _ (Code.seq _ _) _ _ _
      refine exec_seq (exec_region_o fun ds => ?_)
      gi_wp2
      refine eq_mk (Keep.refl _) ?_
      have hr : R = (0, 4) := by rw [HRR.out, hc]; rfl
      exact exec_ret ⟨.inr rfl, fun W' hG => ⟨.tuple #[vi 0, vi 4], by simp [results, Try.f20, go_sem], by rw [hr], hBV.trans (hG.below (Nat.le_refl _) hBV.size)⟩⟩
    | true =>
    have h0 : ls.length ≠ 0 := fun e => by
      have := HHD.out hc
      rw [List.length_eq_zero_iff.1 e] at this
      cases this
    refine exec_cond (b := false) (by show Value.bool _ = _; congr 1; simp; exact fun e => h0 (by rw [e]; rfl)) (fun h => by cases h) (fun _ => exec_skip ?_)
    show Exec _ _ (Code.seq _ _) _ _ _
    refine exec_seq (exec_region_o fun ds => ?_)
    gi_wp2
    refine eq_mk (Keep.refl _) ?_
    show Exec _ _ (Code.seq (Code.seq _ _) _) _ _ _
    refine exec_seq (exec_seq (exec_region_o fun ds => ?_))
    gi_wp2
    refine eq_mk (Keep.refl _) ?_
    show Exec _ _ (Code.block _ _) _ _ _
    refine exec_block ?_
    refine exec_loop (PrI w j p A c ls) ls.length ⟨0, by omega, rfl, HV.out, hBV, by simp [Slots, Fits, holds]⟩ ?_
    clear hBV hz HV
    clear V
    rintro m t V ⟨k, hk, hm, hV, hBV, hSl⟩
    have HM := Lib.hid hm
    have hhl := holds_le (ls.take k) p j
    rw [List.length_take] at hhl
    have hsu := fun l (h : ls[k]? = some l) => holds_succ p j h
    have hend : k = ls.length → holds (ls.take k) p j = holds ls p j := fun e => by rw [e, List.take_length]
    obtain ⟨n, hn⟩ : ∃ n, holds (ls.take k) p j = n := ⟨_, rfl⟩
    rw [hn] at hSl hhl
    simp only [hn] at hsu hend
    have hnk : n ≤ 2 ^ 36 := by omega
    have HEN := Lib.hid hend
    have HSU := Lib.hid hsu
    have HV := Lib.hid hV
    clear hn hm hsu hend hV
    obtain ⟨x, hx⟩ := Slots.open_ hSl; simp only [fill, Nat.reduceAdd] at hx; subst hx; clear hSl
    show Exec _ _ (Code.seq (Code.seq _ _) (Code.seq _ _)) _ _ _
    refine exec_seq (exec_seq (exec_region_o fun ds => ?_))
    gi_wp2
    refine eq_mk (Keep.refl _) ?_
    show Exec _ _ (Code.cond _ _ _) _ _ _
    refine exec_cond (b := decide (k < ls.length)) (by first | rfl | (show Value.bool _ = _; congr 1; exact decide_eq_decide.2 (by omega))) (fun hp => exec_skip ?_) (fun hp => exec_exit ?_)
    · have hkl := of_decide_eq_true ‹decide (k < ls.length) = true›
      have hl : ls[k]? = some ls[k] := List.getElem?_eq_getElem hkl
      obtain ⟨l, hll⟩ : ∃ l, ls[k] = l := ⟨_, rfl⟩
      rw [hll] at hl
      have hlm := HMEM.out l (by rw [← hll]; exact List.getElem_mem _)
      obtain ⟨ad, B, d, rfl, hcl, hrow⟩ := HV.out.at hl
      have hsu := HSU.out l hl
      clear hll hl
      obtain ⟨s, hs⟩ : ∃ s, l.getD p 0 = s := ⟨_, rfl⟩
      have hpl : p < l.length := by omega
      have hlp : l[p]? = some s := by rw [List.getElem?_eq_getElem hpl, ← hs, List.getD_eq_getElem?_getD, List.getElem?_eq_getElem hpl]; rfl
      rw [hs] at hsu
      have hs40 : s < 2 ^ 40 := Nat.lt_of_lt_of_le (hlm.2 s (List.mem_of_getElem? hlp)) (Nat.pow_le_pow_right (by omega) (by omega))
      have hlN : (p : Int) < l.length := by omega
      obtain ⟨bd, rfl, hcs⟩ := hrow p (iv s) (by rw [List.getElem?_map, hlp]; rfl)
      have hcall := has71 s j hs40 (by omega) V
      obtain ⟨q, hq⟩ : ∃ q, s.testBit j = q := ⟨_, rfl⟩
      rw [hq] at hcall hsu
      have HSU2 := Lib.hid hsu
      clear hq hsu hs hlp hrow hlm
      generalize l.length = ll at *
      have HEND : RowKit.Hid (∀ (n2 : Nat) (Z : World), n2 = n + (if q = true then 1 else 0) → Below V.heap.size V Z → ∀ t, Slots (none :: some (iv j) :: some (iv p) :: none :: o4 (some (.slice (some ad) ls.length c) :: some (iv n2) :: some (iv k) :: none :: none :: none :: o4 (o4 (o4 (o16 (o16 [])))))) t → Exec Try.prog none (sub (Try.f20.body.getD .skip) [1, 1, 1, 1, 1, 1, 0, 1, 0, 0, 1, 1]) t Z (fun e t' W' => e = .normal ∧ ∃ m', m' < m ∧ PrI w j p (some ad) c ls m' t' W')) := Lib.hid (by
        intro n2 Z hn2 hbz t hSl
        have hw : IntKind.i64.wrap ((k : Int) + 1) = ((k + 1 : Nat) : Int) := by rw [IntWalk.i64_in _ (by omega)]; norm_cast
        have HN2 := Lib.hid hn2
        clear hcall hcl hcs hn2
        obtain ⟨x, hx⟩ := Slots.open_ hSl; simp only [fill, Nat.reduceAdd] at hx; subst hx; clear hSl
        show Exec _ _ (Code.region _ _ _) _ _ _
        refine exec_region_o fun ds => ?_
        gi_wp2
        refine eq_mk (Keep.refl _) ?_
        exact ⟨rfl, m - 1, by have := HM.out; omega, k + 1, by omega, by have := HM.out; omega, HV.out.below hbz, hBV.trans (hbz.mono hBV.size), by rw [HSU2.out, ← HN2.out]; simp [Slots, Fits]; try omega⟩)
      show Exec _ _ (Code.seq (Code.block _ _) _) _ _ _
      refine exec_seq (exec_block (exec_seq (exec_region_o fun ds => ?_)))
      gi_wp2_with fail
      refine ⟨trivial, rfl, (callsIn_wide.2 hcall).mono ?_⟩
      rintro e Z ⟨rfl, hz⟩
      clear hcall hcl hcs
      gi_wp2
      refine eq_mk (Keep.of_below hz) ?_
      show Exec _ _ (Code.cond _ _ _) _ _ _
      cases q with
      | false =>
        refine exec_cond (b := false) rfl (fun h => by cases h) (fun _ => exec_skip ?_)
        show Exec Try.prog none (sub (Try.f20.body.getD .skip) [1, 1, 1, 1, 1, 1, 0, 1, 0, 0, 1, 1]) _ _ _
        refine (HEND.out n Z rfl hz _ (by simp [Slots, Fits])).mono ?_
        rintro e t W ⟨rfl, h⟩
        exact h
      | true =>
        have hw : IntKind.i64.wrap ((n : Int) + 1) = ((n + 1 : Nat) : Int) := by rw [IntWalk.i64_in _ (by omega)]; norm_cast
        refine exec_cond (b := true) rfl (fun _ => ?_) (fun h => by cases h)
        show Exec _ _ (Code.region _ _ _) _ _ _
        refine exec_region_o fun ds => ?_
        gi_wp2
        refine eq_mk (Keep.refl _) ?_
        show Exec Try.prog none (sub (Try.f20.body.getD .skip) [1, 1, 1, 1, 1, 1, 0, 1, 0, 0, 1, 1]) _ _ _
        refine (HEND.out (n + 1) Z rfl hz _ (by simp [Slots, Fits])).mono ?_
        rintro e t W ⟨rfl, h⟩
        exact h
    · have hkl : k = ls.length := by have := of_decide_eq_false ‹decide (k < ls.length) = false›; omega
      have hnn := HEN.out hkl
      have hr : R = (((if n = ls.length then 2 else if n = 0 then 0 else 1 : Nat) : Int), 0) := by rw [HRR.out, hc, if_pos rfl, HPI.out hc, hnn]
      have HR2 := Lib.hid hr
      clear hnn hr
      show Exec _ _ (Code.seq (Code.seq _ _) _) _ _ _
      refine exec_seq (exec_seq (exec_region_o fun ds => ?_))
      gi_wp2
      refine eq_mk (Keep.refl _) ?_
      show Exec _ _ (Code.cond _ _ _) _ _ _
      refine exec_cond (b := decide (n = ls.length)) (by first | rfl | (show Value.bool _ = _; congr 1; first | exact int_beq _ _ | (simp; omega))) (fun h => ?_) (fun h => exec_skip ?_)
      · have he := of_decide_eq_true h
        show Exec _ _ (Code.seq _ _) _ _ _
        refine exec_seq (exec_region_o fun ds => ?_)
        gi_wp2
        refine eq_mk (Keep.refl _) ?_
        have hr : R = (2, 0) := by rw [HR2.out, if_pos he]; rfl
        exact exec_ret ⟨.inr rfl, fun W' hG => ⟨.tuple #[vi 2, vi 0], by simp [results, Try.f20, go_sem], by rw [hr], hBV.trans (hG.below (Nat.le_refl _) hBV.size)⟩⟩
      have he := of_decide_eq_false h
      show Exec _ _ (Code.seq (Code.seq _ _) _) _ _ _
      refine exec_seq (exec_seq (exec_region_o fun ds => ?_))
      gi_wp2
      refine eq_mk (Keep.refl _) ?_
      show Exec _ _ (Code.cond _ _ _) _ _ _
      refine exec_cond (b := decide (n = 0)) (by first | rfl | (show Value.bool _ = _; congr 1; first | exact int_beq _ 0 | (simp; omega))) (fun h => ?_) (fun h => exec_skip ?_)
      · have he2 := of_decide_eq_true h
        show Exec _ _ (Code.seq _ _) _ _ _
        refine exec_seq (exec_region_o fun ds => ?_)
        gi_wp2
        refine eq_mk (Keep.refl _) ?_
        have hr : R = (0, 0) := by rw [HR2.out, if_neg he, if_pos he2]; rfl
        exact exec_ret ⟨.inr rfl, fun W' hG => ⟨.tuple #[vi 0, vi 0], by simp [results, Try.f20, go_sem], by rw [hr], hBV.trans (hG.below (Nat.le_refl _) hBV.size)⟩⟩
      have he2 := of_decide_eq_false h
      show Exec _ _ (Code.seq _ _) _ _ _
      refine exec_seq (exec_region_o fun ds => ?_)
      gi_wp2
      refine eq_mk (Keep.refl _) ?_
      have hr : R = (1, 0) := by rw [HR2.out, if_neg he, if_neg he2]; rfl
      exact exec_ret ⟨.inr rfl, fun W' hG => ⟨.tuple #[vi 1, vi 0], by simp [results, Try.f20, go_sem], by rw [hr], hBV.trans (hG.below (Nat.le_refl _) hBV.size)⟩⟩
end Go.Proofs.Ytbdmmikflkpmpaa
end

section
namespace Go.Proofs.Ytbdmmikflkpmpaa
open Go.RowKit Go.TL Go.Shelf Go.Pn
theorem sit_len (a : XP) : (sitA a).1.length ≤ 1000000 := by
  unfold sitA
  split
  · rename_i h
    have hf := a.fine h
    split
    · have := (sitFold_ok hf a.N.length).1
      have := hf.p
      simp only
      omega
    · simp
  · simp
theorem sit_row {W : World} {A : Option Addr} {l : List Nat} (h : RowV W A (l.map iv)) : RowV W A ((l.map fun n : Nat => (n : Int)).map vi) := by
  rw [List.map_map]
  exact h
theorem same21 (A B : Option Addr) (c d : Nat) (l : List Nat) (hl : l.length ≤ 1000000) (w : World) (hA : RowV w A (l.map iv)) (hB : RowV w B (l.map iv)) : Calls Try.prog 21 #[.slice A l.length c, .slice B l.length d] w fun e w' => e = .returned (.bool true) ∧ Below w.heap.size w w' := by
  have h := ints21 A B c d (l.map fun n : Nat => (n : Int)) (l.map fun n : Nat => (n : Int)) (by simpa using hl) (by simpa using hl) w (sit_row hA) (sit_row hB)
  rw [List.length_map, decide_eq_true rfl] at h
  exact h
set_option maxRecDepth 100000 in
set_option maxHeartbeats 2000000 in
theorem sits_law (a : XP) (x y : Int) (w : World) (h : a.Row w) : Calls Try.prog 3 #[a.val, vi x, vi y] w fun e w' => e = .returned (.bool true) ∧ Below w.heap.size w w' := by
  have hu25 := Try.underlying25
  have hu22 := Try.underlying22
  refine calls_of_exec Try.func3 rfl ?_
  simp only [Try.ntmps3, List.size_toArray, List.length_cons, List.length_nil, Nat.reduceAdd, Nat.reduceSub, Array.replicate_succ, Array.replicate_zero, List.push_toArray, List.append_toArray, List.nil_append, List.cons_append]
  simp only [XP.val]
  refine exec_seq (exec_region_o fun ds => ?_)
  gi_wp2
  refine eq_mk ((Keep.refl w).alloc _) ?_
  show Exec _ _ (Code.seq _ _) _ (w.alloc (.cells #[a.sL, a.sN, a.sK] 25)) _
  have hB := (Below.refl w.heap.size w).alloc (Nat.le_refl _) (.cells #[a.sL, a.sN, a.sK] 25)
  have hh : (w.alloc (.cells #[a.sL, a.sN, a.sK] 25)).heap[w.heap.size]? = some (.cells #[a.sL, a.sN, a.sK] 25 (0, 0)) := World.alloc_heap_new _ _
  have hR := h.below hB
  generalize w.alloc (.cells #[a.sL, a.sN, a.sK] 25) = W0 at *
  have c0 := cells_get (cs := [_, _, _]) (k := 0) hh rfl
  have c1 := cells_get (cs := [_, _, _]) (k := 1) hh rfl
  have c2 := cells_get (cs := [_, _, _]) (k := 2) hh rfl
  obtain ⟨hv, hhv⟩ : ∃ b, heavyB a 5 4 10 = b := ⟨_, rfl⟩
  have hvy : Calls Try.prog 13 #[.agg #[a.sL, a.sN, a.sK], .int .i64 5, .int .i64 4, .int .i64 10] W0 fun e w' => e = .returned (.bool (heavyB a 5 4 10)) ∧ Below W0.heap.size W0 w' := heavy13 a 5 4 10 W0 hR
  rw [hhv] at hvy
  refine exec_seq (exec_seq (exec_region_o fun ds => ?_))
  gi_wp2_with fail
  refine ⟨trivial, rfl, (callsIn_wide.2 hvy).mono ?_⟩
  rintro e X0 ⟨rfl, hx⟩
  have hhX := (hx.block _ (heap_lt hh)).trans hh
  have hRX := hR.below hx
  have hBX := hB.trans (hx.mono hB.size)
  have hK := Keep.of_below hx
  clear hx hvy c0 c1 c2 hh hR hB h
  gi_wp2
  refine eq_mk hK ?_
  show Exec _ _ (Code.cond _ _ _) _ _ _
  clear hK
  clear W0
  cases hv with
  | true =>
    refine exec_cond (b := true) rfl (fun _ => ?_) (fun h => by cases h)
    refine exec_seq (exec_region_o fun ds => ?_)
    gi_wp2_with fail
    refine ⟨trivial, rfl, (callsIn_wide.2 (alive14 X0)).mono ?_⟩
    rintro e Y ⟨rfl, hy⟩
    have hBY := hBX.trans (hy.mono hBX.size)
    gi_wp2
    refine eq_mk (Keep.of_below hy) ?_
    show Exec _ _ _ _ _ _
    exact exec_ret ⟨.inr rfl, fun W' hG => ⟨.bool true, by simp [results, Try.f3, go_sem], rfl, hBY.trans (hG.below (Nat.le_refl _) hBY.size)⟩⟩
  | false =>
  refine exec_cond (b := false) rfl (fun h => by cases h) (fun _ => exec_skip ?_)
  have hsm : a.small = true := by
    cases hs : a.small with
    | true => rfl
    | false => rw [heavyB, hs] at hhv; cases hhv
  have h3 : (a.L.length ≤ 40 ∧ a.N.length ≤ 40) ∧ a.K.length ≤ 40 := by simpa [XP.small] using hsm
  have hX0 : PBx X0 w.heap.size a := ⟨hhX, hRX.at_ h3.1.1 h3.1.2 h3.2⟩
  clear hhv hsm h3 hhX hRX
  have hsl := sit_len a
  have hc1 := fun W (hX : PBx W w.heap.size a) => Sit_any a W hX.at_
  have hc2 := fun W (hX : PBx W w.heap.size a) => sit16 a W hX.at_
  have hc3 := fun W (hX : PBx W w.heap.size a) => Count_any a W hX.at_
  have hc4 := fun W (hX : PBx W w.heap.size a) => count18 a W hX.at_
  have hc5 := fun W (hX : PBx W w.heap.size a) => Pair_any a x y W hX.at_
  have hc6 := fun W (hX : PBx W w.heap.size a) => pair20 a x y W hX.at_
  generalize sitA a = sA at *
  generalize countA a = cA at *
  generalize pairA a x y = pA at *
  obtain ⟨sl, sv⟩ := sA
  obtain ⟨cn, cv⟩ := cA
  obtain ⟨pn, pv⟩ := pA
  simp only [] at *
  have HC1 := Lib.hid hc1
  have HC2 := Lib.hid hc2
  have HC3 := Lib.hid hc3
  have HC4 := Lib.hid hc4
  have HC5 := Lib.hid hc5
  have HC6 := Lib.hid hc6
  clear hc1 hc2 hc3 hc4 hc5 hc6
  show Exec _ _ (Code.seq _ _) _ _ _
  have c0 := cells_get (cs := [_, _, _]) (k := 0) hX0.heap rfl
  have c1 := cells_get (cs := [_, _, _]) (k := 1) hX0.heap rfl
  have c2 := cells_get (cs := [_, _, _]) (k := 2) hX0.heap rfl
  have hcall := HC1.out X0 hX0
  refine exec_seq (exec_region_o fun ds => ?_)
  gi_wp2_with fail
  refine ⟨trivial, rfl, (callsIn_wide.2 hcall).mono ?_⟩
  rintro e X1 ⟨A1, k1, rfl, hr1, hx⟩
  have hX1 := hX0.keep hx
  replace hBX := hBX.trans (hx.mono hBX.size)
  have HR1 := Lib.hid hr1
  clear hr1
  clear hcall c0 c1 c2
  gi_wp2
  refine eq_mk (Keep.of_below hx) ?_
  clear hx hX0
  clear X0
  show Exec _ _ (Code.seq _ _) _ _ _
  have c0 := cells_get (cs := [_, _, _]) (k := 0) hX1.heap rfl
  have c1 := cells_get (cs := [_, _, _]) (k := 1) hX1.heap rfl
  have c2 := cells_get (cs := [_, _, _]) (k := 2) hX1.heap rfl
  have hcall := HC2.out X1 hX1
  refine exec_seq (exec_region_o fun ds => ?_)
  gi_wp2_with fail
  refine ⟨trivial, rfl, (callsIn_wide.2 hcall).mono ?_⟩
  rintro e X2 ⟨A2, k2, rfl, hr2, hx⟩
  have hX2 := hX1.keep hx
  replace hBX := hBX.trans (hx.mono hBX.size)
  have HR2 := Lib.hid hr2
  replace HR1 := Lib.hid (HR1.out.below hx)
  clear hr2
  clear hcall c0 c1 c2
  gi_wp2
  refine eq_mk (Keep.of_below hx) ?_
  clear hx hX1
  clear X1
  show Exec _ _ (Code.seq _ _) _ _ _
  have c0 := cells_get (cs := [_, _, _]) (k := 0) hX2.heap rfl
  have c1 := cells_get (cs := [_, _, _]) (k := 1) hX2.heap rfl
  have c2 := cells_get (cs := [_, _, _]) (k := 2) hX2.heap rfl
  have hcall := HC3.out X2 hX2
  refine exec_seq (exec_region_o fun ds => ?_)
  gi_wp2_with fail
  refine ⟨trivial, rfl, (callsIn_wide.2 hcall).mono ?_⟩
  rintro e X3 ⟨rfl, hx⟩
  have hX3 := hX2.keep hx
  replace hBX := hBX.trans (hx.mono hBX.size)
  replace HR1 := Lib.hid (HR1.out.below hx)
  replace HR2 := Lib.hid (HR2.out.below hx)
  clear hcall c0 c1 c2
  gi_wp2
  refine eq_mk (Keep.of_below hx) ?_
  clear hx hX2
  clear X2
  show Exec _ _ (Code.seq _ _) _ _ _
  have c0 := cells_get (cs := [_, _, _]) (k := 0) hX3.heap rfl
  have c1 := cells_get (cs := [_, _, _]) (k := 1) hX3.heap rfl
  have c2 := cells_get (cs := [_, _, _]) (k := 2) hX3.heap rfl
  have hcall := HC4.out X3 hX3
  refine exec_seq (exec_region_o fun ds => ?_)
  gi_wp2_with fail
  refine ⟨trivial, rfl, (callsIn_wide.2 hcall).mono ?_⟩
  rintro e X4 ⟨rfl, hx⟩
  have hX4 := hX3.keep hx
  replace hBX := hBX.trans (hx.mono hBX.size)
  replace HR1 := Lib.hid (HR1.out.below hx)
  replace HR2 := Lib.hid (HR2.out.below hx)
  clear hcall c0 c1 c2
  gi_wp2
  refine eq_mk (Keep.of_below hx) ?_
  clear hx hX3
  clear X3
  show Exec _ _ (Code.seq _ _) _ _ _
  have c0 := cells_get (cs := [_, _, _]) (k := 0) hX4.heap rfl
  have c1 := cells_get (cs := [_, _, _]) (k := 1) hX4.heap rfl
  have c2 := cells_get (cs := [_, _, _]) (k := 2) hX4.heap rfl
  have hcall := HC5.out X4 hX4
  refine exec_seq (exec_region_o fun ds => ?_)
  gi_wp2_with fail
  refine ⟨trivial, rfl, (callsIn_wide.2 hcall).mono ?_⟩
  rintro e X5 ⟨rfl, hx⟩
  have hX5 := hX4.keep hx
  replace hBX := hBX.trans (hx.mono hBX.size)
  replace HR1 := Lib.hid (HR1.out.below hx)
  replace HR2 := Lib.hid (HR2.out.below hx)
  clear hcall c0 c1 c2
  gi_wp2
  refine eq_mk (Keep.of_below hx) ?_
  clear hx hX4
  clear X4
  show Exec _ _ (Code.seq _ _) _ _ _
  have c0 := cells_get (cs := [_, _, _]) (k := 0) hX5.heap rfl
  have c1 := cells_get (cs := [_, _, _]) (k := 1) hX5.heap rfl
  have c2 := cells_get (cs := [_, _, _]) (k := 2) hX5.heap rfl
  have hcall := HC6.out X5 hX5
  refine exec_seq (exec_region_o fun ds => ?_)
  gi_wp2_with fail
  refine ⟨trivial, rfl, (callsIn_wide.2 hcall).mono ?_⟩
  rintro e X6 ⟨rfl, hx⟩
  have hX6 := hX5.keep hx
  replace hBX := hBX.trans (hx.mono hBX.size)
  replace HR1 := Lib.hid (HR1.out.below hx)
  replace HR2 := Lib.hid (HR2.out.below hx)
  clear hcall c0 c1 c2
  gi_wp2
  refine eq_mk (Keep.of_below hx) ?_
  clear hx hX5
  clear X5
  have hcall := same21 A1 A2 k1 k2 sl hsl X6 HR1.out HR2.out
  clear HR1 HR2
  show Exec _ _ (Code.seq _ _) _ _ _
  refine exec_seq (exec_region_o fun ds => ?_)
  gi_wp2_with fail
  refine ⟨trivial, rfl, (callsIn_wide.2 hcall).mono ?_⟩
  rintro e X7 ⟨rfl, hx7⟩
  clear hcall
  gi_wp2_with fail
  refine ⟨trivial, rfl, (callsIn_wide.2 (alive14 X7)).mono ?_⟩
  rintro e X8 ⟨rfl, hx8⟩
  gi_wp2
  refine eq_mk ((Keep.of_below hx7).trans (Keep.of_below hx8)) ?_
  have hB7 := hBX.trans (hx7.mono hBX.size)
  have hB8 := hB7.trans (hx8.mono hB7.size)
  show Exec _ _ _ _ _ _
  exact exec_ret ⟨.inr rfl, fun W' hG => ⟨.bool true, by simp [results, Try.f3, go_sem], rfl, hB8.trans (hG.below (Nat.le_refl _) hB8.size)⟩⟩
end Go.Proofs.Ytbdmmikflkpmpaa
end

section
namespace Go.Proofs.Ytbdmmikflkpmpaa
open Go.ChangeShapes Go.WideShapes Go.ChangeAt Go.RowKit Go.Joins Go.Deep
section
variable {H : Type} {enc : TypeId × Value → H} {w : World}
theorem row_ints {n : Nat} {v : Value} {y : DataW H × List MemPlace} (h : DataW.trod enc Try.prog w 0 (fun _ => true) true n 22 [v] = some y) : ∃ A c l, v = .slice A (l : List Int).length c ∧ RowV w A (l.map vi) := by
  rcases open_ints Try.underlying22 Try.underlying3 (by kernel_rfl) h with ⟨hcs, _⟩ | ⟨x, l, c, zs, hcs, _, hl, hm, hz, _, hcell, hwz⟩
  · simp only [List.cons.injEq, and_true] at hcs
    exact ⟨none, 0, [], hcs, fun i v hv => by simp at hv⟩
  · simp only [List.cons.injEq, and_true] at hcs
    have hz' : zs.length = c := by simpa using hz
    have htl : (zs.take l).length = l := by rw [List.length_take]; omega
    refine ⟨some x, c, zs.take l, by rw [htl]; exact hcs, fun i v hv => ⟨x, rfl, ?_⟩⟩
    rw [List.getElem?_map] at hv
    obtain ⟨u, hu, rfl⟩ := Option.map_eq_some_iff.1 hv
    have hi : i < l := by
      have := (List.getElem?_eq_some_iff.1 hu).1
      omega
    rw [List.getElem?_take_of_lt hi] at hu
    have := hcell i (by omega)
    rw [this, List.getD_eq_getElem?_getD, hu]
    rfl
theorem row_pairs {n : Nat} {v : Value} {y : DataW H × List MemPlace} (h : DataW.trod enc Try.prog w 0 (fun _ => true) true n 23 [v] = some y) : ∃ A c l, v = .slice A (l : List (Int × Int)).length c ∧ RowKI w A l := by
  rcases open_slice_pairs Try.underlying23 Try.underlying50 (by kernel_rfl) rfl rfl (by kernel_rfl) (by kernel_rfl) h with ⟨hcs, _⟩ | ⟨a, len, cap, m, n', V0, V1, D0, D1, P0, P1, hcs, _, hl, hm, hmm, _, hi⟩
  · simp only [List.cons.injEq, and_true] at hcs
    exact ⟨none, 0, [], hcs, fun i k hk => by simp at hk⟩
  · simp only [List.cons.injEq, and_true] at hcs
    have hlm : len ≤ m := by rw [hmm]; split <;> omega
    have each : ∀ i, i < len → ∃ x : Int × Int, w.cell? (a.add (i * 2)) = some (.int .i64 x.1) ∧ w.cell? (a.add (i * 2 + 1)) = some (.int .i64 x.2) := by
      intro i hi'
      obtain ⟨c0, c1, t0, t1⟩ := hi i (by omega)
      obtain ⟨x, e0, _, _⟩ := DataW.trod_int Try.underlying3 t0
      obtain ⟨z, e1, _, _⟩ := DataW.trod_int Try.underlying3 t1
      simp only [List.cons.injEq, and_true] at e0 e1
      exact ⟨⟨x, z⟩, by rw [c0, e0], by rw [c1, e1]⟩
    have hex : ∀ k, k ≤ len → ∃ l : List (Int × Int), l.length = k ∧ ∀ i p, l[i]? = some p → w.cell? (a.add (i * 2)) = some (.int .i64 p.1) ∧ w.cell? (a.add (i * 2 + 1)) = some (.int .i64 p.2) := by
      intro k
      induction k with
      | zero => exact fun _ => ⟨[], rfl, fun i p hp => by simp at hp⟩
      | succ k ih =>
        intro hk
        obtain ⟨l, hl1, hl2⟩ := ih (by omega)
        obtain ⟨x, h1, h2⟩ := each k (by omega)
        refine ⟨l ++ [x], by simp [hl1], fun i p hp => ?_⟩
        rcases Nat.lt_or_ge i l.length with hlt | hge
        · rw [List.getElem?_append_left hlt] at hp
          exact hl2 i p hp
        · rw [List.getElem?_append_right hge] at hp
          have hi0 : i - l.length = 0 := by
            rcases Nat.eq_zero_or_pos (i - l.length) with h0 | h0
            · exact h0
            · obtain ⟨q, hq⟩ : ∃ q, i - l.length = q + 1 := ⟨i - l.length - 1, by omega⟩
              rw [hq] at hp
              simp at hp
          rw [hi0] at hp
          simp only [List.getElem?_cons_zero, Option.some.injEq] at hp
          subst hp
          obtain rfl : i = k := by omega
          exact ⟨h1, h2⟩
    obtain ⟨l, hl1, hl2⟩ := hex len (Nat.le_refl _)
    refine ⟨some a, cap, l, by rw [hcs, hl1], fun i p hp => ⟨a, rfl, ?_⟩⟩
    obtain ⟨h1, h2⟩ := hl2 i p hp
    refine ⟨h1, ?_⟩
    rw [← h2]
    congr 1
    unfold Addr.add
    split <;> (try rfl) <;> simp_all <;> omega
set_option maxRecDepth 100000 in
theorem xp_open {r : Reach} {b0 : Nat} {v : Value} {d : DataW H} {p : List MemPlace} (hv : Value.okWide Try.prog w r b0 25 v) (h : DataW.Trod enc Try.prog w 0 (fun _ => true) true 25 v d p) : ∃ F : XP, v = F.val ∧ F.Row w := by
  obtain ⟨v0, v1, v2, y0, y1, y2, n, rfl, _, _, h0, h1, h2⟩ := open_agg3 Try.underlying25 (by kernel_rfl) (by kernel_rfl) hv h
  obtain ⟨A0, c0, l0, rfl, r0⟩ := row_ints h0
  obtain ⟨A1, c1, l1, rfl, r1⟩ := row_ints h1
  obtain ⟨A2, c2, l2, rfl, r2⟩ := row_pairs h2
  exact ⟨⟨A0, c0, l0, A1, c1, l1, A2, c2, l2⟩, rfl, ⟨r0, r1, r2⟩⟩
end
end Go.Proofs.Ytbdmmikflkpmpaa
end

section
namespace Go.Proofs.Ytbdmmikflkpmpaa.panelSits
open Go.ChangeShapes Go.WideShapes Go.ChangeAt Go.RowKit
open Go.ChangeMaps (open_string shut_string)
theorem own : ownKnob Try.prog.godebug = none := by kernel_rfl
theorem laidOut : laidOutB Try.prog = true := by kernel_rfl
set_option maxRecDepth 100000 in
theorem lifted (os : Os) (started : os.Started) (H : Type) (enc : TypeId × Value → H) :
    ReturnsInHanded {} Try.checked os 3 .any (Rows.panelSitsSpec.pre6 enc Try.prog Try.f3 Rows.panelSitsRow.domain false) (Rows.panelSitsSpec.post enc Try.prog Try.f3 false true false false) := by
  refine returnsInHanded_of_change_sized (C := Try.checked) own started (by kernel_rfl) Try.func3
    (ChangeSpec.witness6 (enc := enc) (C := Try.checked) false ⟨#[], #[.agg #[.slice none 0 0, .slice none 0 0, .slice none 0 0], .int .i64 0, .int .i64 0], []⟩ 8 (by kernel_rfl) (by kernel_rfl) (by kernel_rfl) (by kernel_rfl)) ?_
  intro W base args ds gs before hval0 hW hcnd hsz0 _
  have hsz : (DataW.weightsEach Try.prog (Try.f3.params.toList ++ Rows.panelSitsSpec.plain.varTypes Try.prog) (ds ++ gs)).all (· ≤ reachBytes) = true := hsz0
  have hval : ∀ (j : Nat) t v, Try.f3.params[j]? = some t → args[j]? = some v → Value.okWide Try.prog W .any base t v := hval0
  have hW' := hW
  obtain ⟨p, q, hA0, hV, rfl, hfz, hnd⟩ := hW
  have hA : DataW.TrodAll enc Try.prog W 0 (fun _ => true) true Try.f3.params.toList args.toList ds p := hA0
  rw [Try.params3] at hA hval hsz
  obtain ⟨v0, vs0, d0, ds0, p0, q0, hargs, rfl, rfl, h0, r0⟩ := trodAll_cons hA
  obtain ⟨v1, vs1, d1, ds1, p1, q1, rfl, rfl, rfl, h1, r1⟩ := trodAll_cons r0
  obtain ⟨v2, vs2, d2, ds2, p2, q2, rfl, rfl, rfl, h2, r2⟩ := trodAll_cons r1
  obtain ⟨rfl, rfl, rfl⟩ := trodAll_nil r2
  obtain rfl : args = #[v0, v1, v2] := by cases args; simp_all
  obtain ⟨rfl, rfl⟩ := trodVars_none hV
  have k0 := h0
  have lt0 : ∀ x ∈ p0, x.block < W.heap.size := by obtain ⟨m, hm⟩ := k0; exact DataW.trod_lt m _ _ _ hm
  obtain ⟨F0, rfl, hF0⟩ := xp_open (hval 0 25 v0 rfl rfl) h0
  obtain ⟨a1, rfl, rfl, rfl, w1⟩ := open_int Try.underlying3 (hval 1 3 v1 rfl rfl) h1
  obtain ⟨a2, rfl, rfl, rfl, w2⟩ := open_int Try.underlying3 (hval 2 3 v2 rfl rfl) h2
  clear hA0 hval0 hsz0 hsz
  refine (sits_law F0 a1 a2 W hF0).mono fun e W' ⟨he, bel⟩ => ?_
  subst he
  exact ⟨_, rfl, _, _, _, [], _, [], hW', trodAll_mk1 (shut_bool Try.underlying4 _), (trodAll_cons_mk (Below.trod laidOut (by kernel_rfl) (of_decide_eq_true (by kernel_rfl)) k0 bel lt0) (trodAll_cons_mk (shut_int Try.underlying3 w1) (trodAll_cons_mk (shut_int Try.underlying3 w2) trodAll_mk0))), rfl, bel.frame _, fun h => by cases h⟩
theorem over : Rows.panelSitsRow.holds Try.pinned (OpenSpec.ofChange Rows.panelSitsSpec) :=
  OpenClaim.holds_of_wide 3 Try.f3 rfl rfl rfl rfl rfl rfl rfl ⟨rfl, rfl, rfl, rfl, rfl⟩ rfl rfl rfl rfl rfl (by kernel_rfl) Try.func3 (by kernel_rfl)
    (of_decide_eq_true (by kernel_rfl)) (by unfold Func.isWrapper; first | (rw [if_pos (by decide +kernel)]; kernel_rfl) | (rw [if_neg (by decide +kernel)]; exact ⟨rfl, rfl⟩))
    (fun os started H enc _ => lifted os started H enc)
theorem proved : Rows.PanelSitsSaid := over
#print axioms proved
end Go.Proofs.Ytbdmmikflkpmpaa.panelSits
namespace Go.Proofs.Ytbdmmikflkpmpaa
theorem panelSits_holds : Rows.PanelSitsSaid := panelSits.proved
end Go.Proofs.Ytbdmmikflkpmpaa
end
