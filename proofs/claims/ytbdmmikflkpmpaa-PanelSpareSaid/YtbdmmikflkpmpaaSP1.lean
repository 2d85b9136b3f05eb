/- PanelSpare returns true -/
import Derived.Test.YtbdmmikflkpmpaaProg
import Derived.Test.YtbdmmikflkpmpaaNA1
import Derived.Test.YtbdmmikflkpmpaaWV1
import Derived.Test.YtbdmmikflkpmpaaNA3
import Derived.Maps.AppendAt
import Derived.Test.YtbdmmikflkpmpaaNA2
import Derived.WalkKit
import Derived.WalkSpells
import Derived.WalkLawsBesides
import Derived.Outline
import Derived.OwnWalkIn
import Derived.TacticsInMore
import Derived.LoopNIn
import Derived.LoopIn
import Derived.Shelf.RegionOpen
import Derived.Deep.QuietTactic
import Derived.BigQuiet
import Derived.Lib.Hide
import Derived.Test.YtbdmmikflkpmpaaRows
import Derived.ProofKit
import Derived.OpenShut
import Derived.ShutString
import Derived.ChangeOld
import Derived.Below
import Derived.SizedLaws
section
set_option linter.unusedVariables false
set_option linter.unusedSimpArgs false
namespace Go.Proofs.Ytbdmmikflkpmpaa
open Go.RowKit Go.TL Go.Shelf Go.Pn
attribute [local go_sem] Oper.semAt_some
attribute [local go_sem] run_store_func
def lbAt (a : XP) (m : Nat) (but : Int) (i : Nat) : Nat := if (i : Int) = but then 0 else min (a.s3.1.getD i 0) m
def lbTo (a : XP) (m : Nat) (but : Int) (k : Nat) : List Nat := (List.range a.L.length).map fun i => if i < k then lbAt a m but i else 0
theorem lbTo_len (a : XP) (m : Nat) (but : Int) (k : Nat) : (lbTo a m but k).length = a.L.length := by simp [lbTo]
theorem lbTo_get {a : XP} {m : Nat} {but : Int} {k i : Nat} (hi : i < a.L.length) : (lbTo a m but k)[i]? = some (if i < k then lbAt a m but i else 0) := by
  unfold lbTo
  rw [List.getElem?_map, List.getElem?_range hi]
  rfl
theorem lbTo_zero (a : XP) (m : Nat) (but : Int) : ((lbTo a m but 0).map iv).toArray = zeroI a.L.length := by
  have h1 : lbTo a m but 0 = List.replicate a.L.length 0 := by
    refine List.ext_getElem? fun i => ?_
    by_cases hi : i < a.L.length
    · rw [lbTo_get hi, if_neg (by omega), List.getElem?_replicate, if_pos hi]
    · rw [List.getElem?_eq_none (by rw [lbTo_len]; omega), List.getElem?_eq_none (by simp; omega)]
  apply Array.ext'
  have h2 : (zeroI a.L.length).toList = List.replicate a.L.length (iv 0) := toList_madeCells_one _ _
  rw [h2, h1]
  simp
theorem lbTo_succ {a : XP} {m : Nat} {but : Int} {k : Nat} (hk : k < a.L.length) : lbTo a m but (k + 1) = (lbTo a m but k).set k (lbAt a m but k) := by
  refine List.ext_getElem? fun i => ?_
  by_cases hi : i < a.L.length
  · rw [lbTo_get hi, List.getElem?_set, lbTo_len]
    by_cases e : k = i
    · subst e
      rw [if_pos (by omega), if_pos rfl, if_pos hk]
    · rw [if_neg e, lbTo_get hi]
      by_cases h : i < k
      · rw [if_pos (by omega), if_pos h]
      · rw [if_neg (by omega), if_neg h]
  · rw [List.getElem?_eq_none (by rw [lbTo_len]; omega), List.getElem?_eq_none (by rw [List.length_set, lbTo_len]; omega)]
def lbL (a : XP) (m : Nat) (but : Int) : List Nat := lbTo a m but a.L.length
/-- The panels with these loads. -/
def XP.bound (a : XP) (g m : Nat) (but : Int) : XP := { a with AL := some ⟨g, 0, none⟩, cL := a.L.length, L := (lbL a m but).map fun n : Nat => (n : Int) }
theorem XP.bound_s3 (a : XP) (g m : Nat) (but : Int) : (a.bound g m but).s3 = (lbL a m but, a.s3.2.1, a.s3.2.2) := by
  show (_, _, _) = (_, _, _)
  congr 1
  show ((lbL a m but).map _).map _ = _
  rw [List.map_map]
  conv => rhs; rw [← List.map_id (lbL a m but)]
  exact List.map_congr_left fun n _ => Int.toNat_natCast n
theorem lbL_le {a : XP} (hf : a.Fine) {m : Nat} {but : Int} : ∀ n ∈ lbL a m but, n ≤ 6 := by
  intro n hn
  obtain ⟨i, hi, rfl⟩ := List.mem_map.1 hn
  have hil := List.mem_range.1 hi
  rw [if_pos hil]
  unfold lbAt
  split
  · omega
  · have hl : i < a.s3.1.length := by simpa [XP.s3] using hil
    obtain ⟨y, hy, e⟩ := List.mem_map.1 (show a.s3.1.getD i 0 ∈ a.L.map Int.toNat from mem_getD hl)
    have := hf.lb y hy
    omega
theorem XP.bound_fine {a : XP} (hf : a.Fine) (g m : Nat) (but : Int) : (a.bound g m but).Fine := by
  have hlen : (lbL a m but).length = a.L.length := lbTo_len _ _ _ _
  refine ⟨by show ((lbL a m but).map _).length ≤ 6; rw [List.length_map, hlen]; exact hf.j, hf.p, hf.k, ?_, hf.nb, ?_⟩
  · intro y hy
    obtain ⟨n, hn, rfl⟩ := List.mem_map.1 hy
    have := lbL_le hf n hn
    omega
  · intro y hy
    have := hf.kb y hy
    show (_ ∧ y.1 < (((lbL a m but).map _).length : Int)) ∧ _
    rw [List.length_map, hlen]
    exact this
def I47 (w : World) (a : XP) (b m g : Nat) (but : Int) (n : Nat) (t : Array Value) (W : World) : Prop :=
  ∃ k : Nat, k ≤ a.L.length ∧ n = a.L.length - k ∧ Below w.heap.size w W ∧ W.heap[w.heap.size]? = some (.cells #[.slice (some ⟨g, 0, none⟩) a.L.length a.L.length, a.sN, a.sK] 25 (0, 0)) ∧ W.heap[g]? = some (.cells ((lbTo a m but k).map iv).toArray 3 (0, 0)) ∧ Slots (some (vi m) :: some (vi but) :: some (.pointer (some ⟨b, 0, none⟩)) :: none :: none :: none :: some (.pointer (some ⟨w.heap.size, 0, none⟩)) :: none :: none :: none :: o4 (o4 (some (.slice a.AL a.L.length a.cL) :: some (iv a.L.length) :: some (iv k) :: none :: none :: none :: o4 (o16 [])))) t
set_option maxRecDepth 100000 in
set_option maxHeartbeats 2000000 in
theorem with47 (a : XP) (hf : a.Fine) (m : Nat) (hm : m ≤ 1000) (but : Int) (b : Nat) (w : World) (hb : PBx w b a) : Calls Try.prog 47 #[vi m, vi but, .pointer (some ⟨b, 0, none⟩)] w fun e w' => e = .returned (.bool (canV (toP (lbL a m but, a.s3.2.1, a.s3.2.2)))) ∧ Below w.heap.size w w' := by
  have hu25 := Try.underlying25
  have hu22 := Try.underlying22
  have hj6 := hf.j
  obtain ⟨R, hR⟩ : ∃ R, canV (toP (lbL a m but, a.s3.2.1, a.s3.2.2)) = R := ⟨_, rfl⟩
  rw [hR]
  have HR := Lib.hid hR
  clear hR
  refine calls_of_exec Try.func47 rfl ?_
  simp only [Try.ntmps47, List.size_toArray, List.length_cons, List.length_nil, Nat.reduceAdd, Nat.reduceSub, Array.replicate_succ, Array.replicate_zero, List.push_toArray, List.append_toArray, List.nil_append, List.cons_append]
  refine exec_seq (exec_region_o fun ds => ?_)
  gi_wp2
  refine eq_mk (Keep.refl w) ?_
  show Exec _ _ (Code.seq _ _) _ _ _
  have hh := hb.heap
  simp only [XP.sL, XP.sN, XP.sK] at hh
  have c0 := cells_get (cs := [_, _, _]) (k := 0) hh rfl
  have c1 := cells_get (cs := [_, _, _]) (k := 1) hh rfl
  have c2 := cells_get (cs := [_, _, _]) (k := 2) hh rfl
  clear hh
  refine exec_seq (exec_region_o fun ds => ?_)
  gi_wp2
  refine eq_mk ((Keep.refl _).alloc _) ?_
  show Exec _ _ (Code.seq _ _) _ (w.alloc (.cells #[a.sL, a.sN, a.sK] 25)) _
  have hB := (Below.refl w.heap.size w).alloc (Nat.le_refl _) (.cells #[a.sL, a.sN, a.sK] 25)
  have b6 : (w.alloc (.cells #[a.sL, a.sN, a.sK] 25)).heap[w.heap.size]? = some (.cells #[a.sL, a.sN, a.sK] 25 (0, 0)) := World.alloc_heap_new _ _
  have hbX := hb.keep hB
  clear c0 c1 c2
  generalize w.alloc (.cells #[a.sL, a.sN, a.sK] 25) = X at *
  have hmk := run_make22 a.L.length (by omega) X
  have hh := hbX.heap
  simp only [XP.sL] at hh
  have c0 := cells_get (cs := [_, _, _]) (k := 0) hh rfl
  have hb6 := b6
  simp only [XP.sL, XP.sN, XP.sK] at hb6
  have hnx := heap_next hb6 (.cells (zeroI a.L.length) 3)
  have d0 := cells_get (cs := [_, _, _]) (k := 0) hnx rfl
  have df : (X.alloc (.cells (zeroI a.L.length) 3)).frozen? ⟨w.heap.size, 0, none⟩ = false := frozen_cells hnx
  have hzz : (X.alloc (.cells (zeroI a.L.length) 3)).heap[X.heap.size]? = some (.cells (zeroI a.L.length) 3 (0, 0)) := World.alloc_heap_new _ _
  refine exec_seq (exec_region_o fun ds => ?_)
  gi_wp2
  refine eq_mk (((Keep.refl _).alloc _).setCell _ _) ?_
  show Exec _ _ (Code.seq (Code.seq _ _) _) _ _ _
  clear c0 d0 df hh hb6 hmk
  have hlt6 := heap_lt b6
  have hltb := heap_lt hb.heap
  have e6 : ((X.alloc (.cells (zeroI a.L.length) 3)).setCell ⟨w.heap.size, 0, none⟩ (.slice (some ⟨X.heap.size, 0, none⟩) a.L.length a.L.length)).heap[w.heap.size]? = some (.cells #[.slice (some ⟨X.heap.size, 0, none⟩) a.L.length a.L.length, a.sN, a.sK] 25 (0, 0)) := box_set _ _ 0 [_, _, _] 25 _ hnx
  have eg : ((X.alloc (.cells (zeroI a.L.length) 3)).setCell ⟨w.heap.size, 0, none⟩ (.slice (some ⟨X.heap.size, 0, none⟩) a.L.length a.L.length)).heap[X.heap.size]? = some (.cells ((lbTo a m but 0).map iv).toArray 3 (0, 0)) := by
    rw [lbTo_zero]
    exact box_far _ _ _ _ _ _ hzz (by omega)
  have hBY : Below w.heap.size w ((X.alloc (.cells (zeroI a.L.length) 3)).setCell ⟨w.heap.size, 0, none⟩ (.slice (some ⟨X.heap.size, 0, none⟩) a.L.length a.L.length)) := (hB.alloc hB.size _).setCell (Nat.le_refl _) _
  clear hnx hzz b6 hbX hB
  generalize (X.alloc (.cells (zeroI a.L.length) 3)).setCell ⟨w.heap.size, 0, none⟩ (.slice (some ⟨X.heap.size, 0, none⟩) a.L.length a.L.length) = Y at *
  generalize X.heap.size = g at *
  clear X
  have hbY : PBx Y b a := ⟨(hBY.block _ hltb).trans hb.heap, hb.at_.below hBY⟩
  have hh := hbY.heap
  simp only [XP.sL] at hh
  have c0 := cells_get (cs := [_, _, _]) (k := 0) hh rfl
  clear hh
  refine exec_seq (exec_seq (exec_region_o fun ds => ?_))
  gi_wp2
  refine eq_mk (Keep.refl _) ?_
  show Exec _ _ (Code.block _ _) _ _ _
  refine exec_block ?_
  refine exec_loop (I47 w a b m g but) a.L.length ⟨0, by omega, rfl, hBY, e6, eg, by simp [Slots, Fits]⟩ ?_
  clear hBY e6 eg hbY c0
  clear Y
  rintro n t W ⟨k, hk, hn, hV, h6, hg, hSl⟩
  have HN := Lib.hid hn
  clear hn
  obtain ⟨x, hx⟩ := Slots.open_ hSl; simp only [fill, Nat.reduceAdd] at hx; subst hx; clear hSl
  show Exec _ _ (Code.seq _ (Code.seq _ _)) _ _ _
  refine exec_seq (exec_region_o fun ds => ?_)
  gi_wp2
  refine eq_mk (Keep.refl _) ?_
  show Exec _ _ (Code.seq (Code.cond _ _ _) _) _ _ _
  refine exec_seq (exec_cond (b := decide (k < a.L.length)) (by first | rfl | (show Value.bool _ = _; congr 1; exact decide_eq_decide.2 (by omega))) (fun hp => exec_skip ?_) (fun hp => exec_exit ?_))
  · have hkl : k < a.L.length := by have := of_decide_eq_true hp; omega
    obtain ⟨ad, hA, hcl⟩ := row_int (hb.at_.below hV).l hkl
    have hyb := hf.lb _ (List.getElem_mem hkl)
    obtain ⟨y, hy⟩ : ∃ y : Nat, a.L[k] = y := ⟨(a.L[k]).toNat, by omega⟩
    have hsy : a.s3.1.getD k 0 = y := by
      show (a.L.map Int.toNat).getD k 0 = y
      rw [List.getD_eq_getElem?_getD, List.getElem?_map, List.getElem?_eq_getElem hkl]
      simp [hy]
    rw [hy] at hcl hyb
    have hkI : (k : Int) < a.L.length := by omega
    have hsucc := lbTo_succ (a := a) (m := m) (but := but) hkl
    have hget := lbTo_get (a := a) (m := m) (but := but) (k := k) hkl
    rw [if_neg (by omega)] at hget
    have hat : lbAt a m but k = if (k : Int) = but then 0 else min y m := by unfold lbAt; rw [hsy]
    have HS := Lib.hid hsucc
    have HA := Lib.hid hat
    clear hsucc hat hy hsy
    simp only [hA]
    have HAd := Lib.hid hA
    clear hA
    refine exec_cut (fun t' Y => Below w.heap.size w Y ∧ Y.heap[w.heap.size]? = some (.cells #[.slice (some ⟨g, 0, none⟩) a.L.length a.L.length, a.sN, a.sK] 25 (0, 0)) ∧ Y.heap[g]? = some (.cells ((lbTo a m but (k + 1)).map iv).toArray 3 (0, 0)) ∧ Slots (some (vi m) :: some (vi but) :: some (.pointer (some ⟨b, 0, none⟩)) :: none :: none :: none :: some (.pointer (some ⟨w.heap.size, 0, none⟩)) :: none :: none :: none :: o4 (o4 (some (.slice a.AL a.L.length a.cL) :: some (iv a.L.length) :: some (iv k) :: none :: none :: none :: o4 (o16 [])))) t') (exec_block ?_) ?_
    · show Exec _ _ (Code.seq _ (Code.seq _ _)) _ _ _
      refine exec_seq (exec_region_o fun ds => ?_)
      gi_wp2
      refine eq_mk (Keep.refl _) ?_
      show Exec _ _ (Code.seq _ _) _ _ _
      refine exec_seq (exec_region_o fun ds => ?_)
      gi_wp2
      refine eq_mk (Keep.refl _) ?_
      show Exec _ _ (Code.cond _ _ _) _ _ _
      by_cases hkb : (k : Int) = but
      · refine exec_cond (b := false) (by show Value.bool (_ != _) = _; simp [hkb]) (fun h => by cases h) (fun _ => exec_skip ?_)
        refine ⟨hV, h6, ?_, by simp [Slots, Fits, HAd.out]⟩
        rw [HS.out, HA.out, if_pos hkb]
        have : (lbTo a m but k).set k 0 = lbTo a m but k := by
          refine List.ext_getElem? fun i => ?_
          rw [List.getElem?_set]
          split
          · rename_i e
            subst e
            rw [hget, if_pos (by rw [lbTo_len]; exact hkl)]
          · rfl
        rw [this]
        exact hg
      · refine exec_cond (b := true) (by show Value.bool (_ != _) = _; simp [hkb]) (fun _ => ?_) (fun h => by cases h)
        have d0 := cells_get (cs := [_, _, _]) (k := 0) h6 rfl
        have ck : W.cell? ⟨g, k, none⟩ = some (iv 0) := cells_get (cs := (lbTo a m but k).map iv) hg (by rw [List.getElem?_map, hget]; rfl)
        have cf : W.frozen? ⟨g, k, none⟩ = false := frozen_cells hg
        have hgw : w.heap.size ≠ g := by omega
        have hgge : w.heap.size ≤ g := by omega
        have hfin : ∀ (z : Int) (t' : Array Value), z = ((min y m : Nat) : Int) → Slots (some (vi m) :: some (vi but) :: some (.pointer (some ⟨b, 0, none⟩)) :: none :: none :: none :: some (.pointer (some ⟨w.heap.size, 0, none⟩)) :: none :: none :: none :: o4 (o4 (some (.slice a.AL a.L.length a.cL) :: some (iv a.L.length) :: some (iv k) :: none :: none :: none :: o4 (o16 [])))) t' → Below w.heap.size w (W.setCell ⟨g, k, none⟩ (.int .i64 z)) ∧ (W.setCell ⟨g, k, none⟩ (.int .i64 z)).heap[w.heap.size]? = some (.cells #[.slice (some ⟨g, 0, none⟩) a.L.length a.L.length, a.sN, a.sK] 25 (0, 0)) ∧ (W.setCell ⟨g, k, none⟩ (.int .i64 z)).heap[g]? = some (.cells ((lbTo a m but (k + 1)).map iv).toArray 3 (0, 0)) ∧ Slots (some (vi m) :: some (vi but) :: some (.pointer (some ⟨b, 0, none⟩)) :: none :: none :: none :: some (.pointer (some ⟨w.heap.size, 0, none⟩)) :: none :: none :: none :: o4 (o4 (some (.slice a.AL a.L.length a.cL) :: some (iv a.L.length) :: some (iv k) :: none :: none :: none :: o4 (o16 [])))) t' := fun z t' hz hS => by
          subst hz
          refine ⟨hV.setCell hgge _, box_far _ _ _ _ _ _ h6 hgw, ?_, hS⟩
          rw [HS.out, HA.out, if_neg hkb, ← map_set]
          exact box_set W g k _ 3 _ hg
        have HF := Lib.hid hfin
        clear hfin
        refine exec_region_o fun ds => ?_
        gi_wp2
        all_goals exact eq_mk ((Keep.refl _).setCell _ _) (HF.out _ _ (by omega) (by simp [Slots, Fits, HAd.out]))
    · clear hV h6 hg hcl x
      clear W
      rintro t' Y ⟨hV, h6, hg, hSl⟩
      obtain ⟨x, hx⟩ := Slots.open_ hSl; simp only [fill, Nat.reduceAdd] at hx; subst hx; clear hSl
      have hw : IntKind.i64.wrap ((k : Int) + 1) = ((k + 1 : Nat) : Int) := by rw [IntWalk.i64_in _ (by omega)]; norm_cast
      refine exec_region_o fun ds => ?_
      gi_wp2
      exact eq_mk (Keep.refl _) ⟨n - 1, by rw [HN.out]; omega, k + 1, by omega, by rw [HN.out]; omega, hV, h6, hg, by simp only [Slots, Fits, and_self]; simp [HAd.out]⟩
  · have hkl : k = a.L.length := by have := of_decide_eq_false hp; omega
    rw [hkl] at hg
    change W.heap[g]? = some (.cells ((lbL a m but).map iv).toArray 3 (0, 0)) at hg
    have hlen : (lbL a m but).length = a.L.length := lbTo_len _ _ _ _
    have hat0 := hb.at_.below hV
    have hyA : (a.bound g m but).At W := by
      refine ⟨?_, hat0.n, hat0.k, by show ((lbL a m but).map _).length ≤ 40; rw [List.length_map, hlen]; omega, hat0.n4, hat0.k4⟩
      show RowV W (some ⟨g, 0, none⟩) (((lbL a m but).map fun n : Nat => (n : Int)).map vi)
      rw [List.map_map]
      exact row_of_cells hg
    have hyf := XP.bound_fine hf g m but
    have hys := XP.bound_s3 a g m but
    have hyv : (a.bound g m but).val = .agg #[.slice (some ⟨g, 0, none⟩) a.L.length a.L.length, a.sN, a.sK] := by
      simp [XP.val, XP.sL, XP.sN, XP.sK, XP.bound, hlen]
    have hres : (sitA (a.bound g m but)).2 = if R then 0 else 4 := by
      unfold sitA
      rw [isP_of_fine hyf, if_pos rfl, hys, HR.out]
      cases R <;> rfl
    have hsit := Sit_any _ W hyA
    rw [hyv, hres] at hsit
    generalize (sitA (a.bound g m but)).1 = sl at *
    clear hyA hyf hys hyv hres
    have d0 := cells_get (cs := [_, _, _]) (k := 0) h6 rfl
    have d1 := cells_get (cs := [_, _, _]) (k := 1) h6 rfl
    have d2 := cells_get (cs := [_, _, _]) (k := 2) h6 rfl
    show Exec _ _ (Code.seq _ (Code.seq _ _)) _ _ _
    refine exec_seq (exec_region_o fun ds => ?_)
    gi_wp2_with fail
    refine ⟨trivial, rfl, (callsIn_wide.2 hsit).mono ?_⟩
    rintro e Y ⟨A2, c2', rfl, hr, hy⟩
    have hxy := hV.trans (hy.mono hV.size)
    have hKY := Keep.of_below hy
    clear hr hy d0 d1 d2 hsit
    cases R with
    | true =>
      simp only [if_true]
      gi_wp2
      refine eq_mk hKY ?_
      show Exec _ _ (Code.seq _ _) _ _ _
      refine exec_seq (exec_region_o fun ds => ?_)
      gi_wp2
      refine eq_mk (Keep.refl _) ?_
      exact exec_ret ⟨.inr rfl, fun W' hG => ⟨.bool true, by simp [results, Try.f47, go_sem], rfl, hxy.trans (hG.below (Nat.le_refl _) hxy.size)⟩⟩
    | false =>
      simp only [Bool.false_eq_true, if_false]
      gi_wp2
      refine eq_mk hKY ?_
      show Exec _ _ (Code.seq _ _) _ _ _
      refine exec_seq (exec_region_o fun ds => ?_)
      gi_wp2
      refine eq_mk (Keep.refl _) ?_
      exact exec_ret ⟨.inr rfl, fun W' hG => ⟨.bool false, by simp [results, Try.f47, go_sem], rfl, hxy.trans (hG.below (Nat.le_refl _) hxy.size)⟩⟩
end Go.Proofs.Ytbdmmikflkpmpaa
end

section
set_option linter.unusedVariables false
set_option linter.unusedSimpArgs false
namespace Go.Proofs.Ytbdmmikflkpmpaa
open Go.RowKit Go.TL Go.Shelf Go.Pn
attribute [local go_sem] Oper.semAt_some
attribute [local go_sem] run_store_func
theorem lbL_get {a : XP} {m : Nat} {but : Int} {i : Nat} (hi : i < a.L.length) : (lbL a m but)[i]? = some (lbAt a m but i) := by
  unfold lbL
  rw [lbTo_get hi, if_pos hi]
theorem s3_len (a : XP) : a.s3.1.length = a.L.length := by simp [XP.s3]
theorem s3_le {a : XP} (hf : a.Fine) {i : Nat} (hi : i < a.L.length) : a.s3.1.getD i 0 ≤ 6 := by
  have hl : i < a.s3.1.length := by rw [s3_len]; exact hi
  obtain ⟨y, hy, e⟩ := List.mem_map.1 (show a.s3.1.getD i 0 ∈ a.L.map Int.toNat from mem_getD hl)
  have := hf.lb y hy
  omega
theorem lbL_spare {a : XP} (hf : a.Fine) {j : Nat} (hj : j < a.L.length) : lbL a 6 (j : Int) = a.s3.1.set j 0 := by
  refine List.ext_getElem? fun i => ?_
  by_cases hi : i < a.L.length
  · rw [lbL_get hi, List.getElem?_set, s3_len]
    unfold lbAt
    by_cases e : j = i
    · subst e
      rw [if_pos rfl, if_pos rfl, if_pos hj]
    · rw [if_neg (by omega), if_neg e, List.getElem?_eq_getElem (by rw [s3_len]; exact hi), ← getD_lt (by rw [s3_len]; exact hi)]
      have := s3_le hf hi
      congr 1
      omega
  · rw [List.getElem?_eq_none (by unfold lbL; rw [lbTo_len]; omega), List.getElem?_eq_none (by rw [List.length_set, s3_len]; omega)]
theorem lbL_most {a : XP} {m : Nat} : lbL a m (-1) = a.s3.1.map (min m) := by
  refine List.ext_getElem? fun i => ?_
  by_cases hi : i < a.L.length
  · rw [lbL_get hi, List.getElem?_map, List.getElem?_eq_getElem (by rw [s3_len]; exact hi), ← getD_lt (by rw [s3_len]; exact hi)]
    unfold lbAt
    rw [if_neg (by omega)]
    show some (min _ _) = some (min _ _)
    congr 1
    omega
  · rw [List.getElem?_eq_none (by unfold lbL; rw [lbTo_len]; omega), List.getElem?_eq_none (by rw [List.length_map, s3_len]; omega)]
structure SpFacts (a : XP) (s b : Nat) : Prop where
  lt : s < 2 ^ a.L.length
  bit : ∀ j, j < a.L.length → s.testBit j = canV (toP (lbL a 6 (j : Int), a.s3.2.1, a.s3.2.2))
  b6 : b ≤ 6
  yes : canV (toP (lbL a b (-1), a.s3.2.1, a.s3.2.2)) = true
  no : 0 < b → canV (toP (lbL a (b - 1) (-1), a.s3.2.1, a.s3.2.2)) = false
  sum : allN (toP a.s3) ≤ b * a.L.length
  zero : b = 0 ↔ allN (toP a.s3) = 0
  pair : ∀ j i, j < a.L.length → i < a.N.length → s.testBit j = true → pairV (toP a.s3) i j ≠ 2
theorem sum_min {P : Pnl} {b : Nat} {a : Asg} (h : Seating P a) (hb : ∀ j, j < P.loads.length → P.loads.getD j 0 ≤ b) : allN P ≤ b * P.loads.length := by
  have h1 : allN P = sumN (fun p => sumN (fun j => b1 (a p j)) P.loads.length) P.needs.length := sumN_congr _ fun p hp => (h.eq p hp).symm
  rw [h1, sumN_swap]
  have h2 : ∀ n, n ≤ P.loads.length → sumN (fun j => sumN (fun i => b1 (a i j)) P.needs.length) n ≤ b * n := by
    intro n
    induction n with
    | zero => intro _; exact Nat.zero_le _
    | succ n ih =>
      intro hn
      have := ih (by omega)
      have h3 := h.feas.load n (by omega)
      have h4 := hb n (by omega)
      show sumN _ n + sumN (fun i => b1 (a i n)) P.needs.length ≤ b * (n + 1)
      have h5 : sumN (fun i => b1 (a i n)) P.needs.length ≤ b := Nat.le_trans h3 h4
      rw [Nat.mul_succ]
      omega
  exact h2 _ (Nat.le_refl _)
theorem spare_pair {a : XP} (hf : a.Fine) {j i : Nat} (hj : j < a.L.length) (hi : i < a.N.length) (h : canV (toP (a.s3.loaded j 0)) = true) : canV (pairP1 (toP a.s3) i j) = true := by
  have hg := XP.good hf
  have f0 := toP_Fit hg
  have f1 := toP_Fit (s3_loaded hg j 0 (by omega))
  have hj6 := hf.j
  obtain ⟨g, hs⟩ := (can_is f1.ok).1 h
  have hok : (pairP1 (toP a.s3) i j).Ok := ⟨f0.ok.j, f0.ok.p⟩
  have hll : (a.s3.1.set j 0).length = a.s3.1.length := List.length_set
  have hnone : ∀ p, p < a.s3.2.1.length → g p j = false := fun p hp => by
    have := hs.feas.load j (by show j < (a.s3.1.set j 0).length; rw [hll, s3_len]; exact hj)
    have h0 : (toP (a.s3.loaded j 0)).loads.getD j 0 = 0 := by
      show (a.s3.1.set j 0).getD j 0 = 0
      rw [List.getD_eq_getElem?_getD, List.getElem?_set]
      simp
      split <;> rfl
    rw [h0] at this
    have h1 := sumN_mem (f := fun p => b1 (g p j)) (n := a.s3.2.1.length) hp
    have h2 : sumN (fun p => b1 (g p j)) a.s3.2.1.length ≤ 0 := this
    cases hb : g p j with
    | false => rfl
    | true =>
      have h3 : b1 (g p j) ≤ sumN (fun p => b1 (g p j)) a.s3.2.1.length := h1
      rw [hb] at h3
      have h4 : b1 true = 1 := rfl
      omega
  refine (can_is hok).2 ⟨g, ⟨⟨fun p q hp hq hgq => ?_, fun q hq => ?_⟩, fun p hp => ?_⟩⟩
  · have hfit := hs.feas.fit p q hp (by show q < (a.s3.1.set j 0).length; rw [hll]; exact hq) hgq
    have hfit' : ((toP a.s3).fit.getD p 0).testBit q = true := by
      have : (toP (a.s3.loaded j 0)).fit = (toP a.s3).fit := by
        show kinF (List.replicate a.s3.2.1.length (2 ^ (a.s3.1.set j 0).length - 1)) a.s3.2.2 = _
        rw [hll]
        rfl
      rw [← this]
      exact hfit
    show (((toP a.s3).fit.set i (clrB ((toP a.s3).fit.getD i 0) j)).getD p 0).testBit q = true
    rw [getD_set]
    split
    · rename_i hc
      obtain ⟨e, _⟩ := hc
      subst e
      rw [clrB_bit _ _ _ (f0.lt _) (by omega), hfit', Bool.true_and]
      have : j ≠ q := fun e => by
        subst e
        rw [hnone i hp] at hgq
        cases hgq
      simp [this]
    · exact hfit'
  · have := hs.feas.load q (by show q < (a.s3.1.set j 0).length; rw [hll]; exact hq)
    refine Nat.le_trans this ?_
    show (a.s3.1.set j 0).getD q 0 ≤ a.s3.1.getD q 0
    rw [getD_set]
    split
    · omega
    · exact Nat.le_refl _
  · have := hs.eq p hp
    have hl2 : (toP (a.s3.loaded j 0)).loads.length = (pairP1 (toP a.s3) i j).loads.length := hll
    rw [hl2] at this
    exact this
theorem spare_facts {a : XP} (hf : a.Fine) (h : canV (toP a.s3) = true) : SpFacts a (spareF a.s3 a.L.length) (busyF a.s3) := by
  have hbit : ∀ j, j < a.L.length → (spareF a.s3 a.L.length).testBit j = canV (toP (lbL a 6 (j : Int), a.s3.2.1, a.s3.2.2)) := fun j hj => by
    unfold spareF
    rw [mkS_bit, decide_eq_true hj, Bool.true_and, lbL_spare hf hj]
    rfl
  obtain ⟨b, hb, hb6⟩ : ∃ b, (List.range 7).find? (fun n => canV (toP (a.s3.atMost n))) = some b ∧ busyF a.s3 = b := by
    cases hfd : (List.range 7).find? (fun n => canV (toP (a.s3.atMost n))) with
    | none =>
      have := List.find?_eq_none.1 hfd 6 (by simp)
      rw [atMost_six hf, h] at this
      simp at this
    | some b => exact ⟨b, rfl, by unfold busyF; rw [hfd]; rfl⟩
  rw [hb6]
  obtain ⟨r1, r2, r3⟩ := range_find hb
  have hg := XP.good hf
  have fb := toP_Fit (s3_atMost hg b)
  obtain ⟨g, hs⟩ := (can_is fb.ok).1 r2
  have hsum : allN (toP a.s3) ≤ b * a.L.length := by
    have := sum_min hs (b := b) (fun j hj => by
      show (a.s3.1.map (min b)).getD j 0 ≤ b
      rw [List.getD_eq_getElem?_getD, List.getElem?_map]
      cases a.s3.1[j]? with
      | none => exact Nat.zero_le _
      | some y => exact Nat.min_le_left _ _)
    have e : (toP (a.s3.atMost b)).loads.length = a.L.length := by
      show (a.s3.1.map (min b)).length = _
      rw [List.length_map, s3_len]
    rw [e] at this
    exact this
  refine ⟨mkS_lt _ _, hbit, by omega, by rw [lbL_most]; exact r2, fun h0 => by rw [lbL_most]; exact r3 (b - 1) (by omega), hsum, ⟨fun e => by subst e; omega, fun e => ?_⟩, fun j i hj hi hsj => ?_⟩
  · apply Classical.byContradiction
    intro c
    have hno := r3 0 (by omega)
    have f0 := toP_Fit (s3_atMost hg 0)
    have : canV (toP (a.s3.atMost 0)) = true := by
      refine (can_is f0.ok).2 ⟨fun _ _ => false, ⟨⟨fun _ _ _ _ h => (by cases h), fun j _ => ?_⟩, fun p hp => ?_⟩⟩
      · have : cntP (fun _ _ => false) (toP (a.s3.atMost 0)).needs.length j = 0 := sumN_zero _
        omega
      · have h1 : cntJ (fun _ _ => false) (toP (a.s3.atMost 0)).loads.length p = 0 := sumN_zero _
        have h2 := sumN_mem (f := fun p => (toP a.s3).needs.getD p 0) (n := (toP a.s3).needs.length) (i := p) hp
        have h3 : sumN (fun p => (toP a.s3).needs.getD p 0) (toP a.s3).needs.length = 0 := e
        rw [h1]
        show 0 = (toP a.s3).needs.getD p 0
        omega
    rw [this] at hno
    cases hno
  · have hc := hbit j hj
    rw [hsj, lbL_spare hf hj] at hc
    have := spare_pair hf hj hi hc.symm
    unfold pairV
    rw [this]
    simp only [Bool.not_true, Bool.false_eq_true, if_false]
    split <;> omega
end Go.Proofs.Ytbdmmikflkpmpaa
end

section
set_option linter.unusedVariables false
set_option linter.unusedSimpArgs false
namespace Go.Proofs.Ytbdmmikflkpmpaa
open Go.RowKit Go.TL Go.Shelf Go.Pn
attribute [local go_sem] Oper.semAt_some
attribute [local go_sem] run_store_func
noncomputable abbrev pcode11 : Code := Try.f11.body.getD .skip
def needTo (a : XP) (k : Nat) : Nat := sumN (fun p => (toP a.s3).needs.getD p 0) k
theorem needTo_le {a : XP} (hf : a.Fine) : ∀ k, k ≤ a.N.length → needTo a k ≤ 3 * k
  | 0, _ => Nat.le_refl _
  | k + 1, h => by
    have := needTo_le hf k (by omega)
    have hl : k < a.s3.2.1.length := by simp [XP.s3]; omega
    obtain ⟨y, hy, e⟩ := List.mem_map.1 (show a.s3.2.1.getD k 0 ∈ a.N.map Int.toNat from mem_getD hl)
    have hb := hf.nb y hy
    have h1 : needTo a (k + 1) = needTo a k + a.s3.2.1.getD k 0 := rfl
    omega
theorem need_row_at {a : XP} (hf : a.Fine) {W : World} (ha : a.At W) {k : Nat} (hk : k < a.N.length) : ∃ ad, a.AN = some ad ∧ W.cell? (ad.add k) = some (iv ((toP a.s3).needs.getD k 0)) := by
  obtain ⟨ad, hA, hc⟩ := row_int ha.n hk
  refine ⟨ad, hA, ?_⟩
  rw [hc]
  have hb := hf.nb _ (List.getElem_mem hk)
  have e : (toP a.s3).needs.getD k 0 = (a.N[k]).toNat := by
    show (a.N.map Int.toNat).getD k 0 = _
    rw [List.getD_eq_getElem?_getD, List.getElem?_map, List.getElem?_eq_getElem hk]
    rfl
  rw [e]
  show some (Value.int .i64 _) = some (Value.int .i64 _)
  rw [Int.toNat_of_nonneg hb.1]
def SmI11 (w : World) (a : XP) (s bb : Nat) (n : Nat) (t : Array Value) (W : World) : Prop :=
  ∃ k : Nat, k ≤ a.N.length ∧ n = a.N.length - k ∧ PBx W w.heap.size a ∧ Below w.heap.size w W ∧ Slots (none :: some (.pointer (some ⟨w.heap.size, 0, none⟩)) :: some (.bool false) :: some (iv s) :: none :: some (iv bb) :: none :: none :: none :: some (.func (.func 47) #[] #[.pointer (some ⟨w.heap.size, 0, none⟩)]) :: some (iv (needTo a k)) :: none :: none :: o16 (o64 (some (.slice a.AN a.N.length a.cN) :: some (iv a.N.length) :: some (iv k) :: none :: o4 (o16 (o16 (o64 [])))))) t
def SpE11 (w : World) (a : XP) (s bb : Nat) (t : Array Value) (W : World) : Prop :=
  PBx W w.heap.size a ∧ Below w.heap.size w W ∧ Slots (none :: some (.pointer (some ⟨w.heap.size, 0, none⟩)) :: some (.bool false) :: some (iv s) :: none :: some (iv bb) :: none :: none :: none :: some (.func (.func 47) #[] #[.pointer (some ⟨w.heap.size, 0, none⟩)]) :: some (iv (needTo a a.N.length)) :: none :: none :: o4 (o4 (o16 (o16 (o16 (o64 (o64 []))))))) t
set_option maxRecDepth 100000 in
set_option maxHeartbeats 2000000 in
theorem sp_sum {w : World} {a : XP} {s bb : Nat} (hf : a.Fine) {W : World} (hX : PBx W w.heap.size a) (hB : Below w.heap.size w W) {t : Array Value} (hSl : Slots (none :: some (.pointer (some ⟨w.heap.size, 0, none⟩)) :: some (.bool false) :: some (iv s) :: none :: some (iv bb) :: none :: none :: none :: some (.func (.func 47) #[] #[.pointer (some ⟨w.heap.size, 0, none⟩)]) :: some (iv 0) :: none :: none :: o4 (o4 (o16 (o16 (o16 (o64 (o64 []))))))) t) :
    Exec Try.prog none (sub pcode11 [1, 1, 1, 1, 1, 1, 1, 1, 0]) t W (andThen (SpE11 w a s bb) fun _ _ _ => False) := by
  have hu25 := Try.underlying25
  have hu22 := Try.underlying22
  have hn6 := hf.p
  obtain ⟨x, hx⟩ := Slots.open_ hSl; simp only [fill, Nat.reduceAdd] at hx; subst hx; clear hSl
  have hh := hX.heap
  simp only [XP.sN] at hh
  have c1 := cells_get (cs := [_, _, _]) (k := 1) hh rfl
  clear hh
  show Exec _ _ (Code.seq _ (Code.block _ _)) _ _ _
  refine exec_seq (exec_region_o fun ds => ?_)
  gi_wp2
  refine eq_mk (Keep.refl _) ?_
  show Exec _ _ (Code.block _ _) _ _ _
  refine exec_block ?_
  refine exec_loop (SmI11 w a s bb) a.N.length ⟨0, by omega, rfl, hX, hB, by simp [Slots, Fits, needTo, sumN]⟩ ?_
  clear hX hB c1 x
  clear W
  rintro n t W ⟨k, hk, hn, hX, hV, hSl⟩
  have HN := Lib.hid hn
  have hle := needTo_le hf k hk
  have hsu : needTo a (k + 1) = needTo a k + (toP a.s3).needs.getD k 0 := rfl
  have hend : k = a.N.length → needTo a k = needTo a a.N.length := fun e => by rw [e]
  obtain ⟨z, hz⟩ : ∃ z, needTo a k = z := ⟨_, rfl⟩
  rw [hz] at hSl hle hsu hend
  clear hz hn
  obtain ⟨x, hx⟩ := Slots.open_ hSl; simp only [fill, Nat.reduceAdd] at hx; subst hx; clear hSl
  show Exec _ _ (Code.seq _ (Code.seq _ _)) _ _ _
  refine exec_seq (exec_region_o fun ds => ?_)
  gi_wp2
  refine eq_mk (Keep.refl _) ?_
  show Exec _ _ (Code.seq (Code.cond _ _ _) _) _ _ _
  refine exec_seq (exec_cond (b := decide (k < a.N.length)) (by first | rfl | (show Value.bool _ = _; congr 1; exact decide_eq_decide.2 (by omega))) (fun hp => exec_skip ?_) (fun hp => exec_exit ?_))
  · have hkl : k < a.N.length := by have := of_decide_eq_true hp; omega
    obtain ⟨ad, hA, hcl⟩ := need_row_at hf hX.at_ hkl
    have hle2 := needTo_le hf (k + 1) (by omega)
    rw [hsu] at hle2
    obtain ⟨q, hq⟩ : ∃ q, (toP a.s3).needs.getD k 0 = q := ⟨_, rfl⟩
    rw [hq] at hcl hsu hle2
    have HS := Lib.hid hsu
    clear hsu hend hq
    have hkI : (k : Int) < a.N.length := by omega
    simp only [hA]
    have HAd := Lib.hid hA
    clear hA
    show Exec _ _ (Code.seq (Code.block _ _) _) _ _ _
    refine exec_cut (fun t' Y => PBx Y w.heap.size a ∧ Below w.heap.size w Y ∧ Slots (none :: some (.pointer (some ⟨w.heap.size, 0, none⟩)) :: some (.bool false) :: some (iv s) :: none :: some (iv bb) :: none :: none :: none :: some (.func (.func 47) #[] #[.pointer (some ⟨w.heap.size, 0, none⟩)]) :: some (iv (z + q)) :: none :: none :: o16 (o64 (some (.slice a.AN a.N.length a.cN) :: some (iv a.N.length) :: some (iv k) :: none :: o4 (o16 (o16 (o64 [])))))) t') (exec_block (exec_seq (exec_region_o fun ds => ?_))) ?_
    · gi_wp2
      refine eq_mk (Keep.refl _) ?_
      show Exec _ _ _ _ _ _
      have hw : IntKind.i64.wrap ((z : Int) + q) = ((z + q : Nat) : Int) := by rw [IntWalk.i64_in _ (by omega)]; norm_cast
      refine exec_region_o fun ds => ?_
      gi_wp2
      exact eq_mk (Keep.refl _) ⟨hX, hV, by simp only [Slots, Fits, and_self]; simp [HAd.out]⟩
    · clear hX hV hcl x
      clear W
      rintro t' Y ⟨hX, hV, hSl⟩
      obtain ⟨x, hx⟩ := Slots.open_ hSl; simp only [fill, Nat.reduceAdd] at hx; subst hx; clear hSl
      have hw : IntKind.i64.wrap ((k : Int) + 1) = ((k + 1 : Nat) : Int) := by rw [IntWalk.i64_in _ (by omega)]; norm_cast
      refine exec_region_o fun ds => ?_
      gi_wp2
      exact eq_mk (Keep.refl _) ⟨n - 1, by rw [HN.out]; omega, k + 1, by omega, by rw [HN.out]; omega, hX, hV, by rw [HS.out]; simp only [Slots, Fits, and_self]; simp [HAd.out]⟩
  · have hkl : k = a.N.length := by have := of_decide_eq_false hp; omega
    exact ⟨hX, hV, by rw [← hend hkl]; simp [Slots, Fits]⟩
def PiI11 (w : World) (a : XP) (s bb j : Nat) (n : Nat) (t : Array Value) (W : World) : Prop :=
  ∃ i : Nat, i ≤ a.N.length ∧ n = a.N.length - i ∧ PBx W w.heap.size a ∧ Below w.heap.size w W ∧ Slots (none :: some (.pointer (some ⟨w.heap.size, 0, none⟩)) :: some (.bool false) :: some (iv s) :: none :: some (iv bb) :: none :: none :: none :: some (.func (.func 47) #[] #[.pointer (some ⟨w.heap.size, 0, none⟩)]) :: none :: none :: none :: some (iv j) :: none :: o4 (o4 (o4 (o64 (o64 (some (iv a.L.length) :: some (iv j) :: none :: o4 (o4 (o4 (some (iv a.N.length) :: some (iv i) :: none :: o4 (o4 (o16 []))))))))))) t
def PjE11 (w : World) (a : XP) (s bb j : Nat) (t : Array Value) (W : World) : Prop :=
  PBx W w.heap.size a ∧ Below w.heap.size w W ∧ Slots (none :: some (.pointer (some ⟨w.heap.size, 0, none⟩)) :: some (.bool false) :: some (iv s) :: none :: some (iv bb) :: none :: none :: none :: some (.func (.func 47) #[] #[.pointer (some ⟨w.heap.size, 0, none⟩)]) :: none :: o16 (o64 (o64 (some (iv a.L.length) :: some (iv j) :: o4 (o4 (o16 (o16 []))))))) t
set_option maxRecDepth 100000 in
set_option maxHeartbeats 2000000 in
theorem sp_pairs {w : World} {a : XP} {s bb j : Nat} (hf : a.Fine) (hc : canV (toP a.s3) = true) (hF : SpFacts a s bb) (hj : j < a.L.length) {W : World} (hX : PBx W w.heap.size a) (hB : Below w.heap.size w W) {t : Array Value} (hSl : Slots (none :: some (.pointer (some ⟨w.heap.size, 0, none⟩)) :: some (.bool false) :: some (iv s) :: none :: some (iv bb) :: none :: none :: none :: some (.func (.func 47) #[] #[.pointer (some ⟨w.heap.size, 0, none⟩)]) :: none :: none :: none :: some (iv j) :: none :: o4 (o4 (o4 (o64 (o64 (some (iv a.L.length) :: some (iv j) :: o4 (o4 (o16 (o16 []))))))))) t) :
    Exec Try.prog none (sub pcode11 [1, 1, 1, 1, 1, 1, 1, 1, 1, 1, 0, 1, 0, 0, 1, 1, 0, 0, 1, 1]) t W (andThen (PjE11 w a s bb j) fun _ _ _ => False) := by
  have hu25 := Try.underlying25
  have hn6 := hf.p
  have hj6 := hf.j
  have hs64 : s < 2 ^ 6 := Nat.lt_of_lt_of_le hF.lt (Nat.pow_le_pow_right (by omega) hj6)
  obtain ⟨x, hx⟩ := Slots.open_ hSl; simp only [fill, Nat.reduceAdd] at hx; subst hx; clear hSl
  have hh := hX.heap
  simp only [XP.sN] at hh
  have c1 := cells_get (cs := [_, _, _]) (k := 1) hh rfl
  clear hh
  show Exec _ _ (Code.seq _ (Code.block _ _)) _ _ _
  refine exec_seq (exec_region_o fun ds => ?_)
  gi_wp2
  refine eq_mk (Keep.refl _) ?_
  show Exec _ _ (Code.block _ _) _ _ _
  refine exec_block ?_
  refine exec_loop (PiI11 w a s bb j) a.N.length ⟨0, by omega, rfl, hX, hB, by simp [Slots, Fits]⟩ ?_
  clear hX hB c1 x
  clear W
  rintro n t W ⟨i, hi, hn, hX, hV, hSl⟩
  have HN := Lib.hid hn
  clear hn
  obtain ⟨x, hx⟩ := Slots.open_ hSl; simp only [fill, Nat.reduceAdd] at hx; subst hx; clear hSl
  show Exec _ _ (Code.seq _ (Code.seq _ _)) _ _ _
  refine exec_seq (exec_region_o fun ds => ?_)
  gi_wp2
  refine eq_mk (Keep.refl _) ?_
  show Exec _ _ (Code.seq (Code.cond _ _ _) _) _ _ _
  refine exec_seq (exec_cond (b := decide (i < a.N.length)) (by first | rfl | (show Value.bool _ = _; congr 1; exact decide_eq_decide.2 (by omega))) (fun hp => exec_skip ?_) (fun hp => exec_exit ?_))
  · have hil : i < a.N.length := by have := of_decide_eq_true hp; omega
    show Exec _ _ (Code.seq (Code.block _ _) _) _ _ _
    refine exec_cut (fun t' Y => PBx Y w.heap.size a ∧ Below w.heap.size w Y ∧ Slots (none :: some (.pointer (some ⟨w.heap.size, 0, none⟩)) :: some (.bool false) :: some (iv s) :: none :: some (iv bb) :: none :: none :: none :: some (.func (.func 47) #[] #[.pointer (some ⟨w.heap.size, 0, none⟩)]) :: none :: none :: none :: some (iv j) :: none :: o4 (o4 (o4 (o64 (o64 (some (iv a.L.length) :: some (iv j) :: none :: o4 (o4 (o4 (some (iv a.N.length) :: some (iv i) :: none :: o4 (o4 (o16 []))))))))))) t') (exec_block ?_) ?_
    · show Exec _ _ (Code.seq _ (Code.seq _ _)) _ _ _
      refine exec_seq (exec_region_o fun ds => ?_)
      gi_wp2
      refine eq_mk (Keep.refl _) ?_
      show Exec _ _ (Code.seq _ (Code.seq _ _)) _ _ _
      have hpa : pairA a (j : Int) (i : Int) = (((pairV (toP a.s3) i j : Nat) : Int), 0) := by
        have h1 : inB (j : Int) 0 ((a.L.length : Int) - 1) = true := by
          unfold inB
          rw [Bool.and_eq_true, decide_eq_true_eq, decide_eq_true_eq]
          omega
        have h2 : inB (i : Int) 0 ((a.N.length : Int) - 1) = true := by
          unfold inB
          rw [Bool.and_eq_true, decide_eq_true_eq, decide_eq_true_eq]
          omega
        unfold pairA
        rw [isP_of_fine hf, h1, h2, hc]
        simp
      have hcall := Pair_any a (j : Int) (i : Int) W hX.at_
      rw [hpa] at hcall
      have hpv := hF.pair j i hj hil
      clear hpa
      generalize pairV (toP a.s3) i j = pv at *
      have HPV := Lib.hid hpv
      clear hpv
      have c0 := cells_get (cs := [_, _, _]) (k := 0) hX.heap rfl
      have c1 := cells_get (cs := [_, _, _]) (k := 1) hX.heap rfl
      have c2 := cells_get (cs := [_, _, _]) (k := 2) hX.heap rfl
      refine exec_seq (exec_region_o fun ds => ?_)
      gi_wp2_with fail
      refine ⟨trivial, rfl, (callsIn_wide.2 hcall).mono ?_⟩
      rintro e Y ⟨rfl, hy⟩
      have hXY := hX.keep hy
      have hBY := hV.trans (hy.mono hV.size)
      have hK := Keep.of_below hy
      clear hy c0 c1 c2 hX hV hcall
      gi_wp2
      refine eq_mk hK ?_
      show Exec _ _ (Code.seq _ _) _ _ _
      have hbit := bit_i s j (by omega)
      refine exec_cut (fun t' Z => Z = Y ∧ Slots (none :: some (.pointer (some ⟨w.heap.size, 0, none⟩)) :: some (.bool false) :: some (iv s) :: none :: some (iv bb) :: none :: none :: none :: some (.func (.func 47) #[] #[.pointer (some ⟨w.heap.size, 0, none⟩)]) :: none :: none :: none :: some (iv j) :: none :: o4 (o4 (o4 (o64 (o64 (some (iv a.L.length) :: some (iv j) :: none :: o4 (o4 (o4 (some (iv a.N.length) :: some (iv i) :: none :: o4 (o16 (some (.bool false) :: none :: none :: none :: []))))))))))) t') (exec_region_o fun ds => ?_) ?_
      · by_cases h2 : pv = 2
        · have hb0 : s.testBit j = false := by
            cases hb : s.testBit j with
            | false => rfl
            | true => exact absurd h2 (HPV.out hb)
          rw [hb0] at hbit
          simp only [b1, Bool.false_eq_true, if_false] at hbit
          subst h2
          clear hb0
          gi_wp2
          all_goals exact eq_mk (Keep.refl _) ⟨rfl, by simp [Slots, Fits]⟩
        · have h2I : ¬ ((pv : Int) = 2) := by omega
          clear hbit
          gi_wp2
          all_goals exact eq_mk (Keep.refl _) ⟨rfl, by simp [Slots, Fits]⟩
      · rintro t' Z ⟨rfl, hSl⟩
        clear x hbit
        obtain ⟨x, hx⟩ := Slots.open_ hSl; simp only [fill, Nat.reduceAdd] at hx; subst hx; clear hSl
        show Exec _ _ (Code.cond _ _ _) _ _ _
        refine exec_cond (b := false) rfl (fun h => by cases h) (fun _ => exec_skip ?_)
        exact ⟨hXY, hBY, by simp [Slots, Fits]⟩
    · clear hX hV x
      clear W
      rintro t' Y ⟨hX, hV, hSl⟩
      obtain ⟨x, hx⟩ := Slots.open_ hSl; simp only [fill, Nat.reduceAdd] at hx; subst hx; clear hSl
      have hw : IntKind.i64.wrap ((i : Int) + 1) = ((i + 1 : Nat) : Int) := by rw [IntWalk.i64_in _ (by omega)]; norm_cast
      refine exec_region_o fun ds => ?_
      gi_wp2
      exact eq_mk (Keep.refl _) ⟨n - 1, by rw [HN.out]; omega, i + 1, by omega, by rw [HN.out]; omega, hX, hV, by simp only [Slots, Fits, and_self]; simp⟩
  · exact ⟨hX, hV, by simp [Slots, Fits]⟩
end Go.Proofs.Ytbdmmikflkpmpaa
end

section
set_option linter.unusedVariables false
set_option linter.unusedSimpArgs false
namespace Go.Proofs.Ytbdmmikflkpmpaa
open Go.RowKit Go.TL Go.Shelf Go.Pn
attribute [local go_sem] Oper.semAt_some
attribute [local go_sem] run_store_func
def PjI11 (w : World) (a : XP) (s bb : Nat) (n : Nat) (t : Array Value) (W : World) : Prop :=
  ∃ j : Nat, j ≤ a.L.length ∧ n = a.L.length - j ∧ PBx W w.heap.size a ∧ Below w.heap.size w W ∧ Slots (none :: some (.pointer (some ⟨w.heap.size, 0, none⟩)) :: some (.bool false) :: some (iv s) :: none :: some (iv bb) :: none :: none :: none :: some (.func (.func 47) #[] #[.pointer (some ⟨w.heap.size, 0, none⟩)]) :: none :: o16 (o64 (o64 (some (iv a.L.length) :: some (iv j) :: o4 (o4 (o16 (o16 []))))))) t
def PkE11 (w : World) (a : XP) (t : Array Value) (W : World) : Prop := Below w.heap.size w W ∧ Slots (none :: none :: some (.bool false) :: none :: none :: o64 (o64 (o64 []))) t
set_option maxRecDepth 100000 in
set_option maxHeartbeats 2000000 in
theorem sp_judges {w : World} {a : XP} {s bb : Nat} (hf : a.Fine) (hc : canV (toP a.s3) = true) (hF : SpFacts a s bb) {W : World} (hX : PBx W w.heap.size a) (hB : Below w.heap.size w W) {t : Array Value} (hSl : Slots (none :: some (.pointer (some ⟨w.heap.size, 0, none⟩)) :: some (.bool false) :: some (iv s) :: none :: some (iv bb) :: none :: none :: none :: some (.func (.func 47) #[] #[.pointer (some ⟨w.heap.size, 0, none⟩)]) :: none :: none :: none :: o4 (o4 (o16 (o16 (o16 (o64 (o64 []))))))) t) :
    Exec Try.prog none (sub pcode11 [1, 1, 1, 1, 1, 1, 1, 1, 1, 1, 0]) t W (andThen (PkE11 w a) fun _ _ _ => False) := by
  have hu25 := Try.underlying25
  have hn6 := hf.p
  have hj6 := hf.j
  have hs64 : s < 2 ^ 6 := Nat.lt_of_lt_of_le hF.lt (Nat.pow_le_pow_right (by omega) hj6)
  obtain ⟨x, hx⟩ := Slots.open_ hSl; simp only [fill, Nat.reduceAdd] at hx; subst hx; clear hSl
  have hh := hX.heap
  simp only [XP.sL] at hh
  have c1 := cells_get (cs := [_, _, _]) (k := 0) hh rfl
  clear hh
  show Exec _ _ (Code.seq _ (Code.block _ _)) _ _ _
  refine exec_seq (exec_region_o fun ds => ?_)
  gi_wp2
  refine eq_mk (Keep.refl _) ?_
  show Exec _ _ (Code.block _ _) _ _ _
  refine exec_block ?_
  refine exec_loop (PjI11 w a s bb) a.L.length ⟨0, by omega, rfl, hX, hB, by simp [Slots, Fits]⟩ ?_
  clear hX hB c1 x
  clear W
  rintro n t W ⟨j, hj, hn, hX, hV, hSl⟩
  have HN := Lib.hid hn
  clear hn
  obtain ⟨x, hx⟩ := Slots.open_ hSl; simp only [fill, Nat.reduceAdd] at hx; subst hx; clear hSl
  show Exec _ _ (Code.seq _ (Code.seq _ _)) _ _ _
  refine exec_seq (exec_region_o fun ds => ?_)
  gi_wp2
  refine eq_mk (Keep.refl _) ?_
  show Exec _ _ (Code.seq (Code.cond _ _ _) _) _ _ _
  refine exec_seq (exec_cond (b := decide (j < a.L.length)) (by first | rfl | (show Value.bool _ = _; congr 1; exact decide_eq_decide.2 (by omega))) (fun hp => exec_skip ?_) (fun hp => exec_exit ?_))
  · have hjl : j < a.L.length := by have := of_decide_eq_true hp; omega
    show Exec _ _ (Code.seq (Code.block _ _) _) _ _ _
    refine exec_cut (PjE11 w a s bb j) (exec_block ?_) ?_
    · show Exec _ _ (Code.seq _ (Code.seq (Code.seq _ _) _)) _ _ _
      refine exec_seq (exec_region_o fun ds => ?_)
      gi_wp2
      refine eq_mk (Keep.refl _) ?_
      show Exec _ _ (Code.seq (Code.seq _ _) _) _ _ _
      have hbit := bit_i s j (by omega)
      have hcall := fun (Z : World) (h : PBx Z w.heap.size a) => with47 a hf 6 (by omega) (j : Int) w.heap.size Z h
      rw [show (canV (toP (lbL a 6 (j : Int), a.s3.2.1, a.s3.2.2))) = s.testBit j from (hF.bit j hjl).symm] at hcall
      obtain ⟨q, hq⟩ : ∃ q, s.testBit j = q := ⟨_, rfl⟩
      rw [hq] at hcall hbit
      clear hq
      have hb2 : (((b1 q : Nat) : Int) == 1) = q := by cases q <;> rfl
      refine exec_seq (exec_seq (region_of_tail 9 (by kernel_rfl) (by kernel_rfl) (by kernel_rfl) (fun Z => Below W.heap.size W Z) (fun _ _ _ => False) (fun _ _ _ h => h.elim) fun ds => ?_))
      have hS : Below W.heap.size W W.drew := (Below.refl _ W).drew
      refine held_take 0 (iv s) rfl (by kernel_rfl) (by kernel_rfl) (by kernel_rfl) (by intro _ _ _ h; first | exact h | (simpa [behind, Act.put] using h)) rfl (by first | exact hS | assumption) (fun wq hq => ?_) ?_; (focus (first | rfl | (simp [go_sem]; done))); simp only [Act.put, Array.getInternal_eq_getElem, List.take_succ_cons, List.take_zero, List.take_nil, List.getElem_toArray, List.getElem_cons_succ, List.getElem_cons_zero, List.setIfInBounds_toArray, List.set_cons_succ, List.set_cons_zero]
      refine held_take 1 (iv j) rfl (by kernel_rfl) (by kernel_rfl) (by kernel_rfl) (by intro _ _ _ h; first | exact h | (simpa [behind, Act.put] using h)) rfl (by first | exact hS | assumption) (fun wq hq => ?_) ?_; (focus (first | rfl | (simp [go_sem]; done))); simp only [Act.put, Array.getInternal_eq_getElem, List.take_succ_cons, List.take_zero, List.take_nil, List.getElem_toArray, List.getElem_cons_succ, List.getElem_cons_zero, List.setIfInBounds_toArray, List.set_cons_succ, List.set_cons_zero]
      refine held_take 2 (.int .i64 ((s : Int) / (2 : Int) ^ j)) rfl (by kernel_rfl) (by kernel_rfl) (by kernel_rfl) (by intro _ _ _ h; first | exact h | (simpa [behind, Act.put] using h)) rfl (by first | exact hS | assumption) (fun wq hq => ?_) ?_; (focus (simp [go_sem]; done)); simp only [Act.put, Array.getInternal_eq_getElem, List.take_succ_cons, List.take_zero, List.take_nil, List.getElem_toArray, List.getElem_cons_succ, List.getElem_cons_zero, List.setIfInBounds_toArray, List.set_cons_succ, List.set_cons_zero]
      refine held_take 3 (iv (b1 q)) rfl (by kernel_rfl) (by kernel_rfl) (by kernel_rfl) (by intro _ _ _ h; first | exact h | (simpa [behind, Act.put] using h)) rfl (by first | exact hS | assumption) (fun wq hq => ?_) ?_; (focus (simp [go_sem, hbit]; done)); simp only [Act.put, Array.getInternal_eq_getElem, List.take_succ_cons, List.take_zero, List.take_nil, List.getElem_toArray, List.getElem_cons_succ, List.getElem_cons_zero, List.setIfInBounds_toArray, List.set_cons_succ, List.set_cons_zero]
      refine held_take 4 (.bool q) rfl (by kernel_rfl) (by kernel_rfl) (by kernel_rfl) (by intro _ _ _ h; first | exact h | (simpa [behind, Act.put] using h)) rfl (by first | exact hS | assumption) (fun wq hq => ?_) ?_; (focus (simp [go_sem, hb2]; done)); simp only [Act.put, Array.getInternal_eq_getElem, List.take_succ_cons, List.take_zero, List.take_nil, List.getElem_toArray, List.getElem_cons_succ, List.getElem_cons_zero, List.setIfInBounds_toArray, List.set_cons_succ, List.set_cons_zero]
      refine held_take 5 (.func (.func 47) #[] #[.pointer (some ⟨w.heap.size, 0, none⟩)]) rfl (by kernel_rfl) (by kernel_rfl) (by kernel_rfl) (by intro _ _ _ h; first | exact h | (simpa [behind, Act.put] using h)) rfl (by first | exact hS | assumption) (fun wq hq => ?_) ?_; (focus (first | rfl | (simp [go_sem]; done))); simp only [Act.put, Array.getInternal_eq_getElem, List.take_succ_cons, List.take_zero, List.take_nil, List.getElem_toArray, List.getElem_cons_succ, List.getElem_cons_zero, List.setIfInBounds_toArray, List.set_cons_succ, List.set_cons_zero]
      refine held_take 6 (iv j) rfl (by kernel_rfl) (by kernel_rfl) (by kernel_rfl) (by intro _ _ _ h; first | exact h | (simpa [behind, Act.put] using h)) rfl (by first | exact hS | assumption) (fun wq hq => ?_) ?_; (focus (first | rfl | (simp [go_sem]; done))); simp only [Act.put, Array.getInternal_eq_getElem, List.take_succ_cons, List.take_zero, List.take_nil, List.getElem_toArray, List.getElem_cons_succ, List.getElem_cons_zero, List.setIfInBounds_toArray, List.set_cons_succ, List.set_cons_zero]
      refine held_call 7 (f := 47) (args := #[vi 6, vi j, .pointer (some ⟨w.heap.size, 0, none⟩)]) rfl (by kernel_rfl) rfl (by simp [go_sem]) ?_
      refine (hcall W.drew (hX.keep hS)).mono ?_
      rintro e X1 ⟨rfl, hx1⟩
      have k1 : Below W.heap.size W X1 := hS.trans hx1
      refine .inl ⟨_, rfl, k1, ?_⟩
      simp only [Act.put, Array.getInternal_eq_getElem, List.take_succ_cons, List.take_zero, List.take_nil, List.getElem_toArray, List.getElem_cons_succ, List.getElem_cons_zero, List.setIfInBounds_toArray, List.set_cons_succ, List.set_cons_zero]
      have hqq : (q != q) = false := by cases q <;> rfl
      refine held_take 8 (.bool false) rfl (by kernel_rfl) (by kernel_rfl) (by kernel_rfl) (by intro _ _ _ h; first | exact h | (simpa [behind, Act.put] using h)) rfl (by first | exact hS | assumption) (fun wq hq => ?_) ?_; (focus (simp [go_sem, hqq]; done)); simp only [Act.put, Array.getInternal_eq_getElem, List.take_succ_cons, List.take_zero, List.take_nil, List.getElem_toArray, List.getElem_cons_succ, List.getElem_cons_zero, List.setIfInBounds_toArray, List.set_cons_succ, List.set_cons_zero]
      refine held_done (by kernel_rfl) ?_
      refine any_done (by kernel_rfl) ⟨rfl, Keep.of_below k1, ?_⟩
      show Exec _ _ (Code.cond _ _ _) _ _ _
      refine exec_cond (b := false) rfl (fun h => by cases h) (fun _ => exec_skip ?_)
      refine (sp_pairs (bb := bb) hf hc hF hjl (hX.keep k1) (hV.trans (k1.mono hV.size)) ?_).mono ?_
      · simp [Slots, Fits]
      · intro e t Z hh
        obtain ⟨rfl, hE⟩ := only_normal hh
        exact hE
    · clear hX hV x
      clear W
      rintro t' Y ⟨hX, hV, hSl⟩
      obtain ⟨x, hx⟩ := Slots.open_ hSl; simp only [fill, Nat.reduceAdd] at hx; subst hx; clear hSl
      have hw : IntKind.i64.wrap ((j : Int) + 1) = ((j + 1 : Nat) : Int) := by rw [IntWalk.i64_in _ (by omega)]; norm_cast
      refine exec_region_o fun ds => ?_
      gi_wp2
      exact eq_mk (Keep.refl _) ⟨n - 1, by rw [HN.out]; omega, j + 1, by omega, by rw [HN.out]; omega, hX, hV, by simp only [Slots, Fits, and_self]; simp⟩
  · exact ⟨hV, by simp [Slots, Fits]⟩
end Go.Proofs.Ytbdmmikflkpmpaa
end

section
set_option linter.unusedVariables false
set_option linter.unusedSimpArgs false
namespace Go.Proofs.Ytbdmmikflkpmpaa
open Go.RowKit Go.TL Go.Shelf Go.Pn
attribute [local go_sem] Oper.semAt_some
attribute [local go_sem] run_store_func
theorem needTo_all (a : XP) : needTo a a.N.length = allN (toP a.s3) := by
  have : (toP a.s3).needs.length = a.N.length := by simp [toP, XP.s3]
  unfold needTo allN
  rw [this]
set_option maxRecDepth 100000 in
set_option maxHeartbeats 4000000 in
theorem spare_law (a : XP) (w : World) (h : a.Row w) : Calls Try.prog 11 #[a.val] w fun e w' => e = .returned (.bool true) ∧ Below w.heap.size w w' := by
  have hu25 := Try.underlying25
  have hu22 := Try.underlying22
  have hu23 := Try.underlying23
  have hmf : ∀ fn first cap w, (Instr.makeFunc fn first cap).run Try.prog w = .ok (.func fn first cap) w := fun _ _ _ _ => rfl
  refine calls_of_exec Try.func11 rfl ?_
  simp only [Try.ntmps11, List.size_toArray, List.length_cons, List.length_nil, Nat.reduceAdd, Nat.reduceSub, Array.replicate_succ, Array.replicate_zero, List.push_toArray, List.append_toArray, List.nil_append, List.cons_append]
  simp only [XP.val]
  refine exec_seq (exec_region_o fun ds => ?_)
  gi_wp2
  refine eq_mk ((Keep.refl w).alloc _) ?_
  show Exec _ _ (Code.seq _ _) _ (w.alloc (.cells #[a.sL, a.sN, a.sK] 25)) _
  have hB := (Below.refl w.heap.size w).alloc (Nat.le_refl _) (.cells #[a.sL, a.sN, a.sK] 25)
  have hh : (w.alloc (.cells #[a.sL, a.sN, a.sK] 25)).heap[w.heap.size]? = some (.cells #[a.sL, a.sN, a.sK] 25 (0, 0)) := World.alloc_heap_new _ _
  have hR := h.below hB
  generalize w.alloc (.cells #[a.sL, a.sN, a.sK] 25) = W0 at *
  have c0 := cells_get (cs := [_, _, _]) (k := 0) hh rfl
  have c1 := cells_get (cs := [_, _, _]) (k := 1) hh rfl
  have c2 := cells_get (cs := [_, _, _]) (k := 2) hh rfl
  obtain ⟨hv, hhv⟩ : ∃ b, heavyB a 6 6 10 = b := ⟨_, rfl⟩
  have hvy : Calls Try.prog 13 #[.agg #[a.sL, a.sN, a.sK], .int .i64 6, .int .i64 6, .int .i64 10] W0 fun e w' => e = .returned (.bool (heavyB a 6 6 10)) ∧ Below W0.heap.size W0 w' := heavy13 a 6 6 10 W0 hR
  rw [hhv] at hvy
  refine exec_seq (exec_seq (exec_region_o fun ds => ?_))
  gi_wp2_with fail
  refine ⟨trivial, rfl, (callsIn_wide.2 hvy).mono ?_⟩
  rintro e X0 ⟨rfl, hx⟩
  have hhX := (hx.block _ (heap_lt hh)).trans hh
  have hRX := hR.below hx
  have hBX := hB.trans (hx.mono hB.size)
  have hK := Keep.of_below hx
  clear hx hvy c0 c1 c2 hh hR hB h
  gi_wp2
  refine eq_mk hK ?_
  show Exec _ _ (Code.cond _ _ _) _ _ _
  clear hK
  clear W0
  cases hv with
  | true =>
    refine exec_cond (b := true) rfl (fun _ => ?_) (fun h => by cases h)
    refine exec_seq (exec_region_o fun ds => ?_)
    gi_wp2_with fail
    refine ⟨trivial, rfl, (callsIn_wide.2 (alive14 X0)).mono ?_⟩
    rintro e Y ⟨rfl, hy⟩
    have hBY := hBX.trans (hy.mono hBX.size)
    gi_wp2
    refine eq_mk (Keep.of_below hy) ?_
    show Exec _ _ _ _ _ _
    exact exec_ret ⟨.inr rfl, fun W' hG => ⟨.bool true, by simp [results, Try.f11, go_sem], rfl, hBY.trans (hG.below (Nat.le_refl _) hBY.size)⟩⟩
  | false =>
  refine exec_cond (b := false) rfl (fun h => by cases h) (fun _ => exec_skip ?_)
  have hsm : a.small = true := by
    cases hs : a.small with
    | true => rfl
    | false => rw [heavyB, hs] at hhv; cases hhv
  have h3 : (a.L.length ≤ 40 ∧ a.N.length ≤ 40) ∧ a.K.length ≤ 40 := by simpa [XP.small] using hsm
  have hX0 : PBx X0 w.heap.size a := ⟨hhX, hRX.at_ h3.1.1 h3.1.2 h3.2⟩
  have HVY := Lib.hid hhv
  clear hhv hsm h3 hhX hRX
  show Exec _ _ (Code.seq _ _) _ _ _
  cases hq : a.isP with
  | false =>
    have e1 : spareA a = (0, 1) := by simp [spareA, hq]
    have e2 : busyA a = (0, 1) := by simp [busyA, hq]
    have e3 : sitA a = ([], 1) := by simp [sitA, hq]
    have hc3 := Spare_any a X0 hX0.at_
    rw [e1] at hc3
    have c0 := cells_get (cs := [_, _, _]) (k := 0) hX0.heap rfl
    have c1 := cells_get (cs := [_, _, _]) (k := 1) hX0.heap rfl
    have c2 := cells_get (cs := [_, _, _]) (k := 2) hX0.heap rfl
    refine exec_seq (exec_region_o fun ds => ?_)
    gi_wp2_with fail
    refine ⟨trivial, rfl, (callsIn_wide.2 hc3).mono ?_⟩
    rintro e X1 ⟨rfl, hy⟩
    have hX1 := hX0.keep hy
    replace hBX := hBX.trans (hy.mono hBX.size)
    have hK := Keep.of_below hy
    clear hy c0 c1 c2 hX0 hc3
    gi_wp2
    refine eq_mk hK ?_
    show Exec _ _ (Code.seq _ _) _ _ _
    clear hK
    clear X0
    have hc3 := Busy_any a X1 hX1.at_
    rw [e2] at hc3
    have c0 := cells_get (cs := [_, _, _]) (k := 0) hX1.heap rfl
    have c1 := cells_get (cs := [_, _, _]) (k := 1) hX1.heap rfl
    have c2 := cells_get (cs := [_, _, _]) (k := 2) hX1.heap rfl
    refine exec_seq (exec_region_o fun ds => ?_)
    gi_wp2_with fail
    refine ⟨trivial, rfl, (callsIn_wide.2 hc3).mono ?_⟩
    rintro e X2 ⟨rfl, hy⟩
    have hX2 := hX1.keep hy
    replace hBX := hBX.trans (hy.mono hBX.size)
    have hK := Keep.of_below hy
    clear hy c0 c1 c2 hX1 hc3
    gi_wp2
    refine eq_mk hK ?_
    show Exec _ _ (Code.seq _ _) _ _ _
    clear hK
    clear X1
    have hc3 := Sit_any a X2 hX2.at_
    rw [e3] at hc3
    have c0 := cells_get (cs := [_, _, _]) (k := 0) hX2.heap rfl
    have c1 := cells_get (cs := [_, _, _]) (k := 1) hX2.heap rfl
    have c2 := cells_get (cs := [_, _, _]) (k := 2) hX2.heap rfl
    refine exec_seq (exec_region_o fun ds => ?_)
    gi_wp2_with fail
    refine ⟨trivial, rfl, (callsIn_wide.2 hc3).mono ?_⟩
    rintro e X3 ⟨A, c, rfl, hr, hy⟩
    have hX3 := hX2.keep hy
    replace hBX := hBX.trans (hy.mono hBX.size)
    have hK := Keep.of_below hy
    clear hy c0 c1 c2 hX2 hc3 hr
    gi_wp2
    refine eq_mk hK ?_
    show Exec _ _ (Code.seq _ _) _ _ _
    clear hK
    clear X2
    refine exec_seq (exec_seq (exec_region_o fun ds => ?_))
    gi_wp2
    first | refine ⟨trivial, ?_⟩ | skip
    rename_i hK
    refine hK _ _ ?_
    gi_wp2
    refine eq_mk (Keep.refl _) ?_
    show Exec _ _ (Code.cond _ _ _) _ _ _
    refine exec_cond (b := true) rfl (fun _ => ?_) (fun h => by cases h)
    have hp := panels22 a X3 hX3.at_
    rw [hq] at hp
    have c0 := cells_get (cs := [_, _, _]) (k := 0) hX3.heap rfl
    have c1 := cells_get (cs := [_, _, _]) (k := 1) hX3.heap rfl
    have c2 := cells_get (cs := [_, _, _]) (k := 2) hX3.heap rfl
    clear e1 e2 e3 hq
    refine exec_seq (exec_region_o fun ds => ?_)
    gi_wp2_with fail
    refine ⟨trivial, rfl, (callsIn_wide.2 hp).mono ?_⟩
    rintro e X4 ⟨rfl, hy4⟩
    gi_wp2_with fail
    refine ⟨trivial, rfl, (callsIn_wide.2 (alive14 X4)).mono ?_⟩
    rintro e X5 ⟨rfl, hy5⟩
    have hy := hy4.trans (hy5.mono hy4.size)
    have hBY := hBX.trans (hy.mono hBX.size)
    gi_wp2
    refine eq_mk (Keep.of_below hy) ?_
    show Exec _ _ _ _ _ _
    exact exec_ret ⟨.inr rfl, fun W' hG => ⟨.bool true, by simp [results, Try.f11, go_sem], rfl, hBY.trans (hG.below (Nat.le_refl _) hBY.size)⟩⟩
  | true =>
  have hf := a.fine hq
  cases hc : canV (toP a.s3) with
  | false =>
    have e1 : spareA a = (0, 4) := by simp [spareA, hq, hc]
    have e2 : busyA a = (0, 4) := by simp [busyA, hq, hc]
    have e3 : sitA a = ([], 4) := by simp [sitA, hq, hc]
    have hc3 := Spare_any a X0 hX0.at_
    rw [e1] at hc3
    have c0 := cells_get (cs := [_, _, _]) (k := 0) hX0.heap rfl
    have c1 := cells_get (cs := [_, _, _]) (k := 1) hX0.heap rfl
    have c2 := cells_get (cs := [_, _, _]) (k := 2) hX0.heap rfl
    refine exec_seq (exec_region_o fun ds => ?_)
    gi_wp2_with fail
    refine ⟨trivial, rfl, (callsIn_wide.2 hc3).mono ?_⟩
    rintro e X1 ⟨rfl, hy⟩
    have hX1 := hX0.keep hy
    replace hBX := hBX.trans (hy.mono hBX.size)
    have hK := Keep.of_below hy
    clear hy c0 c1 c2 hX0 hc3
    gi_wp2
    refine eq_mk hK ?_
    show Exec _ _ (Code.seq _ _) _ _ _
    clear hK
    clear X0
    have hc3 := Busy_any a X1 hX1.at_
    rw [e2] at hc3
    have c0 := cells_get (cs := [_, _, _]) (k := 0) hX1.heap rfl
    have c1 := cells_get (cs := [_, _, _]) (k := 1) hX1.heap rfl
    have c2 := cells_get (cs := [_, _, _]) (k := 2) hX1.heap rfl
    refine exec_seq (exec_region_o fun ds => ?_)
    gi_wp2_with fail
    refine ⟨trivial, rfl, (callsIn_wide.2 hc3).mono ?_⟩
    rintro e X2 ⟨rfl, hy⟩
    have hX2 := hX1.keep hy
    replace hBX := hBX.trans (hy.mono hBX.size)
    have hK := Keep.of_below hy
    clear hy c0 c1 c2 hX1 hc3
    gi_wp2
    refine eq_mk hK ?_
    show Exec _ _ (Code.seq _ _) _ _ _
    clear hK
    clear X1
    have hc3 := Sit_any a X2 hX2.at_
    rw [e3] at hc3
    have c0 := cells_get (cs := [_, _, _]) (k := 0) hX2.heap rfl
    have c1 := cells_get (cs := [_, _, _]) (k := 1) hX2.heap rfl
    have c2 := cells_get (cs := [_, _, _]) (k := 2) hX2.heap rfl
    refine exec_seq (exec_region_o fun ds => ?_)
    gi_wp2_with fail
    refine ⟨trivial, rfl, (callsIn_wide.2 hc3).mono ?_⟩
    rintro e X3 ⟨A, c, rfl, hr, hy⟩
    have hX3 := hX2.keep hy
    replace hBX := hBX.trans (hy.mono hBX.size)
    have hK := Keep.of_below hy
    clear hy c0 c1 c2 hX2 hc3 hr
    gi_wp2
    refine eq_mk hK ?_
    show Exec _ _ (Code.seq _ _) _ _ _
    clear hK
    clear X2
    refine exec_seq (exec_seq (exec_region_o fun ds => ?_))
    gi_wp2
    first | refine ⟨trivial, ?_⟩ | skip
    rename_i hK
    refine hK _ _ ?_
    gi_wp2
    refine eq_mk (Keep.refl _) ?_
    show Exec _ _ (Code.cond _ _ _) _ _ _
    refine exec_cond (b := true) rfl (fun _ => ?_) (fun h => by cases h)
    have hp := panels22 a X3 hX3.at_
    rw [hq] at hp
    have c0 := cells_get (cs := [_, _, _]) (k := 0) hX3.heap rfl
    have c1 := cells_get (cs := [_, _, _]) (k := 1) hX3.heap rfl
    have c2 := cells_get (cs := [_, _, _]) (k := 2) hX3.heap rfl
    clear e1 e2 e3 hq
    refine exec_seq (exec_region_o fun ds => ?_)
    gi_wp2_with fail
    refine ⟨trivial, rfl, (callsIn_wide.2 hp).mono ?_⟩
    rintro e X4 ⟨rfl, hy4⟩
    gi_wp2_with fail
    refine ⟨trivial, rfl, (callsIn_wide.2 (alive14 X4)).mono ?_⟩
    rintro e X5 ⟨rfl, hy5⟩
    have hy := hy4.trans (hy5.mono hy4.size)
    have hBY := hBX.trans (hy.mono hBX.size)
    gi_wp2
    refine eq_mk (Keep.of_below hy) ?_
    show Exec _ _ _ _ _ _
    exact exec_ret ⟨.inr rfl, fun W' hG => ⟨.bool true, by simp [results, Try.f11, go_sem], rfl, hBY.trans (hG.below (Nat.le_refl _) hBY.size)⟩⟩
  | true =>
    have hF := spare_facts hf hc
    have e1 : spareA a = (((spareF a.s3 a.L.length : Nat) : Int), 0) := by simp [spareA, hq, hc]
    have e2 : busyA a = (((busyF a.s3 : Nat) : Int), 0) := by simp [busyA, hq, hc]
    obtain ⟨sl, e3⟩ : ∃ sl, sitA a = (sl, 0) := ⟨(sitFold a a.N.length).1, by simp [sitA, hq, hc]⟩
    generalize spareF a.s3 a.L.length = s at *
    generalize busyF a.s3 = bb at *
    have hc3 := Spare_any a X0 hX0.at_
    rw [e1] at hc3
    have c0 := cells_get (cs := [_, _, _]) (k := 0) hX0.heap rfl
    have c1 := cells_get (cs := [_, _, _]) (k := 1) hX0.heap rfl
    have c2 := cells_get (cs := [_, _, _]) (k := 2) hX0.heap rfl
    refine exec_seq (exec_region_o fun ds => ?_)
    gi_wp2_with fail
    refine ⟨trivial, rfl, (callsIn_wide.2 hc3).mono ?_⟩
    rintro e X1 ⟨rfl, hy⟩
    have hX1 := hX0.keep hy
    replace hBX := hBX.trans (hy.mono hBX.size)
    have hK := Keep.of_below hy
    clear hy c0 c1 c2 hX0 hc3
    gi_wp2
    refine eq_mk hK ?_
    show Exec _ _ (Code.seq _ _) _ _ _
    clear hK
    clear X0
    have hc3 := Busy_any a X1 hX1.at_
    rw [e2] at hc3
    have c0 := cells_get (cs := [_, _, _]) (k := 0) hX1.heap rfl
    have c1 := cells_get (cs := [_, _, _]) (k := 1) hX1.heap rfl
    have c2 := cells_get (cs := [_, _, _]) (k := 2) hX1.heap rfl
    refine exec_seq (exec_region_o fun ds => ?_)
    gi_wp2_with fail
    refine ⟨trivial, rfl, (callsIn_wide.2 hc3).mono ?_⟩
    rintro e X2 ⟨rfl, hy⟩
    have hX2 := hX1.keep hy
    replace hBX := hBX.trans (hy.mono hBX.size)
    have hK := Keep.of_below hy
    clear hy c0 c1 c2 hX1 hc3
    gi_wp2
    refine eq_mk hK ?_
    show Exec _ _ (Code.seq _ _) _ _ _
    clear hK
    clear X1
    have hc3 := Sit_any a X2 hX2.at_
    rw [e3] at hc3
    have c0 := cells_get (cs := [_, _, _]) (k := 0) hX2.heap rfl
    have c1 := cells_get (cs := [_, _, _]) (k := 1) hX2.heap rfl
    have c2 := cells_get (cs := [_, _, _]) (k := 2) hX2.heap rfl
    refine exec_seq (exec_region_o fun ds => ?_)
    gi_wp2_with fail
    refine ⟨trivial, rfl, (callsIn_wide.2 hc3).mono ?_⟩
    rintro e X3 ⟨A, c, rfl, hr, hy⟩
    have hX3 := hX2.keep hy
    replace hBX := hBX.trans (hy.mono hBX.size)
    have hK := Keep.of_below hy
    clear hy c0 c1 c2 hX2 hc3 hr
    gi_wp2
    refine eq_mk hK ?_
    show Exec _ _ (Code.seq _ _) _ _ _
    clear hK
    clear X2
    have hp := panels22 a X3 hX3.at_
    rw [hq] at hp
    have c0 := cells_get (cs := [_, _, _]) (k := 0) hX3.heap rfl
    have c1 := cells_get (cs := [_, _, _]) (k := 1) hX3.heap rfl
    have c2 := cells_get (cs := [_, _, _]) (k := 2) hX3.heap rfl
    have HC := Lib.hid hc
    clear e1 e2 e3 hq hc
    refine exec_seq (exec_seq (exec_region_o fun ds => ?_))
    gi_wp2_with fail
    refine ⟨trivial, rfl, (callsIn_wide.2 hp).mono ?_⟩
    rintro e X4 ⟨rfl, hy⟩
    have hX4 := hX3.keep hy
    replace hBX := hBX.trans (hy.mono hBX.size)
    have hK := Keep.of_below hy
    clear hy c0 c1 c2 hX3 hp
    gi_wp2
    refine eq_mk hK ?_
    show Exec _ _ (Code.cond _ _ _) _ _ _
    clear hK
    clear X3
    refine exec_cond (b := false) rfl (fun h => by cases h) (fun _ => exec_skip ?_)
    show Exec _ _ (Code.seq _ (Code.seq _ _)) _ _ _
    refine exec_seq (exec_region_o fun ds => ?_)
    gi_wp2
    refine eq_mk (Keep.refl _) ?_
    show Exec _ _ (Code.seq _ _) _ _ _
    refine exec_seq (exec_region_o fun ds => ?_)
    gi_wp2
    refine eq_mk (Keep.refl _) ?_
    show Exec _ _ (Code.seq (sub pcode11 [1, 1, 1, 1, 1, 1, 1, 1, 0]) (Code.seq (Code.seq _ _) _)) _ _ _
    refine exec_seq ((sp_sum (s := s) (bb := bb) hf hX4 hBX ?_).mono ?_)
    · simp [Slots, Fits]
    clear hX4 hBX
    clear X4
    intro e t Z hh
    obtain ⟨rfl, hXZ, hBZ, hSl⟩ := only_normal hh
    clear hh
    rw [needTo_all] at hSl
    have hj6 := hf.j
    have hs64 : s < 2 ^ 6 := Nat.lt_of_lt_of_le hF.lt (Nat.pow_le_pow_right (by omega) hj6)
    have hsum := hF.sum
    have hzero := hF.zero
    have hb6 := hF.b6
    generalize allN (toP a.s3) = sm at *
    obtain ⟨x, hx⟩ := Slots.open_ hSl; simp only [fill, Nat.reduceAdd] at hx; subst hx; clear hSl
    have hsm : bb * a.L.length ≤ 36 := Nat.le_trans (Nat.mul_le_mul hb6 hj6) (by decide)
    have hsd : (s : Int) / (2 : Int) ^ a.L.length = 0 := by
      rw [div_pow_cast, Nat.div_eq_of_lt hF.lt]
      rfl
    have hmul : IntKind.i64.wrap ((bb : Int) * (a.L.length : Int)) = ((bb * a.L.length : Nat) : Int) := by
      rw [show (bb : Int) * (a.L.length : Int) = ((bb * a.L.length : Nat) : Int) by norm_cast]
      exact IntWalk.i64_in _ (by omega)
    obtain ⟨pr, hpr⟩ : ∃ pr, bb * a.L.length = pr := ⟨_, rfl⟩
    rw [hpr] at hmul hsm hsum
    have h0s : ¬ ((s : Int) < 0) := by omega
    have h0b : ¬ ((bb : Int) < 0) := by omega
    have h6b : ¬ ((6 : Int) < (bb : Int)) := by omega
    have hps : ¬ ((pr : Int) < (sm : Int)) := by omega
    have callY := fun (V : World) (h : PBx V w.heap.size a) => with47 a hf bb (by omega) (-1) w.heap.size V h
    rw [hF.yes] at callY
    have hhZ := hXZ.heap
    simp only [XP.sL] at hhZ
    have c0 := cells_get (cs := [_, _, _]) (k := 0) hhZ rfl
    clear hpr hhZ
    show Exec _ _ (Code.seq (Code.seq _ _) _) _ _ _
    refine exec_seq (exec_cut (fun t' V => PBx V w.heap.size a ∧ Below w.heap.size w V ∧ Slots (none :: some (.pointer (some ⟨w.heap.size, 0, none⟩)) :: some (.bool false) :: some (iv s) :: none :: some (iv bb) :: none :: none :: none :: some (.func (.func 47) #[] #[.pointer (some ⟨w.heap.size, 0, none⟩)]) :: none :: none :: o4 (o4 (o4 (o64 (o64 (some (.bool false) :: o4 (o4 (o4 (o16 (o16 [])))))))))) t') (exec_region_o fun ds => ?_) ?_)
    · gi_wp2_with fail
      refine ⟨trivial, rfl, (callsIn_wide.2 (callY Z hXZ)).mono ?_⟩
      rintro e Y ⟨rfl, hy⟩
      have hXY := hXZ.keep hy
      have hBY := hBZ.trans (hy.mono hBZ.size)
      have hK := Keep.of_below hy
      have hhY := hXY.heap
      simp only [XP.sL] at hhY
      clear c0
      have c0 := cells_get (cs := [_, _, _]) (k := 0) hhY rfl
      clear hy hhY hXZ hBZ callY
      by_cases hb0 : bb = 0
      · have hs0 := hzero.1 hb0
        subst hb0
        subst hs0
        clear hzero
        gi_wp2
        refine ⟨fun f h => (by cases h), ?_⟩
        rename_i hKK _ _ _ _
        refine hKK _ _ ?_
        gi_wp2
        all_goals exact eq_mk hK ⟨hXY, hBY, by simp [Slots, Fits]⟩
      · have hs0 : sm ≠ 0 := fun e => hb0 (hzero.2 e)
        have hbp : ((0 : Int) < (bb : Int)) := by omega
        have hb1 : ((bb : Int) == 0) = false := by simp; omega
        have hb2 : ((sm : Int) == 0) = false := by simp; omega
        have hwm : IntKind.i64.wrap ((bb : Int) - 1) = ((bb - 1 : Nat) : Int) := by rw [IntWalk.i64_in _ (by omega)]; omega
        have callN := with47 a hf (bb - 1) (by omega) (-1) w.heap.size Y hXY
        rw [hF.no (by omega)] at callN
        clear hzero
        gi_wp2_with fail
        refine ⟨trivial, rfl, (callsIn_wide.2 callN).mono ?_⟩
        rintro e V ⟨rfl, hy⟩
        have hXV := hXY.keep hy
        have hBV := hBY.trans (hy.mono hBY.size)
        have hKV := hK.trans (Keep.of_below hy)
        have hhV := hXV.heap
        simp only [XP.sL] at hhV
        clear c0
        have c0 := cells_get (cs := [_, _, _]) (k := 0) hhV rfl
        clear hy hhV hXY hBY callN
        gi_wp2
        all_goals first | exact eq_mk hKV ⟨hXV, hBV, by simp [Slots, Fits, hsum]⟩
    · clear hXZ hBZ c0 hsd hmul h0s h0b h6b hps callY x
      rintro t' V ⟨hXV, hBV, hSl⟩
      obtain ⟨x, hx⟩ := Slots.open_ hSl; simp only [fill, Nat.reduceAdd] at hx; subst hx; clear hSl
      show Exec _ _ (Code.cond _ _ _) _ _ _
      refine exec_cond (b := false) rfl (fun h => by cases h) (fun _ => exec_skip ?_)
      show Exec _ _ (Code.seq (sub pcode11 [1, 1, 1, 1, 1, 1, 1, 1, 1, 1, 0]) (Code.seq _ _)) _ _ _
      refine exec_seq ((sp_judges (s := s) (bb := bb) hf HC.out hF hXV hBV ?_).mono ?_)
      · simp [Slots, Fits]
      clear hXV hBV x
      clear V
      intro e t V hh
      obtain ⟨rfl, hBV, hSl⟩ := only_normal hh
      obtain ⟨x, hx⟩ := Slots.open_ hSl; simp only [fill, Nat.reduceAdd] at hx; subst hx; clear hSl
      show Exec _ _ (Code.seq _ _) _ _ _
      refine exec_seq (exec_region_o fun ds => ?_)
      gi_wp2_with fail
      refine ⟨trivial, rfl, (callsIn_wide.2 (alive14 V)).mono ?_⟩
      rintro e Y ⟨rfl, hy⟩
      have hBY := hBV.trans (hy.mono hBV.size)
      gi_wp2
      refine eq_mk (Keep.of_below hy) ?_
      show Exec _ _ _ _ _ _
      exact exec_ret ⟨.inr rfl, fun W' hG => ⟨.bool true, by simp [results, Try.f11, go_sem], rfl, hBY.trans (hG.below (Nat.le_refl _) hBY.size)⟩⟩
end Go.Proofs.Ytbdmmikflkpmpaa
end

section
namespace Go.Proofs.Ytbdmmikflkpmpaa.panelSpare
open Go.ChangeShapes Go.WideShapes Go.ChangeAt Go.RowKit
open Go.ChangeMaps (open_string shut_string)
set_option linter.unusedVariables false
theorem own : ownKnob Try.prog.godebug = none := by kernel_rfl
theorem laidOut : laidOutB Try.prog = true := by kernel_rfl
set_option maxRecDepth 100000 in
theorem lifted (os : Os) (started : os.Started) (H : Type) (enc : TypeId × Value → H) :
    ReturnsInHanded {} Try.checked os 11 .any (Rows.panelSpareSpec.pre6 enc Try.prog Try.f11 Rows.panelSpareRow.domain false) (Rows.panelSpareSpec.post enc Try.prog Try.f11 false true false false) := by
  refine returnsInHanded_of_change_sized (C := Try.checked) own started (by kernel_rfl) Try.func11
    (ChangeSpec.witness6 (enc := enc) (C := Try.checked) false ⟨#[], #[.agg #[.slice none 0 0, .slice none 0 0, .slice none 0 0]], []⟩ 8 (by kernel_rfl) (by kernel_rfl) (by kernel_rfl) (by kernel_rfl)) ?_
  intro W base args ds gs before hval0 hW hcnd hsz0 _
  have hsz : (DataW.weightsEach Try.prog (Try.f11.params.toList ++ Rows.panelSpareSpec.plain.varTypes Try.prog) (ds ++ gs)).all (· ≤ reachBytes) = true := hsz0
  have hval : ∀ (j : Nat) t v, Try.f11.params[j]? = some t → args[j]? = some v → Value.okWide Try.prog W .any base t v := hval0
  have hW' := hW
  obtain ⟨p, q, hA0, hV, rfl, hfz, hnd⟩ := hW
  have hA : DataW.TrodAll enc Try.prog W 0 (fun _ => true) true Try.f11.params.toList args.toList ds p := hA0
  rw [Try.params11] at hA hval hsz
  obtain ⟨v0, vs0, d0, ds0, p0, q0, hargs, rfl, rfl, h0, r0⟩ := trodAll_cons hA
  obtain ⟨rfl, rfl, rfl⟩ := trodAll_nil r0
  obtain rfl : args = #[v0] := by cases args; simp_all
  obtain ⟨rfl, rfl⟩ := trodVars_none hV
  have k0 := h0
  have lt0 : ∀ x ∈ p0, x.block < W.heap.size := by obtain ⟨m, hm⟩ := k0; exact DataW.trod_lt m _ _ _ hm
  obtain ⟨F0, rfl, hF0⟩ := xp_open (hval 0 25 v0 rfl rfl) h0
  clear hA0 hval0 hsz0 hsz
  refine (spare_law F0 W hF0).mono fun e W' ⟨he, bel⟩ => ?_
  subst he
  exact ⟨_, rfl, _, _, _, [], _, [], hW', trodAll_mk1 (shut_bool Try.underlying4 _), (trodAll_cons_mk (Below.trod laidOut (by kernel_rfl) (of_decide_eq_true (by kernel_rfl)) k0 bel lt0) trodAll_mk0), rfl, bel.frame _, fun h => by cases h⟩
theorem over : Rows.panelSpareRow.holds Try.pinned (OpenSpec.ofChange Rows.panelSpareSpec) :=
  OpenClaim.holds_of_wide 11 Try.f11 rfl rfl rfl rfl rfl rfl rfl ⟨rfl, rfl, rfl, rfl, rfl⟩ rfl rfl rfl rfl rfl (by kernel_rfl) Try.func11 (by kernel_rfl)
    (of_decide_eq_true (by kernel_rfl)) (by unfold Func.isWrapper; first | (rw [if_pos (by decide +kernel)]; kernel_rfl) | (rw [if_neg (by decide +kernel)]; exact ⟨rfl, rfl⟩))
    (fun os started H enc _ => lifted os started H enc)
theorem proved : Rows.PanelSpareSaid := over
#print axioms proved
end Go.Proofs.Ytbdmmikflkpmpaa.panelSpare
namespace Go.Proofs.Ytbdmmikflkpmpaa
/-- The row, under a short name, for the claim. -/
theorem panelSpare_holds : Rows.PanelSpareSaid := panelSpare.proved
end Go.Proofs.Ytbdmmikflkpmpaa
end
