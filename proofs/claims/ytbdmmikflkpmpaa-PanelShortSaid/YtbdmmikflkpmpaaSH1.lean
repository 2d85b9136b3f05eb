/- PanelShort returns true -/
import Derived.Test.YtbdmmikflkpmpaaProg
import Derived.Test.YtbdmmikflkpmpaaNA1
import Derived.Test.YtbdmmikflkpmpaaWV1
import Derived.Test.YtbdmmikflkpmpaaNA3
import Derived.Maps.AppendAt
import Derived.Test.YtbdmmikflkpmpaaNA2
import Derived.WalkKit
import Derived.WalkSpells
import Derived.WalkLawsBesides
import Derived.Outline
import Derived.OwnWalkIn
import Derived.TacticsInMore
import Derived.LoopNIn
import Derived.LoopIn
import Derived.Shelf.RegionOpen
import Derived.Deep.QuietTactic
import Derived.BigQuiet
import Derived.Lib.Hide
import Derived.Test.YtbdmmikflkpmpaaNA4
import Derived.Lib.MinMax
import Derived.Test.YtbdmmikflkpmpaaRows
import Derived.ProofKit
import Derived.OpenShut
import Derived.ShutString
import Derived.ChangeOld
import Derived.Below
import Derived.SizedLaws
section
set_option linter.unusedVariables false
set_option linter.unusedSimpArgs false
namespace Go.Proofs.Ytbdmmikflkpmpaa
open Go.RowKit Go.TL Go.Shelf Go.Pn
attribute [local go_sem] Oper.semAt_some
attribute [local go_sem] run_store_func
def noTo (a : XP) (s k : Nat) : List Nat := (List.range a.N.length).map fun i => if decide (i < k) && s.testBit i then a.s3.2.1.getD i 0 else 0
theorem noTo_len (a : XP) (s k : Nat) : (noTo a s k).length = a.N.length := by simp [noTo]
theorem noTo_get {a : XP} {s k i : Nat} (hi : i < a.N.length) : (noTo a s k)[i]? = some (if decide (i < k) && s.testBit i then a.s3.2.1.getD i 0 else 0) := by
  unfold noTo
  rw [List.getElem?_map, List.getElem?_range hi]
  rfl
theorem s3_nlen (a : XP) : a.s3.2.1.length = a.N.length := by simp [XP.s3]
theorem noTo_zero (a : XP) (s : Nat) : ((noTo a s 0).map iv).toArray = zeroI a.N.length := by
  have h1 : noTo a s 0 = List.replicate a.N.length 0 := by
    refine List.ext_getElem? fun i => ?_
    by_cases hi : i < a.N.length
    · rw [noTo_get hi, List.getElem?_replicate, if_pos hi]
      simp
    · rw [List.getElem?_eq_none (by rw [noTo_len]; omega), List.getElem?_eq_none (by simp; omega)]
  apply Array.ext'
  have h2 : (zeroI a.N.length).toList = List.replicate a.N.length (iv 0) := toList_madeCells_one _ _
  rw [h2, h1]
  simp
theorem noTo_succ {a : XP} {s k : Nat} (hk : k < a.N.length) : noTo a s (k + 1) = if s.testBit k then (noTo a s k).set k (a.s3.2.1.getD k 0) else noTo a s k := by
  refine List.ext_getElem? fun i => ?_
  by_cases hi : i < a.N.length
  · rw [noTo_get hi]
    cases hb : s.testBit k with
    | true =>
      rw [if_pos rfl, List.getElem?_set, noTo_len]
      by_cases e : k = i
      · subst e
        simp [hb, hk]
      · rw [if_neg e, noTo_get hi]
        have : decide (i < k + 1) = decide (i < k) := decide_eq_decide.2 (by omega)
        rw [this]
    | false =>
      rw [if_neg (show ¬ (false = true) by decide)]
      refine Eq.trans ?_ (noTo_get hi).symm
      by_cases e : i = k
      · subst e
        simp [hb]
      · have : decide (i < k + 1) = decide (i < k) := decide_eq_decide.2 (by omega)
        rw [this]
  · rw [List.getElem?_eq_none (by rw [noTo_len]; omega)]
    split
    · rw [List.getElem?_eq_none (by rw [List.length_set, noTo_len]; omega)]
    · rw [List.getElem?_eq_none (by rw [noTo_len]; omega)]
theorem noTo_end (a : XP) (s : Nat) : noTo a s a.N.length = onlyN s a.s3.2.1 := by
  refine List.ext_getElem? fun i => ?_
  by_cases hi : i < a.N.length
  · have hl : i < (onlyN s a.s3.2.1).length := by rw [onlyN_len, s3_nlen]; exact hi
    rw [noTo_get hi, List.getElem?_eq_getElem hl, ← getD_lt hl, onlyN_get, decide_eq_true hi, Bool.true_and]
  · rw [List.getElem?_eq_none (by rw [noTo_len]; omega), List.getElem?_eq_none (by rw [onlyN_len, s3_nlen]; omega)]
/-- The panels with some plots alone. -/
def XP.onlyX (a : XP) (g s : Nat) : XP := { a with AN := some ⟨g, 0, none⟩, cN := a.N.length, N := (onlyN s a.s3.2.1).map fun n : Nat => (n : Int) }
theorem XP.onlyX_s3 (a : XP) (g s : Nat) : (a.onlyX g s).s3 = a.s3.only s := by
  show (_, _, _) = (_, _, _)
  congr 1
  congr 1
  show ((onlyN s a.s3.2.1).map _).map _ = _
  rw [List.map_map]
  conv => rhs; rw [← List.map_id (onlyN s a.s3.2.1)]
  exact List.map_congr_left fun n _ => Int.toNat_natCast n
theorem XP.onlyX_fine {a : XP} (hf : a.Fine) (g s : Nat) : (a.onlyX g s).Fine := by
  have hlen : (onlyN s a.s3.2.1).length = a.N.length := by rw [onlyN_len, s3_nlen]
  refine ⟨hf.j, by show ((onlyN s a.s3.2.1).map _).length ≤ 6; rw [List.length_map, hlen]; exact hf.p, hf.k, hf.lb, ?_, ?_⟩
  · intro y hy
    obtain ⟨n, hn, rfl⟩ := List.mem_map.1 hy
    rcases onlyN_mem hn with rfl | h
    · omega
    · obtain ⟨z, hz, rfl⟩ := List.mem_map.1 (show n ∈ a.N.map Int.toNat from h)
      have := hf.nb z hz
      omega
  · intro y hy
    have := hf.kb y hy
    show _ ∧ _ ∧ y.2 < (((onlyN s a.s3.2.1).map _).length : Int)
    rw [List.length_map, hlen]
    exact this
def I28 (w : World) (a : XP) (s g : Nat) (n : Nat) (t : Array Value) (W : World) : Prop :=
  ∃ k : Nat, k ≤ a.N.length ∧ n = a.N.length - k ∧ Below w.heap.size w W ∧ W.heap[w.heap.size + 1]? = some (.cells #[.slice none 0 0, .slice none 0 0, .slice none 0 0] 25 (0, 0)) ∧ W.heap[w.heap.size + 1 + 1]? = some (.cells #[a.sL, .slice (some ⟨g, 0, none⟩) a.N.length a.N.length, a.sK] 25 (0, 0)) ∧ W.heap[g]? = some (.cells ((noTo a s k).map iv).toArray 3 (0, 0)) ∧ Slots (none :: some (iv s) :: some (.pointer (some ⟨w.heap.size, 0, none⟩)) :: none :: some (.pointer (some ⟨w.heap.size + 1, 0, none⟩)) :: some (.pointer (some ⟨w.heap.size + 1 + 1, 0, none⟩)) :: none :: o4 (o4 (some (.slice a.AN a.N.length a.cN) :: some (iv a.N.length) :: some (iv k) :: o16 []))) t
set_option maxRecDepth 100000 in
set_option maxHeartbeats 2000000 in
theorem only28 (a : XP) (hf : a.Fine) (s : Nat) (hs : s < 2 ^ 62) (w : World) (ha : a.At w) : Calls Try.prog 28 #[a.val, iv s] w fun e w' => ∃ g, e = .returned (a.onlyX g s).val ∧ (a.onlyX g s).At w' ∧ Below w.heap.size w w' := by
  have hu25 := Try.underlying25
  have hu22 := Try.underlying22
  have hn6 := hf.p
  refine calls_of_exec Try.func28 rfl ?_
  simp only [Try.ntmps28, List.size_toArray, List.length_cons, List.length_nil, Nat.reduceAdd, Nat.reduceSub, Array.replicate_succ, Array.replicate_zero, List.push_toArray, List.append_toArray, List.nil_append, List.cons_append]
  simp only [XP.val]
  refine exec_seq (exec_region_o fun ds => ?_)
  gi_wp2
  refine eq_mk (((Keep.refl _).alloc _).alloc _) ?_
  show Exec _ _ (Code.seq _ _) _ ((w.alloc (.cells #[a.sL, a.sN, a.sK] 25)).alloc (.cells #[.slice none 0 0, .slice none 0 0, .slice none 0 0] 25)) _
  have hB := ((Below.refl w.heap.size w).alloc (Nat.le_refl _) (.cells #[a.sL, a.sN, a.sK] 25)).alloc (by simp) (.cells #[.slice none 0 0, .slice none 0 0, .slice none 0 0] 25)
  have b2 : PBx ((w.alloc (.cells #[a.sL, a.sN, a.sK] 25)).alloc (.cells #[.slice none 0 0, .slice none 0 0, .slice none 0 0] 25)) w.heap.size a := ⟨heap_next (World.alloc_heap_new _ _) _, ha.below hB⟩
  have b4 : ((w.alloc (.cells #[a.sL, a.sN, a.sK] 25)).alloc (.cells #[.slice none 0 0, .slice none 0 0, .slice none 0 0] 25)).heap[w.heap.size + 1]? = some (.cells #[.slice none 0 0, .slice none 0 0, .slice none 0 0] 25 (0, 0)) := by
    have := World.alloc_heap_new (w.alloc (.cells #[a.sL, a.sN, a.sK] 25)) (.cells #[.slice none 0 0, .slice none 0 0, .slice none 0 0] 25)
    rwa [World.size_alloc] at this
  have hsz : ((w.alloc (.cells #[a.sL, a.sN, a.sK] 25)).alloc (.cells #[.slice none 0 0, .slice none 0 0, .slice none 0 0] 25)).heap.size = w.heap.size + 1 + 1 := by simp
  generalize (w.alloc (.cells #[a.sL, a.sN, a.sK] 25)).alloc (.cells #[.slice none 0 0, .slice none 0 0, .slice none 0 0] 25) = X at *
  have hh := b2.heap
  simp only [XP.sL, XP.sN, XP.sK] at hh
  have c0 := cells_get (cs := [_, _, _]) (k := 0) hh rfl
  have c1 := cells_get (cs := [_, _, _]) (k := 1) hh rfl
  have c2 := cells_get (cs := [_, _, _]) (k := 2) hh rfl
  clear hh
  refine exec_seq (exec_region_o fun ds => ?_)
  gi_wp2
  refine eq_mk ((Keep.refl _).alloc _) ?_
  show Exec _ _ (Code.seq _ _) _ (X.alloc (.cells #[a.sL, a.sN, a.sK] 25)) _
  have hal := (Below.refl X.heap.size X).alloc (Nat.le_refl _) (.cells #[a.sL, a.sN, a.sK] 25)
  have b5 : (X.alloc (.cells #[a.sL, a.sN, a.sK] 25)).heap[X.heap.size]? = some (.cells #[a.sL, a.sN, a.sK] 25 (0, 0)) := World.alloc_heap_new _ _
  have hsY : (X.alloc (.cells #[a.sL, a.sN, a.sK] 25)).heap.size = X.heap.size + 1 := by simp
  have d2 := b2.keep hal
  have d4 := (hal.block _ (heap_lt b4)).trans b4
  have hBY := hB.trans (hal.mono hB.size)
  clear c0 c1 c2 b2 b4 hal hB
  generalize X.alloc (.cells #[a.sL, a.sN, a.sK] 25) = Y at *
  rw [hsz] at hsY b5
  clear hsz
  clear X
  have hmk := run_make22 a.N.length (by omega) Y
  have hh := d2.heap
  simp only [XP.sN] at hh
  have c1 := cells_get (cs := [_, _, _]) (k := 1) hh rfl
  have hb5 := b5
  simp only [XP.sL, XP.sN, XP.sK] at hb5
  have hnx := heap_next hb5 (.cells (zeroI a.N.length) 3)
  have e1 := cells_get (cs := [_, _, _]) (k := 1) hnx rfl
  have ef : (Y.alloc (.cells (zeroI a.N.length) 3)).frozen? ⟨w.heap.size + 1 + 1, 1, none⟩ = false := frozen_cells hnx
  have hzz : (Y.alloc (.cells (zeroI a.N.length) 3)).heap[Y.heap.size]? = some (.cells (zeroI a.N.length) 3 (0, 0)) := World.alloc_heap_new _ _
  refine exec_seq (exec_region_o fun ds => ?_)
  gi_wp2
  refine eq_mk (((Keep.refl _).setCell _ _).alloc _) ?_
  show Exec _ _ (Code.seq (Code.seq _ _) _) _ _ _
  have hst : (Y.setCell ⟨w.heap.size + 1 + 1, 1, none⟩ (.slice (some ⟨w.heap.size + 1 + 1 + 1, 0, none⟩) a.N.length a.N.length)).heap.size = w.heap.size + 1 + 1 + 1 := by simp [hsY]
  have f5 : ((Y.setCell ⟨w.heap.size + 1 + 1, 1, none⟩ (.slice (some ⟨w.heap.size + 1 + 1 + 1, 0, none⟩) a.N.length a.N.length)).alloc (.cells (zeroI a.N.length) 3)).heap[w.heap.size + 1 + 1]? = some (.cells #[a.sL, .slice (some ⟨w.heap.size + 1 + 1 + 1, 0, none⟩) a.N.length a.N.length, a.sK] 25 (0, 0)) := heap_next (box_set _ _ 1 [_, _, _] 25 _ b5) _
  have fg : ((Y.setCell ⟨w.heap.size + 1 + 1, 1, none⟩ (.slice (some ⟨w.heap.size + 1 + 1 + 1, 0, none⟩) a.N.length a.N.length)).alloc (.cells (zeroI a.N.length) 3)).heap[w.heap.size + 1 + 1 + 1]? = some (.cells ((noTo a s 0).map iv).toArray 3 (0, 0)) := by
    rw [noTo_zero]
    have := World.alloc_heap_new (Y.setCell ⟨w.heap.size + 1 + 1, 1, none⟩ (.slice (some ⟨w.heap.size + 1 + 1 + 1, 0, none⟩) a.N.length a.N.length)) (.cells (zeroI a.N.length) 3)
    rwa [hst] at this
  have f4 : ((Y.setCell ⟨w.heap.size + 1 + 1, 1, none⟩ (.slice (some ⟨w.heap.size + 1 + 1 + 1, 0, none⟩) a.N.length a.N.length)).alloc (.cells (zeroI a.N.length) 3)).heap[w.heap.size + 1]? = some (.cells #[.slice none 0 0, .slice none 0 0, .slice none 0 0] 25 (0, 0)) := heap_next (box_far _ _ _ _ _ _ d4 (by omega)) _
  have f2 : ((Y.setCell ⟨w.heap.size + 1 + 1, 1, none⟩ (.slice (some ⟨w.heap.size + 1 + 1 + 1, 0, none⟩) a.N.length a.N.length)).alloc (.cells (zeroI a.N.length) 3)).heap[w.heap.size]? = some (.cells #[a.sL, a.sN, a.sK] 25 (0, 0)) := heap_next (box_far _ _ _ _ _ _ d2.heap (by omega)) _
  have hBS : Below w.heap.size w (Y.setCell ⟨w.heap.size + 1 + 1, 1, none⟩ (.slice (some ⟨w.heap.size + 1 + 1 + 1, 0, none⟩) a.N.length a.N.length)) := hBY.setCell (by show w.heap.size ≤ w.heap.size + 1 + 1; omega) _
  have hBZ : Below w.heap.size w ((Y.setCell ⟨w.heap.size + 1 + 1, 1, none⟩ (.slice (some ⟨w.heap.size + 1 + 1 + 1, 0, none⟩) a.N.length a.N.length)).alloc (.cells (zeroI a.N.length) 3)) := hBS.alloc hBS.size _
  clear hnx hzz b5 hb5 e1 ef c1 hh hmk d2 d4 hBY hsY hst hBS
  generalize ((Y.setCell ⟨w.heap.size + 1 + 1, 1, none⟩ (.slice (some ⟨w.heap.size + 1 + 1 + 1, 0, none⟩) a.N.length a.N.length)).alloc (.cells (zeroI a.N.length) 3)) = Z at *
  clear Y
  have hg : w.heap.size + 1 + 1 < w.heap.size + 1 + 1 + 1 := Nat.lt_succ_self _
  generalize w.heap.size + 1 + 1 + 1 = g at *
  have hh := f2
  simp only [XP.sN] at hh
  have c1 := cells_get (cs := [_, _, _]) (k := 1) hh rfl
  clear hh
  refine exec_seq (exec_seq (exec_region_o fun ds => ?_))
  gi_wp2
  refine eq_mk (Keep.refl _) ?_
  show Exec _ _ (Code.block _ _) _ _ _
  refine exec_block ?_
  refine exec_loop (I28 w a s g) a.N.length ⟨0, by omega, rfl, hBZ, f4, f5, fg, by simp [Slots, Fits]⟩ ?_
  clear hBZ f4 f5 fg f2 c1
  clear Z
  rintro n t W ⟨k, hk, hn, hV, h4, h5, hgg, hSl⟩
  have HN := Lib.hid hn
  clear hn
  obtain ⟨x, hx⟩ := Slots.open_ hSl; simp only [fill, Nat.reduceAdd] at hx; subst hx; clear hSl
  show Exec _ _ (Code.seq _ (Code.seq _ _)) _ _ _
  refine exec_seq (exec_region_o fun ds => ?_)
  gi_wp2
  refine eq_mk (Keep.refl _) ?_
  show Exec _ _ (Code.seq (Code.cond _ _ _) _) _ _ _
  refine exec_seq (exec_cond (b := decide (k < a.N.length)) (by first | rfl | (show Value.bool _ = _; congr 1; exact decide_eq_decide.2 (by omega))) (fun hp => exec_skip ?_) (fun hp => exec_exit ?_))
  · have hkl : k < a.N.length := by have := of_decide_eq_true hp; omega
    obtain ⟨ad, hA, hcl⟩ := row_int (ha.below hV).n hkl
    have hyb := hf.nb _ (List.getElem_mem hkl)
    obtain ⟨y, hy⟩ : ∃ y : Nat, a.N[k] = y := ⟨(a.N[k]).toNat, by omega⟩
    have hsy : a.s3.2.1.getD k 0 = y := by
      show (a.N.map Int.toNat).getD k 0 = y
      rw [List.getD_eq_getElem?_getD, List.getElem?_map, List.getElem?_eq_getElem hkl]
      simp [hy]
    rw [hy] at hcl
    have hkI : (k : Int) < a.N.length := by omega
    have hsucc := noTo_succ (a := a) (s := s) hkl
    have hget := noTo_get (a := a) (s := s) (k := k) hkl
    rw [show decide (k < k) = false from decide_eq_false (by omega)] at hget
    simp only [Bool.false_and, Bool.false_eq_true, if_false] at hget
    rw [hsy] at hsucc
    have HS := Lib.hid hsucc
    clear hsucc hy hsy hyb
    simp only [hA]
    have HAd := Lib.hid hA
    clear hA
    refine exec_cut (fun t' Y => Below w.heap.size w Y ∧ Y.heap[w.heap.size + 1]? = some (.cells #[.slice none 0 0, .slice none 0 0, .slice none 0 0] 25 (0, 0)) ∧ Y.heap[w.heap.size + 1 + 1]? = some (.cells #[a.sL, .slice (some ⟨g, 0, none⟩) a.N.length a.N.length, a.sK] 25 (0, 0)) ∧ Y.heap[g]? = some (.cells ((noTo a s (k + 1)).map iv).toArray 3 (0, 0)) ∧ Slots (none :: some (iv s) :: some (.pointer (some ⟨w.heap.size, 0, none⟩)) :: none :: some (.pointer (some ⟨w.heap.size + 1, 0, none⟩)) :: some (.pointer (some ⟨w.heap.size + 1 + 1, 0, none⟩)) :: none :: o4 (o4 (some (.slice a.AN a.N.length a.cN) :: some (iv a.N.length) :: some (iv k) :: o16 []))) t') (exec_block ?_) ?_
    · show Exec _ _ (Code.seq _ (Code.seq _ _)) _ _ _
      refine exec_seq (exec_region_o fun ds => ?_)
      gi_wp2
      refine eq_mk (Keep.refl _) ?_
      show Exec _ _ (Code.seq _ _) _ _ _
      have hbit := bit_i s k hs
      refine exec_seq (exec_region_o fun ds => ?_)
      gi_wp2
      refine eq_mk (Keep.refl _) ?_
      show Exec _ _ (Code.cond _ _ _) _ _ _
      clear hbit
      cases hq : s.testBit k with
      | false =>
        refine exec_cond (b := false) rfl (fun h => by cases h) (fun _ => exec_skip ?_)
        refine ⟨hV, h4, h5, ?_, by simp [Slots, Fits, HAd.out]⟩
        rw [HS.out, hq, if_neg (by simp)]
        exact hgg
      | true =>
        have HQ := Lib.hid hq
        clear hq
        refine exec_cond (b := true) rfl (fun _ => ?_) (fun h => by cases h)
        have d0 := cells_get (cs := [_, _, _]) (k := 1) h5 rfl
        have ck : W.cell? ⟨g, k, none⟩ = some (iv 0) := cells_get (cs := (noTo a s k).map iv) hgg (by rw [List.getElem?_map, hget]; rfl)
        have cf : W.frozen? ⟨g, k, none⟩ = false := frozen_cells hgg
        refine exec_region_o fun ds => ?_
        gi_wp2
        refine eq_mk ((Keep.refl _).setCell _ _) ⟨hV.setCell (p := ⟨g, k, none⟩) (by show w.heap.size ≤ g; omega) _, box_far _ _ _ _ _ _ h4 (by omega), box_far _ _ _ _ _ _ h5 (by omega), ?_, by simp [Slots, Fits, HAd.out]⟩
        rw [HS.out, HQ.out, if_pos rfl, ← map_set]
        exact box_set W g k _ 3 _ hgg
    · clear hV h4 h5 hgg hcl x
      clear W
      rintro t' Y ⟨hV, h4, h5, hgg, hSl⟩
      obtain ⟨x, hx⟩ := Slots.open_ hSl; simp only [fill, Nat.reduceAdd] at hx; subst hx; clear hSl
      have hw : IntKind.i64.wrap ((k : Int) + 1) = ((k + 1 : Nat) : Int) := by rw [IntWalk.i64_in _ (by omega)]; norm_cast
      refine exec_region_o fun ds => ?_
      gi_wp2
      exact eq_mk (Keep.refl _) ⟨n - 1, by rw [HN.out]; omega, k + 1, by omega, by rw [HN.out]; omega, hV, h4, h5, hgg, by simp only [Slots, Fits, and_self]; simp [HAd.out]⟩
  · have hkl : k = a.N.length := by have := of_decide_eq_false hp; omega
    rw [hkl, noTo_end] at hgg
    have hlen : (onlyN s a.s3.2.1).length = a.N.length := by rw [onlyN_len, s3_nlen]
    have h5' := h5
    simp only [XP.sL, XP.sK] at h5'
    have c0 := cells_get (cs := [_, _, _]) (k := 0) h5' rfl
    have c1 := cells_get (cs := [_, _, _]) (k := 1) h5' rfl
    have c2 := cells_get (cs := [_, _, _]) (k := 2) h5' rfl
    have d0 := cells_get (cs := [_, _, _]) (k := 0) h4 rfl
    have d1 := cells_get (cs := [_, _, _]) (k := 1) h4 rfl
    have d2 := cells_get (cs := [_, _, _]) (k := 2) h4 rfl
    have df : ∀ o, W.frozen? ⟨w.heap.size + 1, o, none⟩ = false := fun o => frozen_cells h4
    have e0 := box_set _ (w.heap.size + 1) 0 [.slice none 0 0, .slice none 0 0, .slice none 0 0] 25 (.slice a.AL a.L.length a.cL) h4
    have e1 := box_set _ (w.heap.size + 1) 1 [.slice a.AL a.L.length a.cL, .slice none 0 0, .slice none 0 0] 25 (.slice (some ⟨g, 0, none⟩) a.N.length a.N.length) e0
    have e2 := box_set _ (w.heap.size + 1) 2 [.slice a.AL a.L.length a.cL, .slice (some ⟨g, 0, none⟩) a.N.length a.N.length, .slice none 0 0] 25 (.slice a.AK a.K.length a.cK) e1
    have hB := ((hV.setCell (p := ⟨w.heap.size + 1, 0, none⟩) (by show w.heap.size ≤ w.heap.size + 1; omega) (.slice a.AL a.L.length a.cL)).setCell (p := ⟨w.heap.size + 1, 1, none⟩) (by show w.heap.size ≤ w.heap.size + 1; omega) (.slice (some ⟨g, 0, none⟩) a.N.length a.N.length)).setCell (p := ⟨w.heap.size + 1, 2, none⟩) (by show w.heap.size ≤ w.heap.size + 1; omega) (.slice a.AK a.K.length a.cK)
    have hgf := box_far _ (w.heap.size + 1) 2 g (.slice a.AK a.K.length a.cK) _ (box_far _ (w.heap.size + 1) 1 g (.slice (some ⟨g, 0, none⟩) a.N.length a.N.length) _ (box_far _ (w.heap.size + 1) 0 g (.slice a.AL a.L.length a.cL) _ hgg (by omega)) (by omega)) (by omega)
    show Exec _ _ (Code.seq _ _) _ _ _
    refine exec_seq (exec_region_o fun ds => ?_)
    gi_wp2
    refine eq_mk ((((Keep.refl _).setCell _ _).setCell _ _).setCell _ _) ?_
    show Exec _ _ _ _ _ _
    refine exec_ret ⟨.inr rfl, fun W' hG => ?_⟩
    have g2 := hG.same _ _ e2 (.inr rfl)
    have k0 := cells_get (cs := [_, _, _]) (k := 0) g2 rfl
    have k1 := cells_get (cs := [_, _, _]) (k := 1) g2 rfl
    have k2 := cells_get (cs := [_, _, _]) (k := 2) g2 rfl
    have hBG := hB.trans (hG.below (Nat.le_refl _) hB.size)
    have hat0 := ha.below hBG
    refine ⟨.agg #[.slice a.AL a.L.length a.cL, .slice (some ⟨g, 0, none⟩) a.N.length a.N.length, .slice a.AK a.K.length a.cK], by simp [results, Try.f28, go_sem, hu25, k0, k1, k2], g, ?_, ⟨hat0.l, ?_, hat0.k, hat0.l4, by show ((onlyN s a.s3.2.1).map _).length ≤ 40; rw [List.length_map, hlen]; omega, hat0.k4⟩, hBG⟩
    · simp [XP.val, XP.sL, XP.sN, XP.sK, XP.onlyX, hlen]
    · show RowV W' (some ⟨g, 0, none⟩) (((onlyN s a.s3.2.1).map fun n : Nat => (n : Int)).map vi)
      rw [List.map_map]
      exact row_of_cells (hG.same _ _ hgf (.inr rfl))
set_option maxRecDepth 100000 in
set_option maxHeartbeats 1000000 in
theorem can27 (a : XP) (hf : a.Fine) (s : Nat) (hs : s < 2 ^ 62) (b : Nat) (w : World) (hb : PBx w b a) : Calls Try.prog 27 #[iv s, .pointer (some ⟨b, 0, none⟩)] w fun e w' => e = .returned (.bool (canV (toP (a.s3.only s)))) ∧ Below w.heap.size w w' := by
  have hu25 := Try.underlying25
  obtain ⟨R, hR⟩ : ∃ R, canV (toP (a.s3.only s)) = R := ⟨_, rfl⟩
  rw [hR]
  have HR := Lib.hid hR
  clear hR
  refine calls_of_exec Try.func27 rfl ?_
  simp only [Try.ntmps27, List.size_toArray, List.length_cons, List.length_nil, Nat.reduceAdd, Nat.reduceSub, Array.replicate_succ, Array.replicate_zero, List.push_toArray, List.append_toArray, List.nil_append, List.cons_append]
  refine exec_seq (exec_region_o fun ds => ?_)
  gi_wp2
  refine eq_mk (Keep.refl w) ?_
  show Exec _ _ (Code.seq _ _) _ _ _
  have c0 := cells_get (cs := [_, _, _]) (k := 0) hb.heap rfl
  have c1 := cells_get (cs := [_, _, _]) (k := 1) hb.heap rfl
  have c2 := cells_get (cs := [_, _, _]) (k := 2) hb.heap rfl
  refine exec_seq (exec_region_o fun ds => ?_)
  gi_wp2_with fail
  refine ⟨trivial, rfl, (callsIn_wide.2 (only28 a hf s hs w hb.at_)).mono ?_⟩
  rintro e X ⟨g, rfl, ha, hx⟩
  have hfy := XP.onlyX_fine hf g s
  have hs3 := XP.onlyX_s3 a g s
  have hres : (sitA (a.onlyX g s)).2 = if R then 0 else 4 := by
    unfold sitA
    rw [isP_of_fine hfy, if_pos rfl, hs3, HR.out]
    cases R <;> rfl
  generalize a.onlyX g s = y at *
  gi_wp2_with fail
  refine ⟨trivial, rfl, (callsIn_wide.2 (Sit_any y X ha)).mono ?_⟩
  rintro e Y ⟨A2, c2', rfl, hr, hy⟩
  rw [hres]
  have hxy := hx.trans (hy.mono hx.size)
  clear hr hres
  cases R with
  | true =>
    simp only [if_true]
    gi_wp2
    refine eq_mk (Keep.of_below hxy) ?_
    show Exec _ _ (Code.seq _ _) _ _ _
    refine exec_seq (exec_region_o fun ds => ?_)
    gi_wp2
    refine eq_mk (Keep.refl _) ?_
    exact exec_ret ⟨.inr rfl, fun W' hG => ⟨.bool true, by simp [results, Try.f27, go_sem], rfl, hxy.trans (hG.below (Nat.le_refl _) hxy.size)⟩⟩
  | false =>
    simp only [Bool.false_eq_true, if_false]
    gi_wp2
    refine eq_mk (Keep.of_below hxy) ?_
    show Exec _ _ (Code.seq _ _) _ _ _
    refine exec_seq (exec_region_o fun ds => ?_)
    gi_wp2
    refine eq_mk (Keep.refl _) ?_
    exact exec_ret ⟨.inr rfl, fun W' hG => ⟨.bool false, by simp [results, Try.f27, go_sem], rfl, hxy.trans (hG.below (Nat.le_refl _) hxy.size)⟩⟩
end Go.Proofs.Ytbdmmikflkpmpaa
end

section
set_option linter.unusedVariables false
set_option linter.unusedSimpArgs false
namespace Go.Proofs.Ytbdmmikflkpmpaa
open Go.RowKit Go.TL Go.Shelf Go.Pn
attribute [local go_sem] Oper.semAt_some
attribute [local go_sem] run_store_func
theorem sumN_lt {f g : Nat → Nat} {n i : Nat} (hi : i < n) (h : ∀ k, k < n → f k ≤ g k) (hs : f i < g i) : sumN f n < sumN g n := by
  refine Nat.lt_of_le_of_ne (sumN_le n h) fun e => ?_
  have := sumN_eq_all n h e i hi
  omega
theorem sumN_if (T : Bool) (f : Nat → Nat) (n : Nat) : sumN (fun j => if T then f j else 0) n = if T then sumN f n else 0 := by
  cases T
  · exact sumN_zero n
  · rfl
def needS (P : Pnl) (T : Nat → Bool) : Nat := sumN (fun p => if T p then P.needs.getD p 0 else 0) P.needs.length
def capS (P : Pnl) (T : Nat → Bool) : Nat := sumN (fun j => min (P.loads.getD j 0) (sumN (fun p => b1 (T p && (P.fit.getD p 0).testBit j)) P.needs.length)) P.loads.length
theorem sum_at (a : Asg) (T : Nat → Bool) (nP nJ : Nat) : sumN (fun p => if T p then cntJ a nJ p else 0) nP = sumN (fun j => sumN (fun p => b1 (T p && a p j)) nP) nJ := by
  rw [← sumN_swap]
  refine sumN_congr nP fun p _ => ?_
  show (if T p then sumN (fun j => b1 (a p j)) nJ else 0) = _
  rw [← sumN_if]
  refine sumN_congr nJ fun j _ => ?_
  cases T p <;> rfl
theorem b1_le {x y : Bool} (h : x = true → y = true) : b1 x ≤ b1 y := by
  cases x with
  | false => exact Nat.zero_le _
  | true => rw [h rfl]; exact Nat.le_refl _
/-- There is a seating just when no plots need more than can be had. -/
theorem can_hall {P : Pnl} (hP : P.Ok) : canV P = true ↔ ∀ T : Nat → Bool, needS P T ≤ capS P T := by
  constructor
  · intro h T
    obtain ⟨g, hg⟩ := (can_is hP).1 h
    have h1 : needS P T = sumN (fun p => if T p then cntJ g P.loads.length p else 0) P.needs.length := sumN_congr _ fun p hp => by rw [hg.eq p hp]
    rw [h1, sum_at]
    refine sumN_le _ fun j hj => Nat.le_min.2 ⟨?_, sumN_le _ fun p hp => b1_le fun hb => ?_⟩
    · refine Nat.le_trans (sumN_le _ fun p hp => ?_) (hg.feas.load j hj)
      exact b1_le fun hb => (Bool.and_eq_true_iff.1 hb).2
    · rw [Bool.and_eq_true] at hb ⊢
      exact ⟨hb.1, hg.feas.fit p j hp hj hb.2⟩
  · intro h
    classical
    have hi := seatAll_inv hP P.needs.length (Nat.le_refl _)
    obtain ⟨R, S, h1, h2⟩ := hi.shut
    generalize hst : (seatAll P P.needs.length).2 = st at *
    have hok : Okay P st := by rw [← hst]; exact hi.ok
    have hle : ∀ q, q < P.needs.length → cntJ st.at_ P.loads.length q ≤ P.needs.getD q 0 := fun q hq => by
      have := hi.le q hq
      rw [if_pos hq, hst] at this
      exact this
    have hR : ∀ q, q < P.needs.length → cntJ st.at_ P.loads.length q < P.needs.getD q 0 → R q := fun q hq hlt => h2 q hq (by rw [if_pos hq]; exact hlt)
    refine (can_is hP).2 ⟨st.at_, ⟨⟨fun p j _ _ hh => (hok.fit p j hh).2.2, hok.load⟩, fun p hp => ?_⟩⟩
    refine Classical.byContradiction fun hne => ?_
    have hlt : cntJ st.at_ P.loads.length p < P.needs.getD p 0 := Nat.lt_of_le_of_ne (hle p hp) hne
    have hT := h (fun q => decide (R q))
    have hn : sumN (fun q => if decide (R q) = true then cntJ st.at_ P.loads.length q else 0) P.needs.length < needS P fun q => decide (R q) := by
      refine sumN_lt hp (fun k hk => ?_) ?_
      · split
        · exact hle k hk
        · exact Nat.le_refl _
      · rw [if_pos (decide_eq_true (hR p hp hlt)), if_pos (decide_eq_true (hR p hp hlt))]
        exact hlt
    rw [sum_at] at hn
    have hc : capS P (fun q => decide (R q)) ≤ sumN (fun j => sumN (fun q => b1 (decide (R q) && st.at_ q j)) P.needs.length) P.loads.length := by
      refine sumN_le _ fun j hj => ?_
      by_cases hs : S j
      · refine Nat.le_trans (Nat.min_le_left _ _) (Nat.le_trans (h1.full j hj hs) ?_)
        refine sumN_le _ fun q hq => b1_le fun hb => ?_
        rw [hb, decide_eq_true (h1.back q j hq hj hs hb)]
        rfl
      · refine Nat.le_trans (Nat.min_le_right _ _) (sumN_le _ fun q hq => b1_le fun hb => ?_)
        rw [Bool.and_eq_true] at hb ⊢
        refine ⟨hb.1, ?_⟩
        cases ha : st.at_ q j with
        | true => rfl
        | false => exact absurd (h1.out q j hq hj (of_decide_eq_true hb.1) hb.2 ha) hs
    omega
theorem pop_eq_bits {s t : Nat} (hsub : ∀ i, i < 10 → t.testBit i = true → s.testBit i = true) (h : pop s ≤ pop t) : ∀ i, i < 10 → t.testBit i = s.testBit i := by
  intro i hi
  have h1 : pop t ≤ pop s := sumN_le 10 fun k hk => b1_le (hsub k hk)
  have h2 := sumN_eq_all (f := fun j => b1 (t.testBit j)) (g := fun j => b1 (s.testBit j)) 10 (fun k hk => b1_le (hsub k hk)) (Nat.le_antisymm h1 h) i hi
  cases ha : t.testBit i <;> cases hb : s.testBit i <;> simp [ha, hb, b1] at h2 ⊢
/-- How many of some plots a judge can sit on. -/
def freeT (a : XP) (s j : Nat) : Nat → Nat := sumN fun i => b1 (s.testBit i && !kinB a j i)
def capT (a : XP) (s : Nat) : Nat → Nat := sumN fun j => min (a.s3.1.getD j 0) (freeT a s j a.N.length)
def needT (a : XP) (s : Nat) : Nat → Nat := sumN fun i => if s.testBit i then a.s3.2.1.getD i 0 else 0
structure ShFacts (a : XP) (s : Nat) : Prop where
  pos : 0 < s
  lt : s < 2 ^ a.N.length
  no : canV (toP (a.s3.only s)) = false
  drop : ∀ i, i < a.N.length → s.testBit i = true → canV (toP (a.s3.only (clrB s i))) = true
  min : ∀ t, t < 2 ^ a.N.length → canV (toP (a.s3.only t)) = false → pop s < pop t ∨ (pop s = pop t ∧ s ≤ t)
  less : capT a s a.L.length < needT a s a.N.length
theorem s3_kin {a : XP} (hf : a.Fine) {i j : Nat} (hi : i < a.N.length) (hj : j < a.L.length) (x : Nat) : ((toP (a.s3.only x)).fit.getD i 0).testBit j = !kinB a j i := by
  have hg := XP.good hf
  have hN := s3_nlen a
  have hL : a.s3.1.length = a.L.length := by simp [XP.s3]
  show ((kinF (List.replicate (onlyN x a.s3.2.1).length (2 ^ a.s3.1.length - 1)) a.s3.2.2).getD i 0).testBit j = _
  rw [onlyN_len, kinF_bit _ _ (fun k hk => by have := hg.k1 k hk; have := hg.j; omega) (fun q => rep_lt (two_lt hg.j) q) i j (by rw [List.length_replicate, hN]; exact hi)]
  have e1 : ((List.replicate a.s3.2.1.length (2 ^ a.s3.1.length - 1)).getD i 0).testBit j = true := by
    rw [List.getD_eq_getElem?_getD, List.getElem?_replicate, if_pos (by rw [hN]; exact hi)]
    show (2 ^ a.s3.1.length - 1).testBit j = true
    rw [Nat.testBit_two_pow_sub_one, hL, decide_eq_true hj]
  rw [e1, Bool.true_and]
  congr 1
  unfold kinB
  rw [Bool.eq_iff_iff, decide_eq_true_iff, List.any_eq_true]
  constructor
  · intro h
    obtain ⟨k, hk, e⟩ := List.mem_map.1 (show (j, i) ∈ a.K.map fun k => (k.1.toNat, k.2.toNat) from h)
    have := hf.kb k hk
    simp only [Prod.mk.injEq] at e
    refine ⟨k, hk, ?_⟩
    rw [decide_eq_true (by omega), decide_eq_true (by omega)]
    rfl
  · rintro ⟨k, hk, e⟩
    rw [Bool.and_eq_true, decide_eq_true_iff, decide_eq_true_iff] at e
    refine List.mem_map.2 ⟨k, hk, ?_⟩
    rw [e.1, e.2]
    rfl
theorem only_all {x : S3} (s : Nat) (h : ∀ i, i < x.2.1.length → s.testBit i = true) : x.only s = x := by
  have : onlyN s x.2.1 = x.2.1 := by
    refine List.ext_getElem? fun i => ?_
    by_cases hi : i < x.2.1.length
    · rw [List.getElem?_eq_getElem (by rw [onlyN_len]; exact hi), List.getElem?_eq_getElem hi, ← getD_lt, ← getD_lt, onlyN_get, if_pos (h i hi)]
    · rw [List.getElem?_eq_none (by rw [onlyN_len]; omega), List.getElem?_eq_none (by omega)]
  unfold S3.only
  rw [this]
theorem only_can {a : XP} (hf : a.Fine) (s : Nat) (h : canV (toP a.s3) = true) : canV (toP (a.s3.only s)) = true := by
  have hg := XP.good hf
  have hall : a.s3.only (2 ^ a.N.length - 1) = a.s3 := only_all _ fun i hi => by
    rw [Nat.testBit_two_pow_sub_one, decide_eq_true (by rw [← s3_nlen]; exact hi)]
  refine (can_hall (toP_Fit (hg.only s)).ok).2 fun T => ?_
  have hT := (can_hall (toP_Fit hg).ok).1 h fun p => T p && s.testBit p
  have hln : (toP (a.s3.only s)).needs.length = (toP a.s3).needs.length := onlyN_len _ _
  have hfit : (toP (a.s3.only s)).fit = (toP a.s3).fit := by
    show kinF (List.replicate (onlyN s a.s3.2.1).length _) _ = kinF (List.replicate a.s3.2.1.length _) _
    rw [onlyN_len]
    rfl
  have e1 : needS (toP (a.s3.only s)) T = needS (toP a.s3) fun p => T p && s.testBit p := by
    unfold needS
    rw [hln]
    refine sumN_congr _ fun p hp => ?_
    show (if T p then (onlyN s a.s3.2.1).getD p 0 else 0) = if (T p && s.testBit p) = true then a.s3.2.1.getD p 0 else 0
    rw [onlyN_get]
    cases T p <;> cases s.testBit p <;> rfl
  have e2 : capS (toP a.s3) (fun p => T p && s.testBit p) ≤ capS (toP (a.s3.only s)) T := by
    unfold capS
    rw [hln, hfit]
    refine sumN_le _ fun j hj => Nat.le_min.2 ⟨Nat.min_le_left _ _, Nat.le_trans (Nat.min_le_right _ _) (sumN_le _ fun p hp => b1_le fun hb => ?_)⟩
    rw [Bool.and_eq_true, Bool.and_eq_true] at hb
    rw [hb.1.1, hb.2]
    rfl
  omega
theorem short_none {a : XP} (hf : a.Fine) (h : shortF a.s3 = none) : canV (toP a.s3) = true := by
  unfold shortF at h
  have hn6 := hf.p
  have hl : a.s3.2.1.length ≤ 10 := by rw [s3_nlen]; omega
  have hall : a.s3.only (2 ^ a.s3.2.1.length - 1) = a.s3 := only_all _ fun i hi => by
    rw [Nat.testBit_two_pow_sub_one, decide_eq_true hi]
  have := List.find?_eq_none.1 h _ ((mem_bySize_iff hl).2 (show 2 ^ a.s3.2.1.length - 1 < _ by have := Nat.one_le_two_pow (n := a.s3.2.1.length); omega))
  rw [hall] at this
  simpa using this
theorem only_zero (a : XP) (hf : a.Fine) : canV (toP (a.s3.only 0)) = true := by
  refine (can_hall (toP_Fit ((XP.good hf).only 0)).ok).2 fun T => ?_
  have : needS (toP (a.s3.only 0)) T = 0 := by
    unfold needS
    refine Eq.trans (sumN_congr _ fun p hp => ?_) (sumN_zero _)
    show (if T p then (onlyN 0 a.s3.2.1).getD p 0 else 0) = 0
    rw [onlyN_get, Nat.zero_testBit]
    cases T p <;> rfl
  omega
theorem short_facts {a : XP} (hf : a.Fine) {s : Nat} (h : shortF a.s3 = some s) : ShFacts a s ∧ canV (toP a.s3) = false := by
  have hn6 := hf.p
  have hj6 := hf.j
  have hg := XP.good hf
  have hN := s3_nlen a
  have hL : a.s3.1.length = a.L.length := by simp [XP.s3]
  have h' : (bySize a.N.length).find? (fun s => !canV (toP (a.s3.only s))) = some s := by rw [← hN]; exact h
  obtain ⟨h1, h2, h3⟩ := bySize_min (by omega) h'
  have hno : canV (toP (a.s3.only s)) = false := by simpa using h2
  have hmin : ∀ t, t < 2 ^ a.N.length → canV (toP (a.s3.only t)) = false → pop s < pop t ∨ (pop s = pop t ∧ s ≤ t) := fun t ht hc => h3 t ht (by rw [hc]; rfl)
  have hs64 : s < 2 ^ 64 := Nat.lt_of_lt_of_le h1 (Nat.pow_le_pow_right (by omega) (by omega))
  refine ⟨⟨?_, h1, hno, ?_, hmin, ?_⟩, ?_⟩
  · refine Nat.pos_of_ne_zero fun e => ?_
    subst e
    rw [only_zero a hf] at hno
    cases hno
  · intro i hi hb
    cases hc : canV (toP (a.s3.only (clrB s i))) with
    | true => rfl
    | false =>
      have hp := pop_clr hs64 (show i < 10 by omega) hb
      have := hmin (clrB s i) (Nat.lt_of_le_of_lt Nat.and_le_left h1) hc
      omega
  · have hln : (toP (a.s3.only s)).needs.length = a.N.length := (onlyN_len _ _).trans hN
    have hnh : ¬ ∀ T : Nat → Bool, needS (toP (a.s3.only s)) T ≤ capS (toP (a.s3.only s)) T := fun hh => by
      rw [(can_hall (toP_Fit (hg.only s)).ok).2 hh] at hno
      cases hno
    obtain ⟨T, hT⟩ := Classical.not_forall.1 hnh
    replace hT := Nat.lt_of_not_le hT
    -- the plots that are both
    have hbit : ∀ i, (mkS (fun p => T p && s.testBit p) a.N.length).testBit i = (decide (i < a.N.length) && (T i && s.testBit i)) := fun i => mkS_bit _ _ _
    have hmlt := mkS_lt (fun p => T p && s.testBit p) a.N.length
    generalize mkS (fun p => T p && s.testBit p) a.N.length = m at hbit hmlt
    have hlm : (toP (a.s3.only m)).needs.length = a.N.length := (onlyN_len _ _).trans hN
    have hfit : (toP (a.s3.only m)).fit = (toP (a.s3.only s)).fit := by
      show kinF (List.replicate (onlyN m a.s3.2.1).length _) _ = kinF (List.replicate (onlyN s a.s3.2.1).length _) _
      rw [onlyN_len, onlyN_len]
      rfl
    have e1 : needS (toP (a.s3.only m)) T = needS (toP (a.s3.only s)) T := by
      unfold needS
      rw [hlm, hln]
      refine sumN_congr _ fun p hp => ?_
      show (if T p then (onlyN m a.s3.2.1).getD p 0 else 0) = if T p then (onlyN s a.s3.2.1).getD p 0 else 0
      rw [onlyN_get, onlyN_get, hbit, decide_eq_true hp]
      cases T p <;> rfl
    have e2 : capS (toP (a.s3.only m)) T = capS (toP (a.s3.only s)) T := by
      unfold capS
      rw [hlm, hln, hfit]
      rfl
    have hmc : canV (toP (a.s3.only m)) = false := by
      cases hc : canV (toP (a.s3.only m)) with
      | false => rfl
      | true =>
        have := (can_hall (toP_Fit (hg.only m)).ok).1 hc T
        omega
    have hpop : pop s ≤ pop m := by
      have := hmin m hmlt hmc
      omega
    have heq := pop_eq_bits (fun i _ hb => by
      rw [hbit, Bool.and_eq_true, Bool.and_eq_true] at hb
      exact hb.2.2) hpop
    have hTs : ∀ i, i < a.N.length → s.testBit i = true → T i = true := fun i hi hb => by
      have := heq i (by omega)
      rw [hbit, hb, Bool.and_eq_true, Bool.and_eq_true] at this
      exact this.2.1
    have e3 : needS (toP (a.s3.only s)) T = needT a s a.N.length := by
      unfold needS needT
      rw [hln]
      refine sumN_congr _ fun p hp => ?_
      show (if T p then (onlyN s a.s3.2.1).getD p 0 else 0) = _
      rw [onlyN_get]
      cases hb : s.testBit p with
      | false => cases T p <;> rfl
      | true => rw [hTs p hp hb]; rfl
    have e4 : capT a s a.L.length ≤ capS (toP (a.s3.only s)) T := by
      have : (toP (a.s3.only s)).loads.length = a.L.length := hL
      unfold capS capT
      rw [hln, this]
      refine sumN_le _ fun j hj => Nat.le_min.2 ⟨Nat.min_le_left _ _, Nat.le_trans (Nat.min_le_right _ _) (sumN_le _ fun p hp => b1_le fun hb => ?_)⟩
      rw [Bool.and_eq_true] at hb
      rw [s3_kin hf hp hj, hb.2, hTs p hp hb.1]
      rfl
    omega
  · cases hc : canV (toP a.s3) with
    | false => rfl
    | true =>
      rw [only_can hf s hc] at hno
      cases hno
end Go.Proofs.Ytbdmmikflkpmpaa
end

section
set_option linter.unusedVariables false
set_option linter.unusedSimpArgs false
namespace Go.Proofs.Ytbdmmikflkpmpaa
open Go.RowKit Go.TL Go.Shelf Go.Pn
attribute [local go_sem] Oper.semAt_some
attribute [local go_sem] run_store_func
noncomputable abbrev qcode5 : Code := Try.f5.body.getD .skip
def ndTo (a : XP) (k : Nat) : Nat := sumN (fun p => a.s3.2.1.getD p 0) k
theorem need3 {a : XP} (hf : a.Fine) {k : Nat} (hk : k < a.N.length) : a.s3.2.1.getD k 0 ≤ 3 := by
  have hl : k < a.s3.2.1.length := by simp [XP.s3]; omega
  obtain ⟨y, hy, e⟩ := List.mem_map.1 (show a.s3.2.1.getD k 0 ∈ a.N.map Int.toNat from mem_getD hl)
  have hb := hf.nb y hy
  omega
theorem load6 {a : XP} (hf : a.Fine) {k : Nat} (hk : k < a.L.length) : a.s3.1.getD k 0 ≤ 6 := by
  have hl : k < a.s3.1.length := by simp [XP.s3]; omega
  obtain ⟨y, hy, e⟩ := List.mem_map.1 (show a.s3.1.getD k 0 ∈ a.L.map Int.toNat from mem_getD hl)
  have hb := hf.lb y hy
  omega
theorem ndTo_le {a : XP} (hf : a.Fine) : ∀ k, k ≤ a.N.length → ndTo a k ≤ 3 * k
  | 0, _ => Nat.le_refl _
  | k + 1, h => by
    have := ndTo_le hf k (by omega)
    have := need3 hf (show k < a.N.length by omega)
    have h1 : ndTo a (k + 1) = ndTo a k + a.s3.2.1.getD k 0 := rfl
    omega
theorem ndTo_all (a : XP) : ndTo a a.N.length = allN (toP a.s3) := by
  have : (toP a.s3).needs.length = a.N.length := by simp [toP, XP.s3]
  unfold ndTo allN
  rw [this]
  rfl
theorem nd_at {a : XP} (hf : a.Fine) {W : World} (ha : a.At W) {k : Nat} (hk : k < a.N.length) : ∃ ad, a.AN = some ad ∧ W.cell? (ad.add k) = some (iv (a.s3.2.1.getD k 0)) := by
  obtain ⟨ad, hA, hc⟩ := row_int ha.n hk
  refine ⟨ad, hA, ?_⟩
  rw [hc]
  have hb := hf.nb _ (List.getElem_mem hk)
  have e : a.s3.2.1.getD k 0 = (a.N[k]).toNat := by
    show (a.N.map Int.toNat).getD k 0 = _
    rw [List.getD_eq_getElem?_getD, List.getElem?_map, List.getElem?_eq_getElem hk]
    rfl
  rw [e]
  show some (Value.int .i64 _) = some (Value.int .i64 _)
  rw [Int.toNat_of_nonneg hb.1]
theorem ld_at {a : XP} (hf : a.Fine) {W : World} (ha : a.At W) {k : Nat} (hk : k < a.L.length) : ∃ ad, a.AL = some ad ∧ W.cell? (ad.add k) = some (iv (a.s3.1.getD k 0)) := by
  obtain ⟨ad, hA, hc⟩ := row_int ha.l hk
  refine ⟨ad, hA, ?_⟩
  rw [hc]
  have hb := hf.lb _ (List.getElem_mem hk)
  have e : a.s3.1.getD k 0 = (a.L[k]).toNat := by
    show (a.L.map Int.toNat).getD k 0 = _
    rw [List.getD_eq_getElem?_getD, List.getElem?_map, List.getElem?_eq_getElem hk]
    rfl
  rw [e]
  show some (Value.int .i64 _) = some (Value.int .i64 _)
  rw [Int.toNat_of_nonneg hb.1]
def ShS (w : World) (a : XP) (n : Nat) (x5 x6 x7 x10 : Int) (m : Nat) (t : Array Value) (W : World) : Prop :=
  ∃ k : Nat, k ≤ a.N.length ∧ m = a.N.length - k ∧ PBx W w.heap.size a ∧ Below w.heap.size w W ∧ Slots (none :: some (.int .u8 n) :: some (.pointer (some ⟨w.heap.size, 0, none⟩)) :: none :: some (.bool false) :: some (vi x5) :: some (vi x6) :: some (vi x7) :: some (iv 0) :: none :: some (vi x10) :: some (iv (ndTo a k)) :: o4 (o64 (some (.slice a.AN a.N.length a.cN) :: some (iv a.N.length) :: some (iv k) :: none :: none :: o4 (o4 (o16 (o64 (o64 []))))))) t
def ShSE (w : World) (a : XP) (n : Nat) (x5 x6 x7 x10 : Int) (t : Array Value) (W : World) : Prop :=
  PBx W w.heap.size a ∧ Below w.heap.size w W ∧ Slots (none :: some (.int .u8 n) :: some (.pointer (some ⟨w.heap.size, 0, none⟩)) :: none :: some (.bool false) :: some (vi x5) :: some (vi x6) :: some (vi x7) :: some (iv 0) :: none :: some (vi x10) :: some (iv (ndTo a a.N.length)) :: none :: o16 (o16 (o64 (o64 (o64 []))))) t
set_option maxRecDepth 100000 in
set_option maxHeartbeats 2000000 in
theorem sh_sum {w : World} {a : XP} {n : Nat} {x5 x6 x7 x10 : Int} (hf : a.Fine) {W : World} (hX : PBx W w.heap.size a) (hB : Below w.heap.size w W) {t : Array Value} (hSl : Slots (none :: some (.int .u8 n) :: some (.pointer (some ⟨w.heap.size, 0, none⟩)) :: none :: some (.bool false) :: some (vi x5) :: some (vi x6) :: some (vi x7) :: some (iv 0) :: none :: some (vi x10) :: some (iv 0) :: none :: o16 (o16 (o64 (o64 (o64 []))))) t) :
    Exec Try.prog none (sub qcode5 [1, 1, 1, 1, 1, 1, 1, 0]) t W (andThen (ShSE w a n x5 x6 x7 x10) fun _ _ _ => False) := by
  have hu25 := Try.underlying25
  have hu22 := Try.underlying22
  have hn6 := hf.p
  obtain ⟨x, hx⟩ := Slots.open_ hSl; simp only [fill, Nat.reduceAdd] at hx; subst hx; clear hSl
  have hh := hX.heap
  simp only [XP.sN] at hh
  have c1 := cells_get (cs := [_, _, _]) (k := 1) hh rfl
  clear hh
  show Exec _ _ (Code.seq _ (Code.block _ _)) _ _ _
  refine exec_seq (exec_region_o fun ds => ?_)
  gi_wp2
  refine eq_mk (Keep.refl _) ?_
  show Exec _ _ (Code.block _ _) _ _ _
  refine exec_block ?_
  refine exec_loop (ShS w a n x5 x6 x7 x10) a.N.length ⟨0, by omega, rfl, hX, hB, by simp [Slots, Fits, ndTo, sumN]⟩ ?_
  clear hX hB c1 x
  clear W
  rintro m t W ⟨k, hk, hn, hX, hV, hSl⟩
  have HN := Lib.hid hn
  have hle := ndTo_le hf k hk
  have hsu : ndTo a (k + 1) = ndTo a k + a.s3.2.1.getD k 0 := rfl
  have hend : k = a.N.length → ndTo a k = ndTo a a.N.length := fun e => by rw [e]
  obtain ⟨z, hz⟩ : ∃ z, ndTo a k = z := ⟨_, rfl⟩
  rw [hz] at hSl hle hsu hend
  clear hz hn
  obtain ⟨x, hx⟩ := Slots.open_ hSl; simp only [fill, Nat.reduceAdd] at hx; subst hx; clear hSl
  show Exec _ _ (Code.seq _ (Code.seq _ _)) _ _ _
  refine exec_seq (exec_region_o fun ds => ?_)
  gi_wp2
  refine eq_mk (Keep.refl _) ?_
  show Exec _ _ (Code.seq (Code.cond _ _ _) _) _ _ _
  refine exec_seq (exec_cond (b := decide (k < a.N.length)) (by first | rfl | (show Value.bool _ = _; congr 1; exact decide_eq_decide.2 (by omega))) (fun hp => exec_skip ?_) (fun hp => exec_exit ?_))
  · have hkl : k < a.N.length := by have := of_decide_eq_true hp; omega
    obtain ⟨ad, hA, hcl⟩ := nd_at hf hX.at_ hkl
    have hle2 := need3 hf hkl
    obtain ⟨q, hq⟩ : ∃ q, a.s3.2.1.getD k 0 = q := ⟨_, rfl⟩
    rw [hq] at hcl hsu hle2
    have HS := Lib.hid hsu
    clear hsu hend hq
    have hkI : (k : Int) < a.N.length := by omega
    simp only [hA]
    have HAd := Lib.hid hA
    clear hA
    show Exec _ _ (Code.seq (Code.block _ _) _) _ _ _
    refine exec_cut (fun t' Y => PBx Y w.heap.size a ∧ Below w.heap.size w Y ∧ Slots (none :: some (.int .u8 n) :: some (.pointer (some ⟨w.heap.size, 0, none⟩)) :: none :: some (.bool false) :: some (vi x5) :: some (vi x6) :: some (vi x7) :: some (iv 0) :: none :: some (vi x10) :: some (iv (z + q)) :: o4 (o64 (some (.slice a.AN a.N.length a.cN) :: some (iv a.N.length) :: some (iv k) :: none :: none :: o4 (o4 (o16 (o64 (o64 []))))))) t') (exec_block (exec_seq (exec_region_o fun ds => ?_))) ?_
    · gi_wp2
      refine eq_mk (Keep.refl _) ?_
      show Exec _ _ _ _ _ _
      have hw : IntKind.i64.wrap ((z : Int) + q) = ((z + q : Nat) : Int) := by rw [IntWalk.i64_in _ (by omega)]; norm_cast
      refine exec_region_o fun ds => ?_
      gi_wp2
      exact eq_mk (Keep.refl _) ⟨hX, hV, by simp only [Slots, Fits, and_self]; simp [HAd.out]⟩
    · clear hX hV hcl x
      clear W
      rintro t' Y ⟨hX, hV, hSl⟩
      obtain ⟨x, hx⟩ := Slots.open_ hSl; simp only [fill, Nat.reduceAdd] at hx; subst hx; clear hSl
      have hw : IntKind.i64.wrap ((k : Int) + 1) = ((k + 1 : Nat) : Int) := by rw [IntWalk.i64_in _ (by omega)]; norm_cast
      refine exec_region_o fun ds => ?_
      gi_wp2
      exact eq_mk (Keep.refl _) ⟨m - 1, by rw [HN.out]; omega, k + 1, by omega, by rw [HN.out]; omega, hX, hV, by rw [HS.out]; simp only [Slots, Fits, and_self]; simp [HAd.out]⟩
  · have hkl : k = a.N.length := by have := of_decide_eq_false hp; omega
    exact ⟨hX, hV, by rw [← hend hkl]; simp [Slots, Fits]⟩
/-! ### the plots, one by one -/
theorem needT_succ (a : XP) (s k : Nat) : needT a s (k + 1) = needT a s k + if s.testBit k then a.s3.2.1.getD k 0 else 0 := rfl
theorem needT_le {a : XP} (hf : a.Fine) (s : Nat) : ∀ k, k ≤ a.N.length → needT a s k ≤ 3 * k
  | 0, _ => Nat.le_refl _
  | k + 1, h => by
    have := needT_le hf s k (by omega)
    have := need3 hf (show k < a.N.length by omega)
    rw [needT_succ]
    split <;> omega
def PlI (w : World) (a : XP) (s own : Nat) (m : Nat) (t : Array Value) (W : World) : Prop :=
  ∃ k : Nat, k ≤ a.N.length ∧ m = a.N.length - k ∧ PBx W w.heap.size a ∧ Below w.heap.size w W ∧ Slots (none :: none :: some (.pointer (some ⟨w.heap.size, 0, none⟩)) :: none :: some (.bool false) :: some (iv s) :: o4 (o4 (some (.func (.func 27) #[] #[.pointer (some ⟨w.heap.size, 0, none⟩)]) :: some (iv own) :: some (iv (needT a s k)) :: some (iv 0) :: none :: none :: none :: o64 (o64 (some (.slice a.AN a.N.length a.cN) :: some (iv a.N.length) :: some (iv k) :: none :: o4 (o16 (o64 []))))))) t
def PlE (w : World) (a : XP) (s own : Nat) (t : Array Value) (W : World) : Prop :=
  PBx W w.heap.size a ∧ Below w.heap.size w W ∧ Slots (none :: none :: some (.pointer (some ⟨w.heap.size, 0, none⟩)) :: none :: some (.bool false) :: some (iv s) :: o4 (o4 (some (.func (.func 27) #[] #[.pointer (some ⟨w.heap.size, 0, none⟩)]) :: some (iv own) :: some (iv (needT a s a.N.length)) :: some (iv 0) :: none :: none :: none :: o4 (o4 (o16 (o64 (o64 (o64 [])))))))) t
set_option maxRecDepth 100000 in
set_option maxHeartbeats 2000000 in
theorem sh_plots {w : World} {a : XP} {s own : Nat} (hf : a.Fine) (hF : ShFacts a s) {W : World} (hX : PBx W w.heap.size a) (hB : Below w.heap.size w W) {t : Array Value} (hSl : Slots (none :: none :: some (.pointer (some ⟨w.heap.size, 0, none⟩)) :: none :: some (.bool false) :: some (iv s) :: o4 (o4 (some (.func (.func 27) #[] #[.pointer (some ⟨w.heap.size, 0, none⟩)]) :: some (iv own) :: some (iv 0) :: some (iv 0) :: none :: none :: none :: o4 (o4 (o16 (o64 (o64 (o64 [])))))))) t) :
    Exec Try.prog none (sub qcode5 [1, 1, 1, 1, 1, 1, 1, 1, 1, 1, 1, 1, 1, 1, 0]) t W (andThen (PlE w a s own) fun _ _ _ => False) := by
  have hu25 := Try.underlying25
  have hu22 := Try.underlying22
  have hn6 := hf.p
  have hs6 : s < 2 ^ 6 := Nat.lt_of_lt_of_le hF.lt (Nat.pow_le_pow_right (by omega) hn6)
  obtain ⟨x, hx⟩ := Slots.open_ hSl; simp only [fill, Nat.reduceAdd] at hx; subst hx; clear hSl
  have hh := hX.heap
  simp only [XP.sN] at hh
  have c1 := cells_get (cs := [_, _, _]) (k := 1) hh rfl
  clear hh
  show Exec _ _ (Code.seq _ (Code.block _ _)) _ _ _
  refine exec_seq (exec_region_o fun ds => ?_)
  gi_wp2
  refine eq_mk (Keep.refl _) ?_
  show Exec _ _ (Code.block _ _) _ _ _
  refine exec_block ?_
  refine exec_loop (PlI w a s own) a.N.length ⟨0, by omega, rfl, hX, hB, by simp [Slots, Fits, needT, sumN]⟩ ?_
  clear hX hB c1 x
  clear W
  rintro m t W ⟨k, hk, hn, hX, hV, hSl⟩
  have HN := Lib.hid hn
  have hle := needT_le hf s k hk
  have hsu := needT_succ a s k
  have hend : k = a.N.length → needT a s k = needT a s a.N.length := fun e => by rw [e]
  obtain ⟨z, hz⟩ : ∃ z, needT a s k = z := ⟨_, rfl⟩
  rw [hz] at hSl hle hsu hend
  clear hz hn
  obtain ⟨x, hx⟩ := Slots.open_ hSl; simp only [fill, Nat.reduceAdd] at hx; subst hx; clear hSl
  show Exec _ _ (Code.seq _ (Code.seq _ _)) _ _ _
  refine exec_seq (exec_region_o fun ds => ?_)
  gi_wp2
  refine eq_mk (Keep.refl _) ?_
  show Exec _ _ (Code.seq (Code.cond _ _ _) _) _ _ _
  refine exec_seq (exec_cond (b := decide (k < a.N.length)) (by first | rfl | (show Value.bool _ = _; congr 1; exact decide_eq_decide.2 (by omega))) (fun hp => exec_skip ?_) (fun hp => exec_exit ?_))
  · have hkl : k < a.N.length := by have := of_decide_eq_true hp; omega
    obtain ⟨ad, hA, hcl⟩ := nd_at hf hX.at_ hkl
    have hle2 := need3 hf hkl
    have hdr := hF.drop k hkl
    obtain ⟨v, hv⟩ : ∃ v, a.s3.2.1.getD k 0 = v := ⟨_, rfl⟩
    rw [hv] at hcl hsu hle2
    obtain ⟨q, hq⟩ : ∃ q, s.testBit k = q := ⟨_, rfl⟩
    rw [hq] at hsu hdr
    have HS := Lib.hid hsu
    have HD := Lib.hid hdr
    clear hsu hend hv hdr
    have hkI : (k : Int) < a.N.length := by omega
    have hbit := bit_i s k (by omega)
    rw [hq] at hbit
    clear hq
    simp only [hA]
    have HAd := Lib.hid hA
    clear hA
    show Exec _ _ (Code.seq (Code.block _ _) _) _ _ _
    refine exec_cut (fun t' Y => PBx Y w.heap.size a ∧ Below w.heap.size w Y ∧ Slots (none :: none :: some (.pointer (some ⟨w.heap.size, 0, none⟩)) :: none :: some (.bool false) :: some (iv s) :: o4 (o4 (some (.func (.func 27) #[] #[.pointer (some ⟨w.heap.size, 0, none⟩)]) :: some (iv own) :: some (iv (needT a s (k + 1))) :: some (iv 0) :: none :: none :: none :: o64 (o64 (some (.slice a.AN a.N.length a.cN) :: some (iv a.N.length) :: some (iv k) :: none :: o4 (o16 (o64 []))))))) t') (exec_block (exec_seq (exec_region_o fun ds => ?_))) ?_
    · gi_wp2
      refine eq_mk (Keep.refl _) ?_
      show Exec _ _ (Code.seq _ _) _ _ _
      cases q with
      | false =>
        simp only [b1, Bool.false_eq_true, if_false] at hbit
        refine exec_seq (exec_region_o fun ds => ?_)
        gi_wp2
        refine eq_mk (Keep.refl _) ?_
        show Exec _ _ (Code.cond _ _ _) _ _ _
        refine exec_cond (b := false) rfl (fun h => by cases h) (fun _ => exec_skip ?_)
        exact ⟨hX, hV, by rw [HS.out]; simp only [Slots, Fits, and_self]; simp [HAd.out]⟩
      | true =>
        have hno := HD.out rfl
        have hcle : clrB s k ≤ s := (by unfold clrB; exact Nat.and_le_left)
        have hcall := can27 a hf (clrB s k) (by omega) w.heap.size W hX
        rw [hno] at hcall
        have hsh := shl_i k (by omega)
        have han : bits .andNot .i64 (s : Int) ((2 : Int) ^ k) = ((clrB s k : Nat) : Int) := by
          rw [pow_cast]
          exact andNot_i s (2 ^ k) (by omega) (Nat.pow_lt_pow_right (by omega) (by omega))
        rw [← pow_cast] at hsh
        simp only [b1, if_true] at hbit
        clear hno hcle
        refine exec_seq (exec_region_o fun ds => ?_)
        gi_wp2
        refine eq_mk (Keep.refl _) ?_
        show Exec _ _ (Code.cond _ _ _) _ _ _
        refine exec_cond (b := true) rfl (fun _ => ?_) (fun h => by cases h)
        have hw : IntKind.i64.wrap ((z : Int) + v) = ((z + v : Nat) : Int) := by rw [IntWalk.i64_in _ (by omega)]; norm_cast
        show Exec _ _ (Code.seq _ (Code.seq _ _)) _ _ _
        refine exec_seq (exec_region_o fun ds => ?_)
        gi_wp2
        refine eq_mk (Keep.refl _) ?_
        show Exec _ _ (Code.seq _ _) _ _ _
        refine exec_seq (exec_region_o fun ds => ?_)
        gi_wp2_with fail
        refine ⟨trivial, rfl, (callsIn_wide.2 hcall).mono ?_⟩
        rintro e Y ⟨rfl, hy⟩
        gi_wp2
        refine eq_mk (Keep.of_below hy) ?_
        show Exec _ _ (Code.cond _ _ _) _ _ _
        refine exec_cond (b := false) rfl (fun h => by cases h) (fun _ => exec_skip ?_)
        exact ⟨hX.keep hy, hV.trans (hy.mono hV.size), by rw [HS.out]; simp only [Slots, Fits, and_self]; simp [HAd.out]⟩
    · clear hX hV hcl x hbit
      clear W
      rintro t' Y ⟨hX, hV, hSl⟩
      obtain ⟨x, hx⟩ := Slots.open_ hSl; simp only [fill, Nat.reduceAdd] at hx; subst hx; clear hSl
      have hw : IntKind.i64.wrap ((k : Int) + 1) = ((k + 1 : Nat) : Int) := by rw [IntWalk.i64_in _ (by omega)]; norm_cast
      refine exec_region_o fun ds => ?_
      gi_wp2
      exact eq_mk (Keep.refl _) ⟨m - 1, by rw [HN.out]; omega, k + 1, by omega, by rw [HN.out]; omega, hX, hV, by simp only [Slots, Fits, and_self]; simp [HAd.out]⟩
  · have hkl : k = a.N.length := by have := of_decide_eq_false hp; omega
    exact ⟨hX, hV, by rw [← hend hkl]; simp [Slots, Fits]⟩
end Go.Proofs.Ytbdmmikflkpmpaa
end

section
set_option linter.unusedVariables false
set_option linter.unusedSimpArgs false
namespace Go.Proofs.Ytbdmmikflkpmpaa
open Go.RowKit Go.TL Go.Shelf Go.Pn
attribute [local go_sem] Oper.semAt_some
attribute [local go_sem] run_store_func
theorem freeT_succ (a : XP) (s j k : Nat) : freeT a s j (k + 1) = freeT a s j k + b1 (s.testBit k && !kinB a j k) := rfl
theorem freeT_le (a : XP) (s j : Nat) : ∀ k, freeT a s j k ≤ k
  | 0 => Nat.le_refl _
  | k + 1 => by
    have := freeT_le a s j k
    rw [freeT_succ]
    unfold b1
    split <;> omega
theorem capT_succ (a : XP) (s k : Nat) : capT a s (k + 1) = capT a s k + min (a.s3.1.getD k 0) (freeT a s k a.N.length) := rfl
theorem capT_le {a : XP} (hf : a.Fine) (s : Nat) : ∀ k, k ≤ a.L.length → capT a s k ≤ 6 * k
  | 0, _ => Nat.le_refl _
  | k + 1, h => by
    have := capT_le hf s k (by omega)
    have := load6 hf (show k < a.L.length by omega)
    rw [capT_succ]
    omega
def FrI (w : World) (a : XP) (s own nd cp j l : Nat) (m : Nat) (t : Array Value) (W : World) : Prop :=
  ∃ k : Nat, k ≤ a.N.length ∧ m = a.N.length - k ∧ PBx W w.heap.size a ∧ Below w.heap.size w W ∧ Slots (none :: none :: some (.pointer (some ⟨w.heap.size, 0, none⟩)) :: none :: some (.bool false) :: some (iv s) :: o4 (o4 (some (.func (.func 27) #[] #[.pointer (some ⟨w.heap.size, 0, none⟩)]) :: some (iv own) :: some (iv nd) :: some (iv cp) :: none :: none :: some (iv j) :: some (iv l) :: some (iv (freeT a s j k)) :: none :: none :: o4 (o16 (o64 (o64 (some (.slice a.AL a.L.length a.cL) :: some (iv a.L.length) :: some (iv j) :: none :: o4 (some (.slice a.AN a.N.length a.cN) :: some (iv a.N.length) :: some (iv k) :: none :: o4 (o16 (o16 (o16 []))))))))))) t
def FrE (w : World) (a : XP) (s own nd cp j l : Nat) (t : Array Value) (W : World) : Prop :=
  PBx W w.heap.size a ∧ Below w.heap.size w W ∧ Slots (none :: none :: some (.pointer (some ⟨w.heap.size, 0, none⟩)) :: none :: some (.bool false) :: some (iv s) :: o4 (o4 (some (.func (.func 27) #[] #[.pointer (some ⟨w.heap.size, 0, none⟩)]) :: some (iv own) :: some (iv nd) :: some (iv cp) :: none :: none :: some (iv j) :: some (iv l) :: some (iv (freeT a s j a.N.length)) :: none :: none :: o4 (o16 (o64 (o64 (some (.slice a.AL a.L.length a.cL) :: some (iv a.L.length) :: some (iv j) :: none :: o4 (o4 (o4 (o16 (o16 (o16 [])))))))))))) t
set_option maxRecDepth 100000 in
set_option maxHeartbeats 2000000 in
theorem sh_free {w : World} {a : XP} {s own nd cp j l : Nat} (hf : a.Fine) (hs : s < 2 ^ 6) (hj : j < 6) {W : World} (hX : PBx W w.heap.size a) (hB : Below w.heap.size w W) {t : Array Value} (hSl : Slots (none :: none :: some (.pointer (some ⟨w.heap.size, 0, none⟩)) :: none :: some (.bool false) :: some (iv s) :: o4 (o4 (some (.func (.func 27) #[] #[.pointer (some ⟨w.heap.size, 0, none⟩)]) :: some (iv own) :: some (iv nd) :: some (iv cp) :: none :: none :: some (iv j) :: some (iv l) :: some (iv 0) :: none :: none :: o4 (o16 (o64 (o64 (some (.slice a.AL a.L.length a.cL) :: some (iv a.L.length) :: some (iv j) :: none :: o4 (o4 (o4 (o16 (o16 (o16 [])))))))))))) t) :
    Exec Try.prog none (sub qcode5 [1, 1, 1, 1, 1, 1, 1, 1, 1, 1, 1, 1, 1, 1, 1, 0, 1, 0, 0, 1, 1, 0, 0, 1, 1, 0]) t W (andThen (FrE w a s own nd cp j l) fun _ _ _ => False) := by
  have hu25 := Try.underlying25
  have hu22 := Try.underlying22
  have hn6 := hf.p
  obtain ⟨x, hx⟩ := Slots.open_ hSl; simp only [fill, Nat.reduceAdd] at hx; subst hx; clear hSl
  have hh := hX.heap
  simp only [XP.sN] at hh
  have c1 := cells_get (cs := [_, _, _]) (k := 1) hh rfl
  clear hh
  show Exec _ _ (Code.seq _ (Code.block _ _)) _ _ _
  refine exec_seq (exec_region_o fun ds => ?_)
  gi_wp2
  refine eq_mk (Keep.refl _) ?_
  show Exec _ _ (Code.block _ _) _ _ _
  refine exec_block ?_
  refine exec_loop (FrI w a s own nd cp j l) a.N.length ⟨0, by omega, rfl, hX, hB, by simp [Slots, Fits, freeT, sumN]⟩ ?_
  clear hX hB c1 x
  clear W
  rintro m t W ⟨k, hk, hn, hX, hV, hSl⟩
  have HN := Lib.hid hn
  have hle := freeT_le a s j k
  have hsu := freeT_succ a s j k
  have hend : k = a.N.length → freeT a s j k = freeT a s j a.N.length := fun e => by rw [e]
  obtain ⟨z, hz⟩ : ∃ z, freeT a s j k = z := ⟨_, rfl⟩
  rw [hz] at hSl hle hsu hend
  clear hz hn
  obtain ⟨x, hx⟩ := Slots.open_ hSl; simp only [fill, Nat.reduceAdd] at hx; subst hx; clear hSl
  show Exec _ _ (Code.seq _ (Code.seq _ _)) _ _ _
  refine exec_seq (exec_region_o fun ds => ?_)
  gi_wp2
  refine eq_mk (Keep.refl _) ?_
  show Exec _ _ (Code.seq (Code.cond _ _ _) _) _ _ _
  refine exec_seq (exec_cond (b := decide (k < a.N.length)) (by first | rfl | (show Value.bool _ = _; congr 1; exact decide_eq_decide.2 (by omega))) (fun hp => exec_skip ?_) (fun hp => exec_exit ?_))
  · have hkl : k < a.N.length := by have := of_decide_eq_true hp; omega
    obtain ⟨q, hq⟩ : ∃ q, s.testBit k = q := ⟨_, rfl⟩
    obtain ⟨r, hr⟩ : ∃ r, kinB a j k = r := ⟨_, rfl⟩
    rw [hq, hr] at hsu
    have hcall := kin29 a j k W hX.at_
    rw [hr] at hcall
    have HS := Lib.hid hsu
    clear hsu hend hr
    have hbit := bit_i s k (by omega)
    rw [hq] at hbit
    clear hq
    show Exec _ _ (Code.seq (Code.block _ _) _) _ _ _
    refine exec_cut (fun t' Y => PBx Y w.heap.size a ∧ Below w.heap.size w Y ∧ Slots (none :: none :: some (.pointer (some ⟨w.heap.size, 0, none⟩)) :: none :: some (.bool false) :: some (iv s) :: o4 (o4 (some (.func (.func 27) #[] #[.pointer (some ⟨w.heap.size, 0, none⟩)]) :: some (iv own) :: some (iv nd) :: some (iv cp) :: none :: none :: some (iv j) :: some (iv l) :: some (iv (z + b1 (q && !r))) :: none :: none :: o4 (o16 (o64 (o64 (some (.slice a.AL a.L.length a.cL) :: some (iv a.L.length) :: some (iv j) :: none :: o4 (some (.slice a.AN a.N.length a.cN) :: some (iv a.N.length) :: some (iv k) :: none :: o4 (o16 (o16 (o16 []))))))))))) t') (exec_block (exec_seq (exec_region_o fun ds => ?_))) ?_
    · gi_wp2
      refine eq_mk (Keep.refl _) ?_
      show Exec _ _ (Code.seq _ _) _ _ _
      have hw : IntKind.i64.wrap ((z : Int) + 1) = ((z + 1 : Nat) : Int) := by rw [IntWalk.i64_in _ (by omega)]; norm_cast
      have c0 := cells_get (cs := [_, _, _]) (k := 0) hX.heap rfl
      have c1 := cells_get (cs := [_, _, _]) (k := 1) hX.heap rfl
      have c2 := cells_get (cs := [_, _, _]) (k := 2) hX.heap rfl
      cases q with
      | false =>
        simp only [b1, Bool.false_eq_true, if_false] at hbit
        refine exec_seq (exec_region_o fun ds => ?_)
        gi_wp2
        refine ⟨trivial, ?_⟩
        rename_i hK
        refine hK _ _ ?_
        gi_wp2
        refine eq_mk (Keep.refl _) ?_
        show Exec _ _ (Code.cond _ _ _) _ _ _
        refine exec_cond (b := false) rfl (fun h => by cases h) (fun _ => exec_skip ?_)
        exact ⟨hX, hV, by simp [Slots, Fits, b1]⟩
      | true =>
        simp only [b1, if_true] at hbit
        refine exec_seq (exec_region_o fun ds => ?_)
        gi_wp2_with fail
        refine ⟨trivial, rfl, (callsIn_wide.2 hcall).mono ?_⟩
        rintro e Y ⟨rfl, hy⟩
        have hXY := hX.keep hy
        have hVY := hV.trans (hy.mono hV.size)
        have hK := Keep.of_below hy
        clear hy hcall c0 c1 c2 hX hV
        gi_wp2
        refine eq_mk hK ?_
        show Exec _ _ (Code.cond _ _ _) _ _ _
        cases r with
        | true =>
          refine exec_cond (b := false) rfl (fun h => by cases h) (fun _ => exec_skip ?_)
          exact ⟨hXY, hVY, by simp [Slots, Fits, b1]⟩
        | false =>
          refine exec_cond (b := true) rfl (fun _ => ?_) (fun h => by cases h)
          refine exec_region_o fun ds => ?_
          gi_wp2
          exact eq_mk (Keep.refl _) ⟨hXY, hVY, by simp [Slots, Fits, b1]⟩
    · clear hX hV x hbit hcall
      clear W
      rw [← HS.out]
      rintro t' Y ⟨hX, hV, hSl⟩
      obtain ⟨x, hx⟩ := Slots.open_ hSl; simp only [fill, Nat.reduceAdd] at hx; subst hx; clear hSl
      have hw : IntKind.i64.wrap ((k : Int) + 1) = ((k + 1 : Nat) : Int) := by rw [IntWalk.i64_in _ (by omega)]; norm_cast
      refine exec_region_o fun ds => ?_
      gi_wp2
      exact eq_mk (Keep.refl _) ⟨m - 1, by rw [HN.out]; omega, k + 1, by omega, by rw [HN.out]; omega, hX, hV, by simp only [Slots, Fits, and_self]; simp⟩
  · have hkl : k = a.N.length := by have := of_decide_eq_false hp; omega
    exact ⟨hX, hV, by rw [← hend hkl]; simp [Slots, Fits]⟩
def JuI (w : World) (a : XP) (s own nd : Nat) (m : Nat) (t : Array Value) (W : World) : Prop :=
  ∃ k : Nat, k ≤ a.L.length ∧ m = a.L.length - k ∧ PBx W w.heap.size a ∧ Below w.heap.size w W ∧ Slots (none :: none :: some (.pointer (some ⟨w.heap.size, 0, none⟩)) :: none :: some (.bool false) :: some (iv s) :: o4 (o4 (some (.func (.func 27) #[] #[.pointer (some ⟨w.heap.size, 0, none⟩)]) :: some (iv own) :: some (iv nd) :: some (iv (capT a s k)) :: none :: none :: none :: o4 (o4 (o16 (o64 (o64 (some (.slice a.AL a.L.length a.cL) :: some (iv a.L.length) :: some (iv k) :: none :: o4 (o4 (o4 (o16 (o16 (o16 []))))))))))))) t
def JuE (w : World) (a : XP) (s own nd : Nat) (t : Array Value) (W : World) : Prop :=
  PBx W w.heap.size a ∧ Below w.heap.size w W ∧ Slots (none :: none :: some (.pointer (some ⟨w.heap.size, 0, none⟩)) :: none :: some (.bool false) :: some (iv s) :: o4 (o4 (some (.func (.func 27) #[] #[.pointer (some ⟨w.heap.size, 0, none⟩)]) :: some (iv own) :: some (iv nd) :: some (iv (capT a s a.L.length)) :: none :: none :: none :: o4 (o4 (o16 (o64 (o64 (o64 [])))))))) t
set_option maxRecDepth 100000 in
set_option maxHeartbeats 2000000 in
theorem sh_judges {w : World} {a : XP} {s own nd : Nat} (hf : a.Fine) (hs : s < 2 ^ 6) {W : World} (hX : PBx W w.heap.size a) (hB : Below w.heap.size w W) {t : Array Value} (hSl : Slots (none :: none :: some (.pointer (some ⟨w.heap.size, 0, none⟩)) :: none :: some (.bool false) :: some (iv s) :: o4 (o4 (some (.func (.func 27) #[] #[.pointer (some ⟨w.heap.size, 0, none⟩)]) :: some (iv own) :: some (iv nd) :: some (iv 0) :: none :: none :: none :: o4 (o4 (o16 (o64 (o64 (o64 [])))))))) t) :
    Exec Try.prog none (sub qcode5 [1, 1, 1, 1, 1, 1, 1, 1, 1, 1, 1, 1, 1, 1, 1, 0]) t W (andThen (JuE w a s own nd) fun _ _ _ => False) := by
  have hu25 := Try.underlying25
  have hu22 := Try.underlying22
  have hj6 := hf.j
  obtain ⟨x, hx⟩ := Slots.open_ hSl; simp only [fill, Nat.reduceAdd] at hx; subst hx; clear hSl
  have hh := hX.heap
  simp only [XP.sL] at hh
  have c1 := cells_get (cs := [_, _, _]) (k := 0) hh rfl
  clear hh
  show Exec _ _ (Code.seq _ (Code.block _ _)) _ _ _
  refine exec_seq (exec_region_o fun ds => ?_)
  gi_wp2
  refine eq_mk (Keep.refl _) ?_
  show Exec _ _ (Code.block _ _) _ _ _
  refine exec_block ?_
  refine exec_loop (JuI w a s own nd) a.L.length ⟨0, by omega, rfl, hX, hB, by simp [Slots, Fits, capT, sumN]⟩ ?_
  clear hX hB c1 x
  clear W
  rintro m t W ⟨k, hk, hn, hX, hV, hSl⟩
  have HN := Lib.hid hn
  have hle := capT_le hf s k hk
  have hsu := capT_succ a s k
  have hend : k = a.L.length → capT a s k = capT a s a.L.length := fun e => by rw [e]
  obtain ⟨z, hz⟩ : ∃ z, capT a s k = z := ⟨_, rfl⟩
  rw [hz] at hSl hle hsu hend
  clear hz hn
  obtain ⟨x, hx⟩ := Slots.open_ hSl; simp only [fill, Nat.reduceAdd] at hx; subst hx; clear hSl
  show Exec _ _ (Code.seq _ (Code.seq _ _)) _ _ _
  refine exec_seq (exec_region_o fun ds => ?_)
  gi_wp2
  refine eq_mk (Keep.refl _) ?_
  show Exec _ _ (Code.seq (Code.cond _ _ _) _) _ _ _
  refine exec_seq (exec_cond (b := decide (k < a.L.length)) (by first | rfl | (show Value.bool _ = _; congr 1; exact decide_eq_decide.2 (by omega))) (fun hp => exec_skip ?_) (fun hp => exec_exit ?_))
  · have hkl : k < a.L.length := by have := of_decide_eq_true hp; omega
    obtain ⟨ad, hA, hcl⟩ := ld_at hf hX.at_ hkl
    have hl6 := load6 hf hkl
    obtain ⟨l, hl⟩ : ∃ l, a.s3.1.getD k 0 = l := ⟨_, rfl⟩
    rw [hl] at hcl hsu hl6
    have hfr := freeT_le a s k a.N.length
    have HS := Lib.hid hsu
    clear hsu hend hl
    have hkI : (k : Int) < a.L.length := by omega
    have hAdr : a.AL = some ad := hA
    simp only [hA]
    have HAd := Lib.hid hA
    clear hA
    show Exec _ _ (Code.seq (Code.block _ _) _) _ _ _
    refine exec_cut (fun t' Y => PBx Y w.heap.size a ∧ Below w.heap.size w Y ∧ Slots (none :: none :: some (.pointer (some ⟨w.heap.size, 0, none⟩)) :: none :: some (.bool false) :: some (iv s) :: o4 (o4 (some (.func (.func 27) #[] #[.pointer (some ⟨w.heap.size, 0, none⟩)]) :: some (iv own) :: some (iv nd) :: some (iv (z + min l (freeT a s k a.N.length))) :: none :: none :: none :: o4 (o4 (o16 (o64 (o64 (some (.slice a.AL a.L.length a.cL) :: some (iv a.L.length) :: some (iv k) :: none :: o4 (o4 (o4 (o16 (o16 (o16 []))))))))))))) t') (exec_block (exec_seq (exec_region_o fun ds => ?_))) ?_
    · clear hAdr
      gi_wp2
      refine eq_mk (Keep.refl _) ?_
      show Exec _ _ (Code.seq _ (Code.seq _ _)) _ _ _
      refine exec_seq (exec_region_o fun ds => ?_)
      gi_wp2
      refine eq_mk (Keep.refl _) ?_
      show Exec _ _ (Code.seq (sub qcode5 [1, 1, 1, 1, 1, 1, 1, 1, 1, 1, 1, 1, 1, 1, 1, 0, 1, 0, 0, 1, 1, 0, 0, 1, 1, 0]) _) _ _ _
      refine exec_seq ((sh_free (s := s) (own := own) (nd := nd) (cp := z) (j := k) (l := l) hf hs (by omega) hX hV ?_).mono ?_)
      · simp only [Slots, Fits, and_self]
        simp [HAd.out]
      clear hX hV x hcl
      clear W
      intro e t Y hh
      obtain ⟨rfl, hX, hV, hSl⟩ := only_normal hh
      generalize freeT a s k a.N.length = f at *
      obtain ⟨x, hx⟩ := Slots.open_ hSl; simp only [fill, Nat.reduceAdd] at hx; subst hx; clear hSl
      have hmn : min (l : Int) (f : Int) = ((min l f : Nat) : Int) := by omega
      have hw : IntKind.i64.wrap ((z : Int) + ((min l f : Nat) : Int)) = ((z + min l f : Nat) : Int) := by rw [IntWalk.i64_in _ (by omega)]; norm_cast
      show Exec _ _ _ _ _ _
      clear hh
      refine exec_region_o fun ds => ?_
      generalize min l f = mlf at *
      gi_wp2
      exact eq_mk (Keep.refl _) ⟨hX, hV, by simp [Slots, Fits]⟩
    · clear hX hV x hcl
      clear W
      rw [← HS.out]
      rintro t' Y ⟨hX, hV, hSl⟩
      obtain ⟨x, hx⟩ := Slots.open_ hSl; simp only [fill, Nat.reduceAdd] at hx; subst hx; clear hSl
      have hw : IntKind.i64.wrap ((k : Int) + 1) = ((k + 1 : Nat) : Int) := by rw [IntWalk.i64_in _ (by omega)]; norm_cast
      refine exec_region_o fun ds => ?_
      gi_wp2
      exact eq_mk (Keep.refl _) ⟨m - 1, by rw [HN.out]; omega, k + 1, by omega, by rw [HN.out]; omega, hX, hV, by simp only [Slots, Fits, and_self]; simp⟩
  · have hkl : k = a.L.length := by have := of_decide_eq_false hp; omega
    exact ⟨hX, hV, by rw [← hend hkl]; simp [Slots, Fits]⟩
end Go.Proofs.Ytbdmmikflkpmpaa
end

section
set_option linter.unusedVariables false
set_option linter.unusedSimpArgs false
namespace Go.Proofs.Ytbdmmikflkpmpaa
open Go.RowKit Go.TL Go.Shelf Go.Pn
attribute [local go_sem] Oper.semAt_some
attribute [local go_sem] run_store_func
theorem seats_le {P : Pnl} (hP : P.Ok) : seatsV P ≤ allN P := by
  obtain ⟨⟨g, hg, e⟩, _⟩ := seats_is hP
  rw [← e]
  exact sumN_le _ hg.le
theorem short_cases {a : XP} (hq : a.isP = true) : (canV (toP a.s3) = true ∧ shortA a = (0, 4) ∧ (sitA a).2 = 0 ∧ seatsV (toP a.s3) = allN (toP a.s3)) ∨ (∃ s : Nat, ShFacts a s ∧ shortA a = ((s : Int), 0) ∧ (sitA a).2 = 4 ∧ seatsV (toP a.s3) < allN (toP a.s3)) := by
  have hf := a.fine hq
  have hle := seats_le (toP_Fit (XP.good hf)).ok
  cases hs : shortF a.s3 with
  | none =>
    have hc := short_none hf hs
    refine .inl ⟨hc, by simp [shortA, hq, hs], by simp [sitA, hq, hc], ?_⟩
    unfold canV at hc
    exact eq_of_beq hc
  | some s =>
    obtain ⟨h1, hc⟩ := short_facts hf hs
    refine .inr ⟨s, h1, by simp [shortA, hq, hs], by simp [sitA, hq, hc], ?_⟩
    unfold canV at hc
    have : seatsV (toP a.s3) ≠ allN (toP a.s3) := by simpa using hc
    omega
set_option maxRecDepth 100000 in
set_option maxHeartbeats 2000000 in
theorem sh_end {w : World} {a : XP} {s own nd cp : Nat} {cO : Bool} (hcp : cp < nd) (h1 : own < 1024) (h2 : s < 1024) (callO : ∀ (W : World), PBx W w.heap.size a → Calls Try.prog 27 #[iv own, .pointer (some ⟨w.heap.size, 0, none⟩)] W fun e w' => e = .returned (.bool cO) ∧ Below W.heap.size W w')
    (HMIN : RowKit.Hid (cO = false → pop s < pop own ∨ (pop s = pop own ∧ s ≤ own))) {t : Array Value} {W : World} (hX : PBx W w.heap.size a) (hB : Below w.heap.size w W) (hSl : Slots (none :: none :: some (.pointer (some ⟨w.heap.size, 0, none⟩)) :: none :: some (.bool false) :: some (iv s) :: o4 (o4 (some (.func (.func 27) #[] #[.pointer (some ⟨w.heap.size, 0, none⟩)]) :: some (iv own) :: some (iv nd) :: some (iv cp) :: none :: none :: none :: o4 (o4 (o16 (o64 (o64 (o64 [])))))))) t) :
    Exec Try.prog none (sub qcode5 [1, 1, 1, 1, 1, 1, 1, 1, 1, 1, 1, 1, 1, 1, 1, 1]) t W fun e t W => (e = .normal ∨ e = .ret) ∧ ∀ W', Grow w.heap.size W W' → ∃ v, (results Try.f5 t).run Try.prog W' = .ok v W' ∧ v = .bool true ∧ Below w.heap.size w W' := by
  obtain ⟨x, hx⟩ := Slots.open_ hSl; simp only [fill, Nat.reduceAdd] at hx; subst hx; clear hSl
  obtain ⟨x1, hx1⟩ : ∃ x, pop own = x := ⟨_, rfl⟩
  obtain ⟨x2, hx2⟩ : ∃ x, pop s = x := ⟨_, rfl⟩
  have s1 := size30 own h1 W
  rw [hx1] at s1
  show Exec _ _ (Code.seq _ (Code.seq _ _)) _ _ _
  refine exec_seq (exec_region_o fun ds => ?_)
  gi_wp2_with fail
  refine ⟨trivial, rfl, (callsIn_wide.2 s1).mono ?_⟩
  rintro e Y ⟨rfl, hy⟩
  have s2 := size30 s h2 Y
  rw [hx2] at s2
  gi_wp2_with fail
  refine ⟨trivial, rfl, (callsIn_wide.2 s2).mono ?_⟩
  rintro e Z ⟨rfl, hz⟩
  have hyz := hy.trans (hz.mono hy.size)
  have hXZ := hX.keep hyz
  have hBZ := hB.trans (hyz.mono hB.size)
  have hm := HMIN.out
  rw [hx1, hx2] at hm
  have HM := Lib.hid hm
  clear hm s1 s2 hx1 hx2 HMIN hX hB hy hz
  gi_wp2
  refine eq_mk (Keep.of_below hyz) ?_
  show Exec _ _ (Code.seq _ _) _ _ _
  clear hyz
  have hltI : ((cp : Int) < (nd : Int)) := by omega
  refine exec_seq (exec_region_o fun ds => ?_)
  gi_wp2_with fail
  refine ⟨trivial, rfl, (callsIn_wide.2 (callO Z hXZ)).mono ?_⟩
  rintro e Q1 ⟨rfl, hq⟩
  have hBQ := hBZ.trans (hq.mono hBZ.size)
  have hKQ := Keep.of_below hq
  clear hq hBZ callO
  cases cO with
  | true =>
    gi_wp2_with fail
    refine ⟨trivial, rfl, (callsIn_wide.2 (alive14 Q1)).mono ?_⟩
    rintro e Q2 ⟨rfl, hq2⟩
    have hBY := hBQ.trans (hq2.mono hBQ.size)
    gi_wp2
    refine eq_mk (hKQ.trans (Keep.of_below hq2)) ?_
    show Exec _ _ _ _ _ _
    exact exec_ret ⟨.inr rfl, fun W' hG => ⟨.bool true, by simp [results, Try.f5, go_sem], rfl, hBY.trans (hG.below (Nat.le_refl _) hBY.size)⟩⟩
  | false =>
    rcases HM.out rfl with hlt | ⟨heq, hle⟩
    · have hltP : ((x2 : Int) < (x1 : Int)) := by omega
      gi_wp2_with fail
      refine ⟨trivial, rfl, (callsIn_wide.2 (alive14 Q1)).mono ?_⟩
      rintro e Q2 ⟨rfl, hq2⟩
      have hBY := hBQ.trans (hq2.mono hBQ.size)
      gi_wp2
      refine eq_mk (hKQ.trans (Keep.of_below hq2)) ?_
      show Exec _ _ _ _ _ _
      exact exec_ret ⟨.inr rfl, fun W' hG => ⟨.bool true, by simp [results, Try.f5, go_sem], rfl, hBY.trans (hG.below (Nat.le_refl _) hBY.size)⟩⟩
    · subst heq
      have hleI : ((s : Int) ≤ (own : Int)) := by omega
      gi_wp2_with fail
      refine ⟨trivial, rfl, (callsIn_wide.2 (alive14 Q1)).mono ?_⟩
      rintro e Q2 ⟨rfl, hq2⟩
      have hBY := hBQ.trans (hq2.mono hBQ.size)
      gi_wp2
      refine eq_mk (hKQ.trans (Keep.of_below hq2)) ?_
      show Exec _ _ _ _ _ _
      exact exec_ret ⟨.inr rfl, fun W' hG => ⟨.bool true, by simp [results, Try.f5, go_sem], rfl, hBY.trans (hG.below (Nat.le_refl _) hBY.size)⟩⟩
set_option maxRecDepth 100000 in
set_option maxHeartbeats 4000000 in
theorem short_law (a : XP) (n : Nat) (w : World) (h : a.Row w) (hn : n < 256) : Calls Try.prog 5 #[a.val, .int .u8 n] w fun e w' => e = .returned (.bool true) ∧ Below w.heap.size w w' := by
  have hu25 := Try.underlying25
  have hu22 := Try.underlying22
  have hu23 := Try.underlying23
  have hmf : ∀ fn first cap w, (Instr.makeFunc fn first cap).run Try.prog w = .ok (.func fn first cap) w := fun _ _ _ _ => rfl
  refine calls_of_exec Try.func5 rfl ?_
  simp only [Try.ntmps5, List.size_toArray, List.length_cons, List.length_nil, Nat.reduceAdd, Nat.reduceSub, Array.replicate_succ, Array.replicate_zero, List.push_toArray, List.append_toArray, List.nil_append, List.cons_append]
  simp only [XP.val]
  refine exec_seq (exec_region_o fun ds => ?_)
  gi_wp2
  refine eq_mk ((Keep.refl w).alloc _) ?_
  show Exec _ _ (Code.seq _ _) _ (w.alloc (.cells #[a.sL, a.sN, a.sK] 25)) _
  have hB := (Below.refl w.heap.size w).alloc (Nat.le_refl _) (.cells #[a.sL, a.sN, a.sK] 25)
  have hh : (w.alloc (.cells #[a.sL, a.sN, a.sK] 25)).heap[w.heap.size]? = some (.cells #[a.sL, a.sN, a.sK] 25 (0, 0)) := World.alloc_heap_new _ _
  have hR := h.below hB
  generalize w.alloc (.cells #[a.sL, a.sN, a.sK] 25) = W0 at *
  have c0 := cells_get (cs := [_, _, _]) (k := 0) hh rfl
  have c1 := cells_get (cs := [_, _, _]) (k := 1) hh rfl
  have c2 := cells_get (cs := [_, _, _]) (k := 2) hh rfl
  obtain ⟨hv, hhv⟩ : ∃ b, heavyB a 6 6 10 = b := ⟨_, rfl⟩
  have hvy : Calls Try.prog 13 #[.agg #[a.sL, a.sN, a.sK], .int .i64 6, .int .i64 6, .int .i64 10] W0 fun e w' => e = .returned (.bool (heavyB a 6 6 10)) ∧ Below W0.heap.size W0 w' := heavy13 a 6 6 10 W0 hR
  rw [hhv] at hvy
  refine exec_seq (exec_seq (exec_region_o fun ds => ?_))
  gi_wp2_with fail
  refine ⟨trivial, rfl, (callsIn_wide.2 hvy).mono ?_⟩
  rintro e X0 ⟨rfl, hx⟩
  have hhX := (hx.block _ (heap_lt hh)).trans hh
  have hRX := hR.below hx
  have hBX := hB.trans (hx.mono hB.size)
  have hK := Keep.of_below hx
  clear hx hvy c0 c1 c2 hh hR hB h
  gi_wp2
  refine eq_mk hK ?_
  show Exec _ _ (Code.cond _ _ _) _ _ _
  clear hK
  clear W0
  cases hv with
  | true =>
    refine exec_cond (b := true) rfl (fun _ => ?_) (fun h => by cases h)
    refine exec_seq (exec_region_o fun ds => ?_)
    gi_wp2_with fail
    refine ⟨trivial, rfl, (callsIn_wide.2 (alive14 X0)).mono ?_⟩
    rintro e Y ⟨rfl, hy⟩
    have hBY := hBX.trans (hy.mono hBX.size)
    gi_wp2
    refine eq_mk (Keep.of_below hy) ?_
    show Exec _ _ _ _ _ _
    exact exec_ret ⟨.inr rfl, fun W' hG => ⟨.bool true, by simp [results, Try.f5, go_sem], rfl, hBY.trans (hG.below (Nat.le_refl _) hBY.size)⟩⟩
  | false =>
  refine exec_cond (b := false) rfl (fun h => by cases h) (fun _ => exec_skip ?_)
  have hsm : a.small = true := by
    cases hs : a.small with
    | true => rfl
    | false => rw [heavyB, hs] at hhv; cases hhv
  have h3 : (a.L.length ≤ 40 ∧ a.N.length ≤ 40) ∧ a.K.length ≤ 40 := by simpa [XP.small] using hsm
  have hX0 : PBx X0 w.heap.size a := ⟨hhX, hRX.at_ h3.1.1 h3.1.2 h3.2⟩
  have HVY := Lib.hid hhv
  clear hhv hsm h3 hhX hRX
  show Exec _ _ (Code.seq _ _) _ _ _
  cases hq : a.isP with
  | false =>
    have e1 : shortA a = (0, 1) := by simp [shortA, hq]
    have e2 : seatsA a = (0, 1) := by simp [seatsA, hq]
    have e3 : sitA a = ([], 1) := by simp [sitA, hq]
    have hc3 := Short_any a X0 hX0.at_
    rw [e1] at hc3
    have c0 := cells_get (cs := [_, _, _]) (k := 0) hX0.heap rfl
    have c1 := cells_get (cs := [_, _, _]) (k := 1) hX0.heap rfl
    have c2 := cells_get (cs := [_, _, _]) (k := 2) hX0.heap rfl
    refine exec_seq (exec_region_o fun ds => ?_)
    gi_wp2_with fail
    refine ⟨trivial, rfl, (callsIn_wide.2 hc3).mono ?_⟩
    rintro e X1 ⟨rfl, hy⟩
    have hX1 := hX0.keep hy
    replace hBX := hBX.trans (hy.mono hBX.size)
    have hK := Keep.of_below hy
    clear hy c0 c1 c2 hX0 hc3
    gi_wp2
    refine eq_mk hK ?_
    show Exec _ _ (Code.seq _ _) _ _ _
    clear hK
    clear X0
    have hc3 := Seats_any a X1 hX1.at_
    rw [e2] at hc3
    have c0 := cells_get (cs := [_, _, _]) (k := 0) hX1.heap rfl
    have c1 := cells_get (cs := [_, _, _]) (k := 1) hX1.heap rfl
    have c2 := cells_get (cs := [_, _, _]) (k := 2) hX1.heap rfl
    refine exec_seq (exec_region_o fun ds => ?_)
    gi_wp2_with fail
    refine ⟨trivial, rfl, (callsIn_wide.2 hc3).mono ?_⟩
    rintro e X2 ⟨rfl, hy⟩
    have hX2 := hX1.keep hy
    replace hBX := hBX.trans (hy.mono hBX.size)
    have hK := Keep.of_below hy
    clear hy c0 c1 c2 hX1 hc3
    gi_wp2
    refine eq_mk hK ?_
    show Exec _ _ (Code.seq _ _) _ _ _
    clear hK
    clear X1
    have hc3 := Sit_any a X2 hX2.at_
    rw [e3] at hc3
    have c0 := cells_get (cs := [_, _, _]) (k := 0) hX2.heap rfl
    have c1 := cells_get (cs := [_, _, _]) (k := 1) hX2.heap rfl
    have c2 := cells_get (cs := [_, _, _]) (k := 2) hX2.heap rfl
    refine exec_seq (exec_region_o fun ds => ?_)
    gi_wp2_with fail
    refine ⟨trivial, rfl, (callsIn_wide.2 hc3).mono ?_⟩
    rintro e X3 ⟨A, c, rfl, hr, hy⟩
    have hX3 := hX2.keep hy
    replace hBX := hBX.trans (hy.mono hBX.size)
    have hK := Keep.of_below hy
    clear hy c0 c1 c2 hX2 hc3 hr
    gi_wp2
    refine eq_mk hK ?_
    show Exec _ _ (Code.seq _ _) _ _ _
    clear hK
    clear X2
    refine exec_seq (exec_seq (exec_region_o fun ds => ?_))
    gi_wp2
    first | refine ⟨trivial, ?_⟩ | skip
    rename_i hK
    refine hK _ _ ?_
    gi_wp2
    refine eq_mk (Keep.refl _) ?_
    show Exec _ _ (Code.cond _ _ _) _ _ _
    refine exec_cond (b := true) rfl (fun _ => ?_) (fun h => by cases h)
    have hp := panels22 a X3 hX3.at_
    rw [hq] at hp
    have c0 := cells_get (cs := [_, _, _]) (k := 0) hX3.heap rfl
    have c1 := cells_get (cs := [_, _, _]) (k := 1) hX3.heap rfl
    have c2 := cells_get (cs := [_, _, _]) (k := 2) hX3.heap rfl
    clear e1 e2 e3 hq
    refine exec_seq (exec_region_o fun ds => ?_)
    gi_wp2_with fail
    refine ⟨trivial, rfl, (callsIn_wide.2 hp).mono ?_⟩
    rintro e X4 ⟨rfl, hy4⟩
    gi_wp2_with fail
    refine ⟨trivial, rfl, (callsIn_wide.2 (alive14 X4)).mono ?_⟩
    rintro e X5 ⟨rfl, hy5⟩
    have hy := hy4.trans (hy5.mono hy4.size)
    have hBY := hBX.trans (hy.mono hBX.size)
    gi_wp2
    refine eq_mk (Keep.of_below hy) ?_
    show Exec _ _ _ _ _ _
    exact exec_ret ⟨.inr rfl, fun W' hG => ⟨.bool true, by simp [results, Try.f5, go_sem], rfl, hBY.trans (hG.below (Nat.le_refl _) hBY.size)⟩⟩
  | true =>
    have hf := a.fine hq
    have hn6 := hf.p
    have hcs := short_cases hq
    obtain ⟨x5, x6, e1⟩ : ∃ x5 x6, shortA a = (x5, x6) := ⟨_, _, rfl⟩
    have e2 : seatsA a = (((seatsV (toP a.s3) : Nat) : Int), 0) := by simp [seatsA, hq]
    obtain ⟨sl, x10, e3⟩ : ∃ sl x10, sitA a = (sl, x10) := ⟨_, _, rfl⟩
    rw [e1, e3] at hcs
    generalize seatsV (toP a.s3) = sv at *
    have HCS := Lib.hid hcs
    clear hcs
    have hc3 := Short_any a X0 hX0.at_
    rw [e1] at hc3
    have c0 := cells_get (cs := [_, _, _]) (k := 0) hX0.heap rfl
    have c1 := cells_get (cs := [_, _, _]) (k := 1) hX0.heap rfl
    have c2 := cells_get (cs := [_, _, _]) (k := 2) hX0.heap rfl
    refine exec_seq (exec_region_o fun ds => ?_)
    gi_wp2_with fail
    refine ⟨trivial, rfl, (callsIn_wide.2 hc3).mono ?_⟩
    rintro e X1 ⟨rfl, hy⟩
    have hX1 := hX0.keep hy
    replace hBX := hBX.trans (hy.mono hBX.size)
    have hK := Keep.of_below hy
    clear hy c0 c1 c2 hX0 hc3
    gi_wp2
    refine eq_mk hK ?_
    show Exec _ _ (Code.seq _ _) _ _ _
    clear hK
    clear X0
    have hc3 := Seats_any a X1 hX1.at_
    rw [e2] at hc3
    have c0 := cells_get (cs := [_, _, _]) (k := 0) hX1.heap rfl
    have c1 := cells_get (cs := [_, _, _]) (k := 1) hX1.heap rfl
    have c2 := cells_get (cs := [_, _, _]) (k := 2) hX1.heap rfl
    refine exec_seq (exec_region_o fun ds => ?_)
    gi_wp2_with fail
    refine ⟨trivial, rfl, (callsIn_wide.2 hc3).mono ?_⟩
    rintro e X2 ⟨rfl, hy⟩
    have hX2 := hX1.keep hy
    replace hBX := hBX.trans (hy.mono hBX.size)
    have hK := Keep.of_below hy
    clear hy c0 c1 c2 hX1 hc3
    gi_wp2
    refine eq_mk hK ?_
    show Exec _ _ (Code.seq _ _) _ _ _
    clear hK
    clear X1
    have hc3 := Sit_any a X2 hX2.at_
    rw [e3] at hc3
    have c0 := cells_get (cs := [_, _, _]) (k := 0) hX2.heap rfl
    have c1 := cells_get (cs := [_, _, _]) (k := 1) hX2.heap rfl
    have c2 := cells_get (cs := [_, _, _]) (k := 2) hX2.heap rfl
    refine exec_seq (exec_region_o fun ds => ?_)
    gi_wp2_with fail
    refine ⟨trivial, rfl, (callsIn_wide.2 hc3).mono ?_⟩
    rintro e X3 ⟨A, c, rfl, hr, hy⟩
    have hX3 := hX2.keep hy
    replace hBX := hBX.trans (hy.mono hBX.size)
    have hK := Keep.of_below hy
    clear hy c0 c1 c2 hX2 hc3 hr
    gi_wp2
    refine eq_mk hK ?_
    show Exec _ _ (Code.seq _ _) _ _ _
    clear hK
    clear X2
    have hp := panels22 a X3 hX3.at_
    rw [hq] at hp
    have c0 := cells_get (cs := [_, _, _]) (k := 0) hX3.heap rfl
    have c1 := cells_get (cs := [_, _, _]) (k := 1) hX3.heap rfl
    have c2 := cells_get (cs := [_, _, _]) (k := 2) hX3.heap rfl
    clear e1 e2 e3 hq
    refine exec_seq (exec_seq (exec_region_o fun ds => ?_))
    gi_wp2_with fail
    refine ⟨trivial, rfl, (callsIn_wide.2 hp).mono ?_⟩
    rintro e X4 ⟨rfl, hy⟩
    have hX4 := hX3.keep hy
    replace hBX := hBX.trans (hy.mono hBX.size)
    have hK := Keep.of_below hy
    clear hy c0 c1 c2 hX3 hp
    gi_wp2
    refine eq_mk hK ?_
    show Exec _ _ (Code.cond _ _ _) _ _ _
    clear hK
    clear X3
    refine exec_cond (b := false) rfl (fun h => by cases h) (fun _ => exec_skip ?_)
    show Exec _ _ (Code.seq _ (Code.seq _ _)) _ _ _
    refine exec_seq (exec_region_o fun ds => ?_)
    gi_wp2
    refine eq_mk (Keep.refl _) ?_
    show Exec _ _ (Code.seq (sub qcode5 [1, 1, 1, 1, 1, 1, 1, 0]) (Code.seq _ _)) _ _ _
    refine exec_seq ((sh_sum (n := n) (x5 := x5) (x6 := x6) (x7 := sv) (x10 := x10) hf hX4 hBX ?_).mono ?_)
    · simp [Slots, Fits]
    clear hX4 hBX
    clear X4
    intro e t Z hh
    obtain ⟨rfl, hXZ, hBZ, hSl⟩ := only_normal hh
    clear hh
    rw [ndTo_all] at hSl
    generalize allN (toP a.s3) = sm at *
    obtain ⟨x, hx⟩ := Slots.open_ hSl; simp only [fill, Nat.reduceAdd] at hx; subst hx; clear hSl
    show Exec _ _ (Code.seq _ (Code.seq _ _)) _ _ _
    refine exec_seq (exec_region_o fun ds => ?_)
    gi_wp2
    refine eq_mk (Keep.refl _) ?_
    show Exec _ _ (Code.seq _ (Code.seq _ _)) _ _ _
    have hhX := hXZ.heap
    simp only [XP.sN] at hhX
    have c1 := cells_get (cs := [_, _, _]) (k := 1) hhX rfl
    have hev : every a.N.length < 1024 := by
      unfold every
      have : 2 ^ a.N.length ≤ 2 ^ 6 := Nat.pow_le_pow_right (by omega) hn6
      omega
    have hsh := shl_i a.N.length (by omega)
    have hsb : IntKind.i64.wrap ((2 : Int) ^ a.N.length - 1) = ((every a.N.length : Nat) : Int) := by
      have h1 : 1 ≤ 2 ^ a.N.length := Nat.one_le_two_pow
      unfold every at hev ⊢
      rw [pow_cast, wrapi _ (by omega) (by omega)]
      omega
    have hconv : IntKind.i64.wrap (n : Int) = (n : Int) := IntWalk.i64_in _ (by omega)
    have hand := and_i n (every a.N.length) (by omega) (by omega)
    have hown : (n &&& every a.N.length) < 2 ^ a.N.length := by
      refine Nat.lt_of_le_of_lt Nat.and_le_right ?_
      unfold every
      have := Nat.one_le_two_pow (n := a.N.length)
      omega
    obtain ⟨E, hE⟩ : ∃ E, every a.N.length = E := ⟨_, rfl⟩
    rw [hE] at hand hown hev hsb
    clear hE
    obtain ⟨own, hown2⟩ : ∃ o, n &&& E = o := ⟨_, rfl⟩
    rw [hown2] at hand hown
    clear hown2
    refine exec_seq (exec_region_o fun ds => ?_)
    gi_wp2
    refine eq_mk (Keep.refl _) ?_
    show Exec _ _ (Code.seq (Code.seq _ _) _) _ _ _
    clear hsh hsb hconv hand hev hhX c1
    have hown10 : own < 1024 := by
      have : 2 ^ a.N.length ≤ 2 ^ 6 := Nat.pow_le_pow_right (by omega) hn6
      omega
    obtain ⟨cO, hcO⟩ : ∃ b, canV (toP (a.s3.only own)) = b := ⟨_, rfl⟩
    have callO := fun W h => can27 a hf own (by omega) w.heap.size W h
    simp only [hcO] at callO
    have H5 := Lib.hid hcO
    clear hcO
    rcases HCS.out with ⟨hc, h2, h3, h4⟩ | ⟨s, hF, h2, h3, h4⟩
    · simp only [Prod.mk.injEq] at h2
      obtain ⟨rfl, rfl⟩ := h2
      subst h3
      subst h4
      have hcO' := H5.out
      rw [only_can hf own hc] at hcO'
      subst hcO'
      clear HCS H5 hc
      have hlt0 : ¬ ((sv : Int) < 0) := by omega
      refine exec_seq (exec_seq (exec_region_o fun ds => ?_))
      gi_wp2
      refine eq_mk (Keep.refl _) ?_
      show Exec _ _ (Code.cond _ _ _) _ _ _
      refine exec_cond (b := false) rfl (fun h => by cases h) (fun _ => exec_skip ?_)
      show Exec _ _ (Code.seq (Code.seq _ _) _) _ _ _
      refine exec_seq (exec_seq (exec_region_o fun ds => ?_))
      gi_wp2
      refine eq_mk (Keep.refl _) ?_
      show Exec _ _ (Code.cond _ _ _) _ _ _
      refine exec_cond (b := true) rfl (fun _ => ?_) (fun h => by cases h)
      refine exec_seq (exec_region_o fun ds => ?_)
      gi_wp2_with fail
      refine ⟨trivial, rfl, (callsIn_wide.2 (callO Z hXZ)).mono ?_⟩
      rintro e Q1 ⟨rfl, hq⟩
      have hBQ := hBZ.trans (hq.mono hBZ.size)
      have hKQ := Keep.of_below hq
      clear hq hBZ callO
      gi_wp2_with fail
      refine ⟨trivial, rfl, (callsIn_wide.2 (alive14 Q1)).mono ?_⟩
      rintro e Q2 ⟨rfl, hq2⟩
      have hBY := hBQ.trans (hq2.mono hBQ.size)
      gi_wp2
      refine eq_mk (hKQ.trans (Keep.of_below hq2)) ?_
      show Exec _ _ _ _ _ _
      exact exec_ret ⟨.inr rfl, fun W' hG => ⟨.bool true, by simp [results, Try.f5, go_sem], rfl, hBY.trans (hG.below (Nat.le_refl _) hBY.size)⟩⟩
    · simp only [Prod.mk.injEq] at h2
      obtain ⟨rfl, rfl⟩ := h2
      subst h3
      have hs6 : s < 2 ^ 6 := Nat.lt_of_lt_of_le hF.lt (Nat.pow_le_pow_right (by omega) hn6)
      have hmin : cO = false → pop s < pop own ∨ (pop s = pop own ∧ s ≤ own) := fun h => hF.min own hown (by rw [H5.out, h])
      have HMIN := Lib.hid hmin
      clear hmin H5 HCS
      have hlt0 : ¬ ((sv : Int) < 0) := by omega
      have hltm : ¬ ((sm : Int) < (sv : Int)) := by omega
      have hne : ((sv : Int) == (sm : Int)) = false := by simp; omega
      refine exec_seq (exec_seq (exec_region_o fun ds => ?_))
      gi_wp2
      refine eq_mk (Keep.refl _) ?_
      show Exec _ _ (Code.cond _ _ _) _ _ _
      refine exec_cond (b := false) rfl (fun h => by cases h) (fun _ => exec_skip ?_)
      show Exec _ _ (Code.seq (Code.seq _ _) _) _ _ _
      clear hlt0 hltm hne h4
      refine exec_seq (exec_seq (exec_region_o fun ds => ?_))
      gi_wp2
      refine eq_mk (Keep.refl _) ?_
      show Exec _ _ (Code.cond _ _ _) _ _ _
      refine exec_cond (b := false) rfl (fun h => by cases h) (fun _ => exec_skip ?_)
      show Exec _ _ (Code.seq (Code.seq _ _) _) _ _ _
      have hpos := hF.pos
      have h1s : ¬ ((s : Int) < 1) := by omega
      have hsd : (s : Int) / (2 : Int) ^ a.N.length = 0 := by
        rw [div_pow_cast, Nat.div_eq_of_lt hF.lt]
        rfl
      have hhX := hXZ.heap
      simp only [XP.sN] at hhX
      have c1 := cells_get (cs := [_, _, _]) (k := 1) hhX rfl
      have callS := can27 a hf s (by omega) w.heap.size Z hXZ
      rw [hF.no] at callS
      clear hhX hpos
      refine exec_seq (exec_seq (exec_region_o fun ds => ?_))
      gi_wp2_with fail
      refine ⟨trivial, rfl, (callsIn_wide.2 callS).mono ?_⟩
      rintro e Q1 ⟨rfl, hq⟩
      have hXQ := hXZ.keep hq
      have hBQ := hBZ.trans (hq.mono hBZ.size)
      have hKQ := Keep.of_below hq
      clear hq hBZ callS c1 h1s hsd hXZ
      gi_wp2
      refine eq_mk hKQ ?_
      show Exec _ _ (Code.cond _ _ _) _ _ _
      clear hKQ
      clear Z
      refine exec_cond (b := false) rfl (fun h => by cases h) (fun _ => exec_skip ?_)
      show Exec _ _ (Code.seq _ (Code.seq _ _)) _ _ _
      refine exec_seq (exec_region_o fun ds => ?_)
      gi_wp2
      refine eq_mk (Keep.refl _) ?_
      show Exec _ _ (Code.seq (sub qcode5 [1, 1, 1, 1, 1, 1, 1, 1, 1, 1, 1, 1, 1, 1, 0]) (Code.seq (sub qcode5 [1, 1, 1, 1, 1, 1, 1, 1, 1, 1, 1, 1, 1, 1, 1, 0]) (sub qcode5 [1, 1, 1, 1, 1, 1, 1, 1, 1, 1, 1, 1, 1, 1, 1, 1]))) _ _ _
      refine exec_seq ((sh_plots (s := s) (own := own) hf hF hXQ hBQ ?_).mono ?_)
      · simp [Slots, Fits]
      clear hXQ hBQ x
      clear Q1
      intro e t Z hh
      obtain ⟨rfl, hXZ, hBZ, hSl⟩ := only_normal hh
      clear hh
      refine exec_seq ((sh_judges (s := s) (own := own) (nd := needT a s a.N.length) hf hs6 hXZ hBZ ?_).mono ?_)
      · obtain ⟨x, hx⟩ := Slots.open_ hSl; simp only [fill, Nat.reduceAdd] at hx; subst hx; clear hSl
        simp [Slots, Fits]
      clear hXZ hBZ hSl
      clear Z
      intro e t Z hh
      obtain ⟨rfl, hXZ, hBZ, hSl⟩ := only_normal hh
      exact sh_end hF.less hown10 (by omega) callO HMIN hXZ hBZ hSl
end Go.Proofs.Ytbdmmikflkpmpaa
end

section
namespace Go.Proofs.Ytbdmmikflkpmpaa
open Go.RowKit
theorem bounds_u8 {n : Int} (h : (Lit.int .u8 n).wf = true) : 0 ≤ n ∧ n < 256 := by
  have h2 : IntKind.u8.min ≤ n ∧ n ≤ IntKind.u8.max := by simpa [Lit.wf] using h
  have h3 : IntKind.u8.min = 0 := rfl
  have h4 : IntKind.u8.max + 1 = 256 := rfl
  omega
theorem short_row (a : XP) (n : Int) (w : World) (h : a.Row w) (hn : (Lit.int .u8 n).wf = true) : Calls Try.prog 5 #[a.val, .int .u8 n] w fun e w' => e = .returned (.bool true) ∧ Below w.heap.size w w' := by
  have hb := bounds_u8 hn
  obtain ⟨m, rfl⟩ : ∃ m : Nat, n = m := ⟨n.toNat, by omega⟩
  exact short_law a m w h (by omega)
end Go.Proofs.Ytbdmmikflkpmpaa
namespace Go.Proofs.Ytbdmmikflkpmpaa.panelShort
open Go.ChangeShapes Go.WideShapes Go.ChangeAt Go.RowKit
open Go.ChangeMaps (open_string shut_string)
set_option linter.unusedVariables false
theorem own : ownKnob Try.prog.godebug = none := by kernel_rfl
theorem laidOut : laidOutB Try.prog = true := by kernel_rfl
set_option maxRecDepth 100000 in
theorem lifted (os : Os) (started : os.Started) (H : Type) (enc : TypeId × Value → H) :
    ReturnsInHanded {} Try.checked os 5 .any (Rows.panelShortSpec.pre6 enc Try.prog Try.f5 Rows.panelShortRow.domain false) (Rows.panelShortSpec.post enc Try.prog Try.f5 false true false false) := by
  refine returnsInHanded_of_change_sized (C := Try.checked) own started (by kernel_rfl) Try.func5
    (ChangeSpec.witness6 (enc := enc) (C := Try.checked) false ⟨#[], #[.agg #[.slice none 0 0, .slice none 0 0, .slice none 0 0], .int .u8 0], []⟩ 8 (by kernel_rfl) (by kernel_rfl) (by kernel_rfl) (by kernel_rfl)) ?_
  intro W base args ds gs before hval0 hW hcnd hsz0 _
  have hsz : (DataW.weightsEach Try.prog (Try.f5.params.toList ++ Rows.panelShortSpec.plain.varTypes Try.prog) (ds ++ gs)).all (· ≤ reachBytes) = true := hsz0
  have hval : ∀ (j : Nat) t v, Try.f5.params[j]? = some t → args[j]? = some v → Value.okWide Try.prog W .any base t v := hval0
  have hW' := hW
  obtain ⟨p, q, hA0, hV, rfl, hfz, hnd⟩ := hW
  have hA : DataW.TrodAll enc Try.prog W 0 (fun _ => true) true Try.f5.params.toList args.toList ds p := hA0
  rw [Try.params5] at hA hval hsz
  obtain ⟨v0, vs0, d0, ds0, p0, q0, hargs, rfl, rfl, h0, r0⟩ := trodAll_cons hA
  obtain ⟨v1, vs1, d1, ds1, p1, q1, rfl, rfl, rfl, h1, r1⟩ := trodAll_cons r0
  obtain ⟨rfl, rfl, rfl⟩ := trodAll_nil r1
  obtain rfl : args = #[v0, v1] := by cases args; simp_all
  obtain ⟨rfl, rfl⟩ := trodVars_none hV
  have k0 := h0
  have lt0 : ∀ x ∈ p0, x.block < W.heap.size := by obtain ⟨m, hm⟩ := k0; exact DataW.trod_lt m _ _ _ hm
  obtain ⟨F0, rfl, hF0⟩ := xp_open (hval 0 25 v0 rfl rfl) h0
  obtain ⟨a1, rfl, rfl, rfl, w1⟩ := open_int Try.underlying5 (hval 1 5 v1 rfl rfl) h1
  clear hA0 hval0 hsz0 hsz
  refine (short_row F0 a1 W hF0 w1).mono fun e W' ⟨he, bel⟩ => ?_
  subst he
  exact ⟨_, rfl, _, _, _, [], _, [], hW', trodAll_mk1 (shut_bool Try.underlying4 _), (trodAll_cons_mk (Below.trod laidOut (by kernel_rfl) (of_decide_eq_true (by kernel_rfl)) k0 bel lt0) (trodAll_cons_mk (shut_int Try.underlying5 w1) trodAll_mk0)), rfl, bel.frame _, fun h => by cases h⟩
theorem over : Rows.panelShortRow.holds Try.pinned (OpenSpec.ofChange Rows.panelShortSpec) :=
  OpenClaim.holds_of_wide 5 Try.f5 rfl rfl rfl rfl rfl rfl rfl ⟨rfl, rfl, rfl, rfl, rfl⟩ rfl rfl rfl rfl rfl (by kernel_rfl) Try.func5 (by kernel_rfl)
    (of_decide_eq_true (by kernel_rfl)) (by unfold Func.isWrapper; first | (rw [if_pos (by decide +kernel)]; kernel_rfl) | (rw [if_neg (by decide +kernel)]; exact ⟨rfl, rfl⟩))
    (fun os started H enc _ => lifted os started H enc)
theorem proved : Rows.PanelShortSaid := over
#print axioms proved
end Go.Proofs.Ytbdmmikflkpmpaa.panelShort
namespace Go.Proofs.Ytbdmmikflkpmpaa
/-- The row, under a short name, for the claim. -/
theorem panelShort_holds : Rows.PanelShortSaid := panelShort.proved
end Go.Proofs.Ytbdmmikflkpmpaa
end
