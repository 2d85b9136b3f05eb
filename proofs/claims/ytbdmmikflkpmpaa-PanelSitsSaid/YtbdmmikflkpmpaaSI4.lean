/- Parts of the proof: Panels: how many seatings there are. Panels: two rows are compared. Panels: the chapter's examples. Panels: the examples hold. Panels: small things of the document. Panels: whether panels are valid, by the document. Panels: too much to be gone through. Panels: kin and size, by the document. Panels: the document: powers, sets. Panels: blocks that are kept in view; rows that are copied by append. Panels: pairs that are left out, by the law. Panels: whether there is a seating with pairs left out; the least set. Panels: what must be waived: the law's walk. Panels: some plots alone, by the law. Panels: what the plots that go short are. Panels: what a seating must be like. Panels: what must be waived: the law. Panels: numbered otherwise: the plain law. Panels: frames of which some slots are told. Panels: whether some sets are a seating: one plot. Panels: whether some sets are a seating. Panels -/
import Derived.Test.YtbdmmikflkpmpaaProg
import Derived.Test.YtbdmmikflkpmpaaSI1
import Derived.Test.YtbdmmikflkpmpaaSI3
import Derived.Test.YtbdmmikflkpmpaaSI2
import Derived.Maps.AppendAt
import Derived.WalkKit
import Derived.WalkSpells
import Derived.WalkLawsBesides
import Derived.Outline
import Derived.OwnWalkIn
import Derived.TacticsInMore
import Derived.LoopNIn
import Derived.LoopIn
import Derived.Shelf.RegionOpen
import Derived.Deep.QuietTactic
import Derived.BigQuiet
import Derived.Lib.Hide
import Derived.Deep.Upon
import Derived.ArgAppend
set_option linter.unusedVariables false
set_option linter.unusedSimpArgs false
section
namespace Go.Proofs.Ytbdmmikflkpmpaa
open Go.RowKit Go.TL Go.Shelf Go.Pn
attribute [local go_sem] Oper.semAt_some
attribute [local go_sem] run_store_func
theorem exec_copy {P : Program} {a : Act} {w w' : World} {v u v' : Value} {o : Oper} (d s : Operand) (t : TypeId) (ho : o.op = .call { callee := .builtin .copy, args := #[d, s], argTypes := #[t, t] }) (hd : a.eval d = v) (hs : a.eval s = u)
    (hr : (Builtin.copy_ #[t, t] o.type #[v, u]).run P w = .ok v' w') : (execOp a.eval o).run P w = .ok (.value v') w' := by
  unfold execOp
  simp only [ho, resolve, invoke, builtin, Sem.run_bind, Sem.run_pure, Result.andThen_ok, List.map_toArray, List.map_cons, List.map_nil, hd, hs, hr]
def padL (l : List Nat) : List Nat := l ++ List.replicate (6 - l.length) 0
def countF (a : XP) : Nat := ways a.L.length (nf (toP a.s3)) (padL a.s3.1)
def countA (a : XP) : Int × Int := if a.isP then ((countF a : Nat), 0) else (0, 1)
set_option maxRecDepth 100000 in
set_option maxHeartbeats 600000 in
theorem Count_any (a : XP) (w : World) (h : a.At w) : Calls Try.prog 17 #[a.val] w fun e w' => e = .returned (.tuple #[vi (countA a).1, vi (countA a).2]) ∧ Below w.heap.size w w' := by
  have hmf : ∀ fn first cap w, (Instr.makeFunc fn first cap).run Try.prog w = .ok (.func fn first cap) w := fun _ _ _ _ => rfl
  have hu25 := Try.underlying25
  obtain ⟨A, hA⟩ : ∃ A, countA a = A := ⟨_, rfl⟩
  rw [hA]
  have HA := Lib.hid hA
  clear hA
  refine (callsIn_wide (n := 0)).1 (callsIn_of_wp_marks Try.func17 rfl trivial ?_)
  simp only [Try.ntmps17, List.size_toArray, List.length_cons, List.length_nil, Nat.reduceAdd, Nat.reduceSub, Array.replicate_succ, Array.replicate_zero, List.push_toArray, List.append_toArray, List.nil_append, List.cons_append]
  simp only [XP.val]
  refine split_rest fun rest hR => ?_
  gi_wp2
  have hB := ((Below.refl w.heap.size w).alloc (Nat.le_refl _) (.cells #[a.sL, a.sN, a.sK] 25)).alloc (by simp) (.cells #[.int .i64 0] 28)
  have b1 : PBx ((w.alloc (.cells #[a.sL, a.sN, a.sK] 25)).alloc (.cells #[.int .i64 0] 28)) w.heap.size a := ⟨heap_next (World.alloc_heap_new _ _) _, h.below hB⟩
  have b3 : Boxed ((w.alloc (.cells #[a.sL, a.sN, a.sK] 25)).alloc (.cells #[.int .i64 0] 28)) (w.heap.size + 1) 28 (.int .i64 0) := by (simp only [Boxed, Box2, heap_alloc_at, heap_set_at, World.size_alloc, World.size_setCell]; repeat (first | rfl | rw [if_pos (by omega)] | rw [if_neg (by omega)]))
  refine guard_rest (lo := w.heap.size) (T := 133) (b := w.heap.size + 1) catches63 ⟨_, _, rfl⟩ (fun W => by simp [go_sem]) hB.size ?_
  subst hR
  generalize (w.alloc (.cells #[a.sL, a.sN, a.sK] 25)).alloc (.cells #[.int .i64 0] 28) = V at *
  clear hmf
  have c0 := cells_get (cs := [_, _, _]) (k := 0) b1.heap rfl
  have c1 := cells_get (cs := [_, _, _]) (k := 1) b1.heap rfl
  have c2 := cells_get (cs := [_, _, _]) (k := 2) b1.heap rfl
  refine exec_seq (exec_region_o fun ds => ?_)
  gi_wp2_with fail
  cases hp : a.isP with
  | false =>
    refine ⟨trivial, rfl, (callsIn_wide.2 (checked_no a V b1.at_ hp)).mono ?_⟩
    rintro e W2 ⟨rfl, hw2⟩
    refine eq_mk (Keep.of_below hw2) (.inr ⟨1, 28, 0, rfl, (hw2.block _ b3.lt).trans b3, ?_⟩)
    rintro W' W'' hG rfl
    have hB2 := hB.trans (hw2.mono hB.size)
    have d3 := hG.boxed (show Boxed W2 (w.heap.size + 1) 28 (.int .i64 0) from (hw2.block _ b3.lt).trans b3)
    exact ⟨_, results_num rfl rfl rfl (boxed_set d3 _), by rw [← HA.out]; simp [countA, hp], (hB2.trans (hG.below (Nat.le_refl _) hB2.size)).setCell (by show w.heap.size ≤ w.heap.size + 1; omega) _⟩
  | true =>
    refine ⟨trivial, rfl, (callsIn_wide.2 (checked_yes a V b1.at_ hp)).mono ?_⟩
    rintro e W2 ⟨rfl, hw2⟩
    have hA : A = (((countF a : Nat) : Int), 0) := by rw [← HA.out]; simp [countA, hp]
    have hf := a.fine hp
    have HA := Lib.hid hA
    clear hp hA
    gi_wp2
    refine eq_mk (Keep.of_below hw2) ?_
    show Exec _ _ _ _ _ _
    have hB2 := hB.trans (hw2.mono hB.size)
    have b2 := b1.keep hw2
    have d3 : Boxed W2 (w.heap.size + 1) 28 (.int .i64 0) := (hw2.block _ b3.lt).trans b3
    clear b1 b3 c0 c1 c2 hB hw2
    clear V
    have c0 := cells_get (cs := [_, _, _]) (k := 0) b2.heap rfl
    have c1 := cells_get (cs := [_, _, _]) (k := 1) b2.heap rfl
    have c2 := cells_get (cs := [_, _, _]) (k := 2) b2.heap rfl
    have hS2 : SpB w a w.heap.size W2 := ⟨b2, d3, hB2⟩
    have h6 := hf.j
    refine exec_seq (exec_region_o fun ds => ?_)
    gi_wp2_with fail
    refine ⟨trivial, rfl, (callsIn_wide.2 (open_plain a hf W2 b2.at_)).mono ?_⟩
    rintro e Y ⟨pp, mm, rfl, hpp, hy, hP⟩
    have hSY := hS2.keep hy
    gi_wp2
    refine eq_mk (Keep.of_below hy) ?_
    show Exec _ _ (Code.seq _ (Code.seq _ _)) _ _ _
    clear c0 c1 c2 b2 d3 hB2 hS2 hy hpp
    refine exec_seq (exec_region_o fun ds => ?_)
    gi_wp2
    refine eq_mk ((Keep.refl _).alloc _) ?_
    show Exec _ _ (Code.seq _ (Code.seq _ _)) _ (Y.alloc (.cells #[iv 0, iv 0, iv 0, iv 0, iv 0, iv 0] 88)) _
    have hal := (Below.refl Y.heap.size Y).alloc (Nat.le_refl _) (.cells #[iv 0, iv 0, iv 0, iv 0, iv 0, iv 0] 88)
    have h5 : (Y.alloc (.cells #[iv 0, iv 0, iv 0, iv 0, iv 0, iv 0] 88)).heap[Y.heap.size]? = some (.cells #[iv 0, iv 0, iv 0, iv 0, iv 0, iv 0] 88 (0, 0)) := World.alloc_heap_new _ _
    have hSX := hSY.keep hal
    have hYe := hSY.e.lt
    clear W2
    generalize Y.alloc (.cells #[iv 0, iv 0, iv 0, iv 0, iv 0, iv 0] 88) = X at *
    have hlen : a.s3.1.length = a.L.length := by simp [XP.s3]
    have hrow : ∀ Z, Below X.heap.size X Z → RowV Z a.AL (a.s3.1.map iv) := fun Z hZ => by
      rw [show a.s3.1.map iv = a.L.map vi from map_iv fun y hy => (hf.lb y hy).1]
      exact (hSX.keep hZ).p.at_.l
    have hu88 := Try.underlying88
    have hu89 := Try.underlying89
    have hu22 := Try.underlying22
    have hd : Below X.heap.size X X.drew := (Below.refl _ X).drew
    have h5d : X.drew.heap[Y.heap.size]? = some (.cells #[iv 0, iv 0, iv 0, iv 0, iv 0, iv 0] 88 (0, 0)) := (hd.block _ (heap_lt h5)).trans h5
    obtain ⟨Z, hcp, hZ5, hZg⟩ := run_copy6 X.drew 3 Y.heap.size a.L.length a.cL a.AL a.s3.1 hlen h6 h5d (hrow _ hd)
    have hpad : a.s3.1 ++ List.replicate (6 - a.L.length) 0 = padL a.s3.1 := by unfold padL; rw [hlen]
    rw [hpad] at hZ5
    have hp6 : (padL a.s3.1).length = 6 := by unfold padL; rw [List.length_append, List.length_replicate, hlen]; omega
    have hpok : ∀ n ∈ padL a.s3.1, n ≤ 1000000 := fun n hn => by
      rcases List.mem_append.1 hn with h | h
      · obtain ⟨y, hy, rfl⟩ := List.mem_map.1 (show n ∈ a.L.map Int.toNat from h)
        have := hf.lb y hy
        omega
      · have := (List.mem_replicate.1 h).2
        omega
    have HF : countF a = ways a.L.length (nf (toP a.s3)) (padL a.s3.1) := rfl
    have HF := Lib.hid HF
    generalize padL a.s3.1 = pl at *
    have hYZ : Below Y.heap.size Y Z := (hal.trans (hd.mono hal.size)).grown hZg (Nat.le_trans hal.size hd.size) (fun q e => by cases e; exact Nat.le_refl _)
    have hSZ := hSY.keep hYZ
    have hPZ := hP.below hYZ
    have hc0X : X.drew.cell? ⟨w.heap.size, 0, none⟩ = some (.slice a.AL a.L.length a.cL) := cells_get (cs := [_, _, _]) ((hSX.keep hd).p.heap) rfl
    have hc0Z : Z.cell? ⟨w.heap.size, 0, none⟩ = some (.slice a.AL a.L.length a.cL) := cells_get (cs := [_, _, _]) hSZ.p.heap rfl
    have hKZ : Keep X Z := (Keep.of_below hd).grown hZg (fun j o hj ho => by cases hj; rw [h5d] at ho; cases ho; rfl)
    have hZl := heap_lt hZ5
    refine exec_seq (region_of_tail 4 (by kernel_rfl) (by kernel_rfl) (by kernel_rfl) (fun V => V.cell? ⟨w.heap.size, 0, none⟩ = some (.slice a.AL a.L.length a.cL)) (fun _ _ _ => False) (fun _ _ _ h => h.elim) fun ds => ?_)
    have hS := hc0X
    refine held_take 0 (.slice (some ⟨Y.heap.size, 0, none⟩) 6 6) rfl (by kernel_rfl) (by kernel_rfl) (by kernel_rfl) (by intro _ _ _ h; first | exact h | (simpa [behind, Act.put] using h)) rfl (by first | exact hS | assumption) (fun wq hq => ?_) ?_; (focus (simp [go_sem, hu88]; done)); simp only [Act.put, Array.getInternal_eq_getElem, List.take_succ_cons, List.take_zero, List.take_nil, List.getElem_toArray, List.getElem_cons_succ, List.getElem_cons_zero, List.setIfInBounds_toArray, List.set_cons_succ, List.set_cons_zero]
    refine held_take 1 (.pointer (some ⟨w.heap.size, 0, none⟩)) rfl (by kernel_rfl) (by kernel_rfl) (by kernel_rfl) (by intro _ _ _ h; first | exact h | (simpa [behind, Act.put] using h)) rfl (by first | exact hS | assumption) (fun wq hq => ?_) ?_; (focus (simp [go_sem, hu25]; done)); simp only [Act.put, Array.getInternal_eq_getElem, List.take_succ_cons, List.take_zero, List.take_nil, List.getElem_toArray, List.getElem_cons_succ, List.getElem_cons_zero, List.setIfInBounds_toArray, List.set_cons_succ, List.set_cons_zero]
    refine held_take 2 (.slice a.AL a.L.length a.cL) rfl (by kernel_rfl) (by kernel_rfl) (by kernel_rfl) (by intro _ _ _ h; first | exact h | (simpa [behind, Act.put] using h)) rfl (by first | exact hS | assumption) (fun wq hq => ?_) ?_; (focus (simp [go_sem, hq]; done)); simp only [Act.put, Array.getInternal_eq_getElem, List.take_succ_cons, List.take_zero, List.take_nil, List.getElem_toArray, List.getElem_cons_succ, List.getElem_cons_zero, List.setIfInBounds_toArray, List.set_cons_succ, List.set_cons_zero]
    refine held_mk 3 (iv a.L.length) Z rfl (by kernel_rfl) rfl ?_ hc0Z ?_
    · exact exec_copy _ _ 22 rfl rfl rfl hcp
    simp only [Act.put, Array.getInternal_eq_getElem, List.take_succ_cons, List.take_zero, List.take_nil, List.getElem_toArray, List.getElem_cons_succ, List.getElem_cons_zero, List.setIfInBounds_toArray, List.set_cons_succ, List.set_cons_zero]
    refine held_done (by kernel_rfl) ?_
    refine any_done (by kernel_rfl) ⟨rfl, hKZ, ?_⟩
    show Exec _ _ (Code.seq _ (Code.seq _ _)) _ _ _
    clear hS hc0X hc0Z hcp hrow hSX hSY hP hd h5d h5 hal hZg hKZ hYZ hpad
    clear X
    generalize hb5 : Y.heap.size = b5 at *
    clear hb5
    clear Y
    obtain ⟨m0, m1, m2, m3, m4, m5, rfl⟩ := six hp6
    have hMn : MapR encA okA (Z.alloc (.map #[] 0)) Z.heap.size [] := MapR.new encA okA Z
    have hal := (Below.refl Z.heap.size Z).alloc (Nat.le_refl _) (.map #[] 0)
    obtain ⟨V, hrun, hMV, hgV⟩ := hMn.update (P := Try.prog) keyA hu89 (x := ⟨[m0, m1, m2, m3, m4, m5], hp6⟩) hpok (iv 1)
    have hrun' : (Instr.mapUpdate 89 (.map (some Z.heap.size)) (.agg #[iv m0, iv m1, iv m2, iv m3, iv m4, iv m5]) (.int .i64 1)).run Try.prog (Z.alloc (.map #[] 0)) = .ok () V := hrun
    clear hrun
    obtain ⟨e0, e1, e2, e3, e4, e5⟩ := six_get ((hal.block _ hZl).trans hZ5)
    have hVB : Below Z.heap.size Z V := hal.grown hgV hal.size (fun q e => by cases e; exact Nat.le_refl _)
    have hKV : Keep Z V := ((Keep.refl Z).alloc _).grown hgV (map_book hMn)
    have hmm := @run_makeMap Try.prog
    refine exec_seq (exec_region_o fun ds => ?_)
    gi_wp2
    clear hmm hrun' e0 e1 e2 e3 e4 e5
    refine eq_mk hKV ?_
    have hSV := hSZ.keep hVB
    have hPV := hPZ.below hVB
    have hlw : (put [] (⟨[m0, m1, m2, m3, m4, m5], hp6⟩ : A6) (iv 1)) = lwV [(⟨[m0, m1, m2, m3, m4, m5], hp6⟩, 1)] := rfl
    rw [hlw] at hMV
    clear hMn hal hgV hSZ hPZ hVB hKV hZ5 hZl
    generalize Z.heap.size = bw at *
    clear Z
    show Exec _ _ (Code.seq (sub ccode [1, 1, 1, 1, 1, 1, 1, 0]) (Code.seq (sub ccode [1, 1, 1, 1, 1, 1, 1, 1, 0]) _)) _ _ _
    refine exec_seq ((cnt_plots (bw := bw) (pp := pp) hf hSV hPV hMV (by simp [wsum]) (by simp [Slots, Fits])).mono ?_)
    intro e t Z hh
    obtain ⟨rfl, hE⟩ := only_normal hh
    clear hh
    have hT : wsum (fun y => ways a.L.length (nf (toP a.s3)) y.1) [((⟨[m0, m1, m2, m3, m4, m5], hp6⟩ : A6), 1)] = countF a := by
      rw [HF.out]
      simp [wsum]
    rw [hT] at hE
    refine exec_seq ((cnt_sum hE).mono ?_)
    clear hE
    intro e t Z hh
    obtain ⟨rfl, hZB, hSl⟩ := only_normal hh
    clear hh
    have hSZ : SpB w a w.heap.size Z := ⟨⟨(hZB.block _ (heap_lt hSV.p.heap)).trans hSV.p.heap, hSV.p.at_.below hZB⟩, (hZB.block _ hSV.e.lt).trans hSV.e, hSV.below.trans (hZB.mono hSV.below.size)⟩
    clear hSV hPV hMV hZB
    obtain ⟨x, hx⟩ := Slots.open_ hSl; simp only [fill, Nat.reduceAdd] at hx; subst hx; clear hSl
    have e1 := hSZ.e.cell
    have e2 := hSZ.e.frozen
    show Exec _ _ (Code.seq _ _) _ _ _
    obtain ⟨T, hTe⟩ : ∃ T, countF a = T := ⟨_, rfl⟩
    rw [hTe] at HA
    simp only [hTe]
    refine exec_seq (exec_region_o fun ds => ?_)
    gi_wp2
    refine eq_mk ((Keep.refl _).setCell _ _) ?_
    show Exec _ _ _ _ _ _
    have g7 := boxed_set hSZ.e (.int .i64 0)
    have hB5 : Below w.heap.size w (Z.setCell ⟨w.heap.size + 1, 0, none⟩ (.int .i64 0)) := hSZ.below.setCell (by show w.heap.size ≤ w.heap.size + 1; omega) _
    exact exec_ret (.inl ⟨.inr rfl, g7.lt, fun W' hG => ⟨_, results_num rfl rfl rfl (hG.boxed g7), by rw [HA.out], hB5.trans (hG.below (Nat.le_refl _) hB5.size)⟩⟩)
end Go.Proofs.Ytbdmmikflkpmpaa
end

section
namespace Go.Proofs.Ytbdmmikflkpmpaa
open Go.RowKit Go.TL Go.Shelf Go.Pn
attribute [local go_sem] Oper.semAt_some
attribute [local go_sem] run_store_func
theorem row_int {W : World} {A : Option Addr} {l : List Int} (h : RowV W A (l.map vi)) {i : Nat} (hi : i < l.length) : ∃ ad, A = some ad ∧ W.cell? (ad.add i) = some (vi (l[i])) :=
  h i _ (by rw [List.getElem?_map, List.getElem?_eq_getElem hi]; rfl)
def InI (w : World) (A B : Option Addr) (c d : Nat) (l m : List Int) (n : Nat) (t : Array Value) (W : World) : Prop :=
  ∃ k : Nat, k ≤ l.length ∧ n = l.length - k ∧ l.take k = m.take k ∧ Below w.heap.size w W ∧ Slots (some (.slice A l.length c) :: some (.slice B m.length d) :: none :: none :: none :: some (iv k) :: o4 (o16 [])) t
set_option maxRecDepth 100000 in
set_option maxHeartbeats 1000000 in
theorem ints21 (A B : Option Addr) (c d : Nat) (l m : List Int) (hl : l.length ≤ 1000000) (hm : m.length ≤ 1000000) (w : World) (hA : RowV w A (l.map vi)) (hB : RowV w B (m.map vi)) : Calls Try.prog 21 #[.slice A l.length c, .slice B m.length d] w fun e w' => e = .returned (.bool (decide (l = m))) ∧ Below w.heap.size w w' := by
  have hu22 := Try.underlying22
  obtain ⟨R, hR⟩ : ∃ R, decide (l = m) = R := ⟨_, rfl⟩
  rw [hR]
  have HR := Lib.hid hR
  clear hR
  refine calls_of_exec Try.func21 rfl ?_
  simp only [Try.ntmps21, List.size_toArray, List.length_cons, List.length_nil, Nat.reduceAdd, Nat.reduceSub, Array.replicate_succ, Array.replicate_zero, List.push_toArray, List.append_toArray, List.nil_append, List.cons_append]
  refine exec_seq (exec_region_o fun ds => ?_)
  gi_wp2
  refine eq_mk (Keep.refl _) ?_
  show Exec _ _ (Code.seq (Code.seq _ _) _) _ _ _
  refine exec_seq (exec_seq (exec_region_o fun ds => ?_))
  gi_wp2
  refine eq_mk (Keep.refl _) ?_
  show Exec _ _ (Code.cond _ _ _) _ _ _
  by_cases hlm : l.length = m.length
  · refine exec_cond (b := false) (by first | rfl | (show Value.bool (decide _) = _; simp [hlm]; done) | (show Value.bool (!decide _) = _; simp [hlm]; done)) (fun h => by cases h) (fun _ => exec_skip ?_)
    show Exec _ _ (Code.seq (Code.seq _ _) _) _ _ _
    refine exec_seq (exec_seq (exec_region_o fun ds => ?_))
    gi_wp2
    refine eq_mk (Keep.refl _) ?_
    show Exec _ _ (Code.block _ _) _ _ _
    refine exec_block ?_
    refine exec_loop (InI w A B c d l m) l.length ⟨0, by omega, rfl, rfl, Below.refl _ _, by simp [Slots, Fits, hlm]⟩ ?_
    rintro n t W ⟨k, hk, hn, htk, hV, hSl⟩
    have HT := Lib.hid htk
    clear htk
    have HL := Lib.hid hlm
    clear hlm
    obtain ⟨x, hx⟩ := Slots.open_ hSl; simp only [fill, Nat.reduceAdd] at hx; subst hx; clear hSl
    show Exec _ _ (Code.seq (Code.seq _ _) _) _ _ _
    refine exec_seq (exec_seq (exec_region_o fun ds => ?_))
    gi_wp2
    refine eq_mk (Keep.refl _) ?_
    show Exec _ _ (Code.cond _ _ _) _ _ _
    refine (exec_cond (b := decide (k < l.length)) (by first | rfl | (show Value.bool _ = _; congr 1; exact decide_eq_decide.2 (by omega))) (fun hp => exec_skip ?_) (fun hp => exec_exit ?_))
    · have hkl : k < l.length := by have := of_decide_eq_true hp; omega
      have hkm : k < m.length := by have := HL.out; omega
      show Exec _ _ (Code.seq (Code.block _ _) _) _ _ _
      obtain ⟨a1, e1, h1⟩ := row_int (hA.below hV) hkl
      obtain ⟨a2, e2, h2⟩ := row_int (hB.below hV) hkm
      obtain ⟨y1, hy1⟩ : ∃ y, l[k] = y := ⟨_, rfl⟩
      obtain ⟨y2, hy2⟩ : ∃ y, m[k] = y := ⟨_, rfl⟩
      rw [hy1] at h1
      rw [hy2] at h2
      have HY : y1 = y2 → l.take (k + 1) = m.take (k + 1) := fun e => by
        rw [List.take_succ_eq_append_getElem hkl, List.take_succ_eq_append_getElem hkm, HT.out, hy1, hy2, e]
      have HN : y1 ≠ y2 → l ≠ m := fun e c => e (by rw [← hy1, ← hy2]; simp only [c])
      have HY := Lib.hid HY
      have HN := Lib.hid HN
      clear hy1 hy2
      have hkI : (k : Int) < l.length := by omega
      have hkJ : (k : Int) < m.length := by omega
      simp only [e1, e2]
      have E1 := Lib.hid e1
      have E2 := Lib.hid e2
      clear e1 e2
      refine exec_cut (fun t' Y => y1 = y2 ∧ Below w.heap.size w Y ∧ Slots (some (.slice A l.length c) :: some (.slice B m.length d) :: none :: none :: none :: some (iv k) :: o4 (o16 [])) t') (exec_block ?_) ?_
      · have hd : Below W.heap.size W W.drew := (Below.refl _ W).drew
        show Exec _ _ (Code.seq _ _) _ _ _
        refine exec_seq (region_of_tail 9 (by kernel_rfl) (by kernel_rfl) (by kernel_rfl) (fun Y => Y.cell? (a1.add k) = some (vi y1) ∧ Y.cell? (a2.add k) = some (vi y2)) (fun _ _ _ => False) (fun _ _ _ h => h.elim) fun ds => ?_)
        have hS : W.drew.cell? (a1.add k) = some (vi y1) ∧ W.drew.cell? (a2.add k) = some (vi y2) := ⟨(Grow.of_below (B := 0) hd).cell h1, (Grow.of_below (B := 0) hd).cell h2⟩
        refine held_take 0 (.slice (some a1) l.length c) rfl (by kernel_rfl) (by kernel_rfl) (by kernel_rfl) (by intro _ _ _ h; first | exact h | (simpa [behind, Act.put] using h)) rfl (by first | exact hS | assumption) (fun wq hq => ?_) ?_; (focus (first | rfl | (simp [go_sem]; done))); simp only [Act.put, Array.getInternal_eq_getElem, List.take_succ_cons, List.take_zero, List.take_nil, List.getElem_toArray, List.getElem_cons_succ, List.getElem_cons_zero, List.setIfInBounds_toArray, List.set_cons_succ, List.set_cons_zero]
        refine held_take 1 (iv k) rfl (by kernel_rfl) (by kernel_rfl) (by kernel_rfl) (by intro _ _ _ h; first | exact h | (simpa [behind, Act.put] using h)) rfl (by first | exact hS | assumption) (fun wq hq => ?_) ?_; (focus (first | rfl | (simp [go_sem]; done))); simp only [Act.put, Array.getInternal_eq_getElem, List.take_succ_cons, List.take_zero, List.take_nil, List.getElem_toArray, List.getElem_cons_succ, List.getElem_cons_zero, List.setIfInBounds_toArray, List.set_cons_succ, List.set_cons_zero]
        refine held_take 2 (.pointer (some (a1.add k))) rfl (by kernel_rfl) (by kernel_rfl) (by kernel_rfl) (by intro _ _ _ h; first | exact h | (simpa [behind, Act.put] using h)) rfl (by first | exact hS | assumption) (fun wq hq => ?_) ?_; (focus (simp [go_sem, hu22, hkI]; done)); simp only [Act.put, Array.getInternal_eq_getElem, List.take_succ_cons, List.take_zero, List.take_nil, List.getElem_toArray, List.getElem_cons_succ, List.getElem_cons_zero, List.setIfInBounds_toArray, List.set_cons_succ, List.set_cons_zero]
        refine held_take 3 (vi y1) rfl (by kernel_rfl) (by kernel_rfl) (by kernel_rfl) (by intro _ _ _ h; first | exact h | (simpa [behind, Act.put] using h)) rfl (by first | exact hS | assumption) (fun wq hq => ?_) ?_; (focus (simp [go_sem, hq.1]; done)); simp only [Act.put, Array.getInternal_eq_getElem, List.take_succ_cons, List.take_zero, List.take_nil, List.getElem_toArray, List.getElem_cons_succ, List.getElem_cons_zero, List.setIfInBounds_toArray, List.set_cons_succ, List.set_cons_zero]
        refine held_take 4 (.slice (some a2) m.length d) rfl (by kernel_rfl) (by kernel_rfl) (by kernel_rfl) (by intro _ _ _ h; first | exact h | (simpa [behind, Act.put] using h)) rfl (by first | exact hS | assumption) (fun wq hq => ?_) ?_; (focus (first | rfl | (simp [go_sem]; done))); simp only [Act.put, Array.getInternal_eq_getElem, List.take_succ_cons, List.take_zero, List.take_nil, List.getElem_toArray, List.getElem_cons_succ, List.getElem_cons_zero, List.setIfInBounds_toArray, List.set_cons_succ, List.set_cons_zero]
        refine held_take 5 (iv k) rfl (by kernel_rfl) (by kernel_rfl) (by kernel_rfl) (by intro _ _ _ h; first | exact h | (simpa [behind, Act.put] using h)) rfl (by first | exact hS | assumption) (fun wq hq => ?_) ?_; (focus (first | rfl | (simp [go_sem]; done))); simp only [Act.put, Array.getInternal_eq_getElem, List.take_succ_cons, List.take_zero, List.take_nil, List.getElem_toArray, List.getElem_cons_succ, List.getElem_cons_zero, List.setIfInBounds_toArray, List.set_cons_succ, List.set_cons_zero]
        refine held_take 6 (.pointer (some (a2.add k))) rfl (by kernel_rfl) (by kernel_rfl) (by kernel_rfl) (by intro _ _ _ h; first | exact h | (simpa [behind, Act.put] using h)) rfl (by first | exact hS | assumption) (fun wq hq => ?_) ?_; (focus (simp [go_sem, hu22, hkJ]; done)); simp only [Act.put, Array.getInternal_eq_getElem, List.take_succ_cons, List.take_zero, List.take_nil, List.getElem_toArray, List.getElem_cons_succ, List.getElem_cons_zero, List.setIfInBounds_toArray, List.set_cons_succ, List.set_cons_zero]
        refine held_take 7 (vi y2) rfl (by kernel_rfl) (by kernel_rfl) (by kernel_rfl) (by intro _ _ _ h; first | exact h | (simpa [behind, Act.put] using h)) rfl (by first | exact hS | assumption) (fun wq hq => ?_) ?_; (focus (simp [go_sem, hq.2]; done)); simp only [Act.put, Array.getInternal_eq_getElem, List.take_succ_cons, List.take_zero, List.take_nil, List.getElem_toArray, List.getElem_cons_succ, List.getElem_cons_zero, List.setIfInBounds_toArray, List.set_cons_succ, List.set_cons_zero]
        refine held_take 8 (.bool (y1 != y2)) rfl (by kernel_rfl) (by kernel_rfl) (by kernel_rfl) (by intro _ _ _ h; first | exact h | (simpa [behind, Act.put] using h)) rfl (by first | exact hS | assumption) (fun wq hq => ?_) ?_; (focus (simp [go_sem]; done)); simp only [Act.put, Array.getInternal_eq_getElem, List.take_succ_cons, List.take_zero, List.take_nil, List.getElem_toArray, List.getElem_cons_succ, List.getElem_cons_zero, List.setIfInBounds_toArray, List.set_cons_succ, List.set_cons_zero]
        refine held_done (by kernel_rfl) ?_
        refine any_done (by kernel_rfl) ⟨rfl, Keep.of_below hd, ?_⟩
        show Exec _ _ (Code.cond _ _ _) _ _ _
        have hBd := hV.trans (hd.mono hV.size)
        by_cases hy : y1 = y2
        · refine exec_cond (b := false) (by show Value.bool (y1 != y2) = _; simp [hy]) (fun h => by cases h) (fun _ => exec_skip ?_)
          exact ⟨hy, hBd, by simp [Slots, Fits, E1.out, E2.out]⟩
        · refine exec_cond (b := true) (by show Value.bool (y1 != y2) = _; simp [hy]) (fun _ => ?_) (fun h => by cases h)
          refine exec_seq (exec_region_o fun ds => ?_)
          gi_wp2
          refine eq_mk (Keep.refl _) ?_
          show Exec _ _ _ _ _ _
          refine exec_ret ⟨.inr rfl, fun W' hG => ⟨.bool false, by simp [results, Try.f21, go_sem], ?_, hBd.trans (hG.below (Nat.le_refl _) hBd.size)⟩⟩
          rw [← HR.out, decide_eq_false (HN.out hy)]
      · clear hV h1 h2 x
        clear W
        rintro t' Y ⟨hy, hV, hSl⟩
        have hT2 := HY.out hy
        have HT2 := Lib.hid hT2
        clear hT2 hy
        obtain ⟨x, hx⟩ := Slots.open_ hSl; simp only [fill, Nat.reduceAdd] at hx; subst hx; clear hSl
        have hw : IntKind.i64.wrap ((k : Int) + 1) = ((k + 1 : Nat) : Int) := by rw [IntWalk.i64_in _ (by omega)]; norm_cast
        refine exec_region_o fun ds => ?_
        gi_wp2
        exact eq_mk (Keep.refl _) ⟨n - 1, by omega, k + 1, by omega, by omega, HT2.out, hV, by simp only [Slots, Fits, and_self]; simp [E1.out, E2.out]⟩
    · have hkl : k = l.length := by have := of_decide_eq_false hp; omega
      have htk := HT.out
      rw [hkl, List.take_length, List.take_of_length_le (by have := HL.out; omega)] at htk
      have hr : R = true := by rw [← HR.out]; exact decide_eq_true htk
      subst hr
      show Exec _ _ (Code.seq _ _) _ _ _
      refine exec_seq (exec_region_o fun ds => ?_)
      gi_wp2
      refine eq_mk (Keep.refl _) ?_
      show Exec _ _ _ _ _ _
      exact exec_ret ⟨.inr rfl, fun W' hG => ⟨.bool true, by simp [results, Try.f21, go_sem], rfl, hV.trans (hG.below (Nat.le_refl _) hV.size)⟩⟩
  · have hlI : ¬ ((l.length : Int) = m.length) := by omega
    refine exec_cond (b := true) (by first | rfl | (show Value.bool (decide _) = _; simp [hlI]; done) | (show Value.bool (!decide _) = _; simp [hlI]; done)) (fun _ => ?_) (fun h => by cases h)
    refine exec_seq (exec_region_o fun ds => ?_)
    gi_wp2
    refine eq_mk (Keep.refl _) ?_
    show Exec _ _ _ _ _ _
    refine exec_ret ⟨.inr rfl, fun W' hG => ⟨.bool false, by simp [results, Try.f21, go_sem], ?_, hG.below (Nat.le_refl _) (Nat.le_refl _)⟩⟩
    rw [← HR.out, decide_eq_false (fun c => hlm (by rw [c]))]
end Go.Proofs.Ytbdmmikflkpmpaa
end

section
namespace Go.Proofs.Ytbdmmikflkpmpaa
open Go.RowKit Go.TL Go.Shelf Go.Pn
attribute [local go_sem] Oper.semAt_some
attribute [local go_sem] run_store_func
def smK (b : Bool) : List (Int × Int) := if b then [(0, 2), (2, 1), (0, 1)] else [(0, 2), (2, 1)]
def SmX (b : Bool) (a : XP) : Prop := a.L = [2, 2, 1] ∧ a.N = [2, 1, 2] ∧ a.K = smK b
def smN (b : Bool) : List (Nat × Nat) := if b then [(0, 2), (2, 1), (0, 1)] else [(0, 2), (2, 1)]
theorem rowKI_of {W : World} {A : Option Addr} {K : List (Nat × Nat)} (h : RowK W A K) : RowKI W A (K.map fun k => ((k.1 : Int), (k.2 : Int))) := by
  intro i k hk
  rw [List.getElem?_map] at hk
  obtain ⟨y, hy, rfl⟩ := Option.map_eq_some_iff.1 hk
  exact h i y hy
theorem smN_K (b : Bool) : (smN b).map (fun k => ((k.1 : Int), (k.2 : Int))) = smK b := by cases b <;> rfl
structure SmW (w : World) (q : Nat) (A : Option Addr) (c : Nat) (K : List (Nat × Nat)) (X : World) : Prop where
  h0 : X.heap[q]? = some (.cells #[.slice none 0 0, .slice none 0 0, .slice none 0 0] 25 (0, 0))
  h1 : X.heap[q + 1]? = some (.cells #[vi 2, vi 2, vi 1] 3 (0, 0))
  h2 : X.heap[q + 1 + 1]? = some (.cells #[vi 2, vi 1, vi 2] 3 (0, 0))
  h4 : X.heap[q + 1 + 1 + 1 + 1]? = some (.cells #[.slice (some ⟨q + 1, 0, none⟩) 3 3, .slice (some ⟨q + 1 + 1, 0, none⟩) 3 3, .slice A K.length c] 25 (0, 0))
  rk : RowK X A K
  ra : ∀ ad, A = some ad → q < ad.block
  below : Below w.heap.size w X
theorem row3 {W : World} {q : Nat} {a b c : Int} (h : W.heap[q]? = some (.cells #[vi a, vi b, vi c] 3 (0, 0))) : RowV W (some ⟨q, 0, none⟩) ([a, b, c].map vi) := row_of_cells (vs := [vi a, vi b, vi c]) h
set_option maxRecDepth 100000 in
set_option maxHeartbeats 1000000 in
theorem sm_end {w : World} {b : Bool} {A : Option Addr} {c : Nat} {X : World} (h : SmW w w.heap.size A c (smN b) X) (t : Array Value) (hSl : Slots (none :: none :: some (.pointer (some ⟨w.heap.size, 0, none⟩)) :: some (.pointer (some ⟨w.heap.size + 1 + 1 + 1 + 1, 0, none⟩)) :: none :: none :: o4 (o4 (o4 []))) t) :
    Exec Try.prog none (sub (Try.f46.body.getD .skip) [1, 1, 1]) t X fun e t W => (e = .normal ∨ e = .ret) ∧ ∀ W', Grow w.heap.size W W' → ∃ v, (results Try.f46 t).run Try.prog W' = .ok v W' ∧ ∃ a : XP, Ending.returned v = .returned a.val ∧ SmX b a ∧ a.At W' ∧ Below w.heap.size w W' := by
  have hu25 := Try.underlying25
  obtain ⟨x, hx⟩ := Slots.open_ hSl; simp only [fill, Nat.reduceAdd] at hx; subst hx; clear hSl
  have c0 := cells_get (cs := [_, _, _]) (k := 0) h.h4 rfl
  have c1 := cells_get (cs := [_, _, _]) (k := 1) h.h4 rfl
  have c2 := cells_get (cs := [_, _, _]) (k := 2) h.h4 rfl
  have d0 := cells_get (cs := [_, _, _]) (k := 0) h.h0 rfl
  have d1 := cells_get (cs := [_, _, _]) (k := 1) h.h0 rfl
  have d2 := cells_get (cs := [_, _, _]) (k := 2) h.h0 rfl
  have df : ∀ o, X.frozen? ⟨w.heap.size, o, none⟩ = false := fun o => frozen_cells h.h0
  have hlen : (smN b).length ≤ 3 := by cases b <;> decide
  have e0 := box_set _ w.heap.size 0 [.slice none 0 0, .slice none 0 0, .slice none 0 0] 25 (.slice (some ⟨w.heap.size + 1, 0, none⟩) 3 3) h.h0
  have e1 := box_set _ w.heap.size 1 [.slice (some ⟨w.heap.size + 1, 0, none⟩) 3 3, .slice none 0 0, .slice none 0 0] 25 (.slice (some ⟨w.heap.size + 1 + 1, 0, none⟩) 3 3) e0
  have e2 := box_set _ w.heap.size 2 [.slice (some ⟨w.heap.size + 1, 0, none⟩) 3 3, .slice (some ⟨w.heap.size + 1 + 1, 0, none⟩) 3 3, .slice none 0 0] 25 (.slice A (smN b).length c) e1
  have hB := ((h.below.setCell (p := ⟨w.heap.size, 0, none⟩) (Nat.le_refl _) (.slice (some ⟨w.heap.size + 1, 0, none⟩) 3 3)).setCell (p := ⟨w.heap.size, 1, none⟩) (Nat.le_refl _) (.slice (some ⟨w.heap.size + 1 + 1, 0, none⟩) 3 3)).setCell (p := ⟨w.heap.size, 2, none⟩) (Nat.le_refl _) (.slice A (smN b).length c)
  have far : ∀ k o, k ≠ w.heap.size → X.heap[k]? = some o → (((X.setCell ⟨w.heap.size, 0, none⟩ (.slice (some ⟨w.heap.size + 1, 0, none⟩) 3 3)).setCell ⟨w.heap.size, 1, none⟩ (.slice (some ⟨w.heap.size + 1 + 1, 0, none⟩) 3 3)).setCell ⟨w.heap.size, 2, none⟩ (.slice A (smN b).length c)).heap[k]? = some o := fun k o hk ho => box_far _ _ _ _ _ _ (box_far _ _ _ _ _ _ (box_far _ _ _ _ _ _ ho hk) hk) hk
  have f1 := far _ _ (by omega) h.h1
  have f2 := far _ _ (by omega) h.h2
  have fk : RowK (((X.setCell ⟨w.heap.size, 0, none⟩ (.slice (some ⟨w.heap.size + 1, 0, none⟩) 3 3)).setCell ⟨w.heap.size, 1, none⟩ (.slice (some ⟨w.heap.size + 1 + 1, 0, none⟩) 3 3)).setCell ⟨w.heap.size, 2, none⟩ (.slice A (smN b).length c)) A (smN b) :=
    ((h.rk.far (fun _ ad e => by have := h.ra ad e; omega) _).far (fun _ ad e => by have := h.ra ad e; omega) _).far (fun _ ad e => by have := h.ra ad e; omega) _
  show Exec _ _ (Code.seq _ _) _ _ _
  refine exec_seq (exec_region_o fun ds => ?_)
  gi_wp2
  refine eq_mk ((((Keep.refl _).setCell _ _).setCell _ _).setCell _ _) ?_
  show Exec _ _ _ _ _ _
  refine exec_ret ⟨.inr rfl, fun W' hG => ?_⟩
  have g2 := hG.same _ _ e2 (.inr rfl)
  have k0 := cells_get (cs := [_, _, _]) (k := 0) g2 rfl
  have k1 := cells_get (cs := [_, _, _]) (k := 1) g2 rfl
  have k2 := cells_get (cs := [_, _, _]) (k := 2) g2 rfl
  refine ⟨.agg #[.slice (some ⟨w.heap.size + 1, 0, none⟩) 3 3, .slice (some ⟨w.heap.size + 1 + 1, 0, none⟩) 3 3, .slice A (smN b).length c], by simp [results, Try.f46, go_sem, hu25, k0, k1, k2], ⟨some ⟨w.heap.size + 1, 0, none⟩, 3, [2, 2, 1], some ⟨w.heap.size + 1 + 1, 0, none⟩, 3, [2, 1, 2], A, c, smK b⟩, ?_, ⟨rfl, rfl, rfl⟩, ⟨row3 (hG.same _ _ f1 (.inr rfl)), row3 (hG.same _ _ f2 (.inr rfl)), ?_, by simp, by simp, ?_⟩, hB.trans (hG.below (Nat.le_refl _) hB.size)⟩
  · simp only [XP.val, XP.sL, XP.sN, XP.sK]
    rw [← smN_K, List.length_map]
    rfl
  · rw [← smN_K]
    exact rowKI_of (fk.grow hG)
  · rw [← smN_K, List.length_map]
    omega
set_option maxRecDepth 100000 in
set_option maxHeartbeats 1000000 in
theorem sample46 (b : Bool) (w : World) : Calls Try.prog 46 #[.bool b] w fun e w' => ∃ a : XP, e = .returned a.val ∧ SmX b a ∧ a.At w' ∧ Below w.heap.size w w' := by
  have hu25 := Try.underlying25
  have hu22 := Try.underlying22
  have hu23 := Try.underlying23
  have hu50 := Try.underlying50
  refine calls_of_exec Try.func46 rfl ?_
  simp only [Try.ntmps46, List.size_toArray, List.length_cons, List.length_nil, Nat.reduceAdd, Nat.reduceSub, Array.replicate_succ, Array.replicate_zero, List.push_toArray, List.append_toArray, List.nil_append, List.cons_append]
  refine exec_seq (exec_region_o fun ds => ?_)
  gi_wp2
  refine eq_mk ((Keep.refl _).alloc _) ?_
  show Exec _ _ (Code.seq _ _) _ _ _
  refine exec_seq (exec_region_o fun ds => ?_)
  gi_wp2
  refine eq_mk (((((Keep.refl _).alloc _).alloc _).alloc _).alloc _) ?_
  show Exec _ _ (Code.seq (Code.seq _ _) _) _ (((((w.alloc (.cells #[.slice none 0 0, .slice none 0 0, .slice none 0 0] 25)).alloc (.cells #[vi 2, vi 2, vi 1] 3)).alloc (.cells #[vi 2, vi 1, vi 2] 3)).alloc (.cells #[iv 0, iv 2, iv 2, iv 1] 50)).alloc (.cells #[.slice (some ⟨w.heap.size + 1, 0, none⟩) 3 3, .slice (some ⟨w.heap.size + 1 + 1, 0, none⟩) 3 3, .slice (some ⟨w.heap.size + 1 + 1 + 1, 0, none⟩) 2 2] 25)) _
  have hB : Below w.heap.size w (((((w.alloc (.cells #[.slice none 0 0, .slice none 0 0, .slice none 0 0] 25)).alloc (.cells #[vi 2, vi 2, vi 1] 3)).alloc (.cells #[vi 2, vi 1, vi 2] 3)).alloc (.cells #[iv 0, iv 2, iv 2, iv 1] 50)).alloc (.cells #[.slice (some ⟨w.heap.size + 1, 0, none⟩) 3 3, .slice (some ⟨w.heap.size + 1 + 1, 0, none⟩) 3 3, .slice (some ⟨w.heap.size + 1 + 1 + 1, 0, none⟩) 2 2] 25)) := (((((Below.refl _ w).alloc (Nat.le_refl _) _).alloc (by simp) _).alloc (by simp; omega) _).alloc (by simp; omega) _).alloc (by simp; omega) _
  have o3 : (((((w.alloc (.cells #[.slice none 0 0, .slice none 0 0, .slice none 0 0] 25)).alloc (.cells #[vi 2, vi 2, vi 1] 3)).alloc (.cells #[vi 2, vi 1, vi 2] 3)).alloc (.cells #[iv 0, iv 2, iv 2, iv 1] 50)).alloc (.cells #[.slice (some ⟨w.heap.size + 1, 0, none⟩) 3 3, .slice (some ⟨w.heap.size + 1 + 1, 0, none⟩) 3 3, .slice (some ⟨w.heap.size + 1 + 1 + 1, 0, none⟩) 2 2] 25)).ownsRow (w.heap.size + 1) 50 2 (.slice (some ⟨w.heap.size + 1 + 1 + 1, 0, none⟩) 2 2) 2 (flatV (smN false)) := by
    have h := World.ownsRow_lit (base := w.heap.size + 1) (e := 50) (size := 2) (((w.alloc (.cells #[.slice none 0 0, .slice none 0 0, .slice none 0 0] 25)).alloc (.cells #[vi 2, vi 2, vi 1] 3)).alloc (.cells #[vi 2, vi 1, vi 2] 3)) #[iv 0, iv 2, iv 2, iv 1] 2 (by simp) (by unfold maxLen; omega) rfl
    simp only [World.size_alloc] at h
    exact h.alloc _
  have g0 : (((((w.alloc (.cells #[.slice none 0 0, .slice none 0 0, .slice none 0 0] 25)).alloc (.cells #[vi 2, vi 2, vi 1] 3)).alloc (.cells #[vi 2, vi 1, vi 2] 3)).alloc (.cells #[iv 0, iv 2, iv 2, iv 1] 50)).alloc (.cells #[.slice (some ⟨w.heap.size + 1, 0, none⟩) 3 3, .slice (some ⟨w.heap.size + 1 + 1, 0, none⟩) 3 3, .slice (some ⟨w.heap.size + 1 + 1 + 1, 0, none⟩) 2 2] 25)).heap[w.heap.size]? = some (.cells #[.slice none 0 0, .slice none 0 0, .slice none 0 0] 25 (0, 0)) := heap_next (heap_next (heap_next (heap_next (World.alloc_heap_new _ _) _) _) _) _
  have g1 : (((((w.alloc (.cells #[.slice none 0 0, .slice none 0 0, .slice none 0 0] 25)).alloc (.cells #[vi 2, vi 2, vi 1] 3)).alloc (.cells #[vi 2, vi 1, vi 2] 3)).alloc (.cells #[iv 0, iv 2, iv 2, iv 1] 50)).alloc (.cells #[.slice (some ⟨w.heap.size + 1, 0, none⟩) 3 3, .slice (some ⟨w.heap.size + 1 + 1, 0, none⟩) 3 3, .slice (some ⟨w.heap.size + 1 + 1 + 1, 0, none⟩) 2 2] 25)).heap[w.heap.size + 1]? = some (.cells #[vi 2, vi 2, vi 1] 3 (0, 0)) := by
    have := World.alloc_heap_new (w.alloc (.cells #[.slice none 0 0, .slice none 0 0, .slice none 0 0] 25)) (.cells #[vi 2, vi 2, vi 1] 3)
    simp only [World.size_alloc] at this
    exact heap_next (heap_next (heap_next this _) _) _
  have g2 : (((((w.alloc (.cells #[.slice none 0 0, .slice none 0 0, .slice none 0 0] 25)).alloc (.cells #[vi 2, vi 2, vi 1] 3)).alloc (.cells #[vi 2, vi 1, vi 2] 3)).alloc (.cells #[iv 0, iv 2, iv 2, iv 1] 50)).alloc (.cells #[.slice (some ⟨w.heap.size + 1, 0, none⟩) 3 3, .slice (some ⟨w.heap.size + 1 + 1, 0, none⟩) 3 3, .slice (some ⟨w.heap.size + 1 + 1 + 1, 0, none⟩) 2 2] 25)).heap[w.heap.size + 1 + 1]? = some (.cells #[vi 2, vi 1, vi 2] 3 (0, 0)) := by
    have := World.alloc_heap_new ((w.alloc (.cells #[.slice none 0 0, .slice none 0 0, .slice none 0 0] 25)).alloc (.cells #[vi 2, vi 2, vi 1] 3)) (.cells #[vi 2, vi 1, vi 2] 3)
    simp only [World.size_alloc] at this
    exact heap_next (heap_next this _) _
  have g4 := World.alloc_heap_new ((((w.alloc (.cells #[.slice none 0 0, .slice none 0 0, .slice none 0 0] 25)).alloc (.cells #[vi 2, vi 2, vi 1] 3)).alloc (.cells #[vi 2, vi 1, vi 2] 3)).alloc (.cells #[iv 0, iv 2, iv 2, iv 1] 50)) (.cells #[.slice (some ⟨w.heap.size + 1, 0, none⟩) 3 3, .slice (some ⟨w.heap.size + 1 + 1, 0, none⟩) 3 3, .slice (some ⟨w.heap.size + 1 + 1 + 1, 0, none⟩) 2 2] 25)
  simp only [World.size_alloc] at g4
  generalize ((((w.alloc (.cells #[.slice none 0 0, .slice none 0 0, .slice none 0 0] 25)).alloc (.cells #[vi 2, vi 2, vi 1] 3)).alloc (.cells #[vi 2, vi 1, vi 2] 3)).alloc (.cells #[iv 0, iv 2, iv 2, iv 1] 50)).alloc (.cells #[.slice (some ⟨w.heap.size + 1, 0, none⟩) 3 3, .slice (some ⟨w.heap.size + 1 + 1, 0, none⟩) 3 3, .slice (some ⟨w.heap.size + 1 + 1 + 1, 0, none⟩) 2 2] 25) = X at *
  have hr0 : RowK X (some ⟨w.heap.size + 1 + 1 + 1, 0, none⟩) (smN false) := by
    obtain ⟨A0, c0, ev, hr0, ha0⟩ := row_own_pairs o3 rfl
    simp only [Value.slice.injEq] at ev
    rw [ev.1]
    exact hr0
  have hlt4 := heap_lt g4
  refine exec_seq (exec_seq (exec_region_o fun ds => ?_))
  gi_wp2
  refine eq_mk (Keep.refl _) ?_
  show Exec _ _ (Code.cond _ _ _) _ _ _
  cases b with
  | false =>
    refine exec_cond (b := false) rfl (fun h => by cases h) (fun _ => exec_skip ?_)
    refine sm_end (b := false) (A := some ⟨w.heap.size + 1 + 1 + 1, 0, none⟩) (c := 2) ⟨g0, g1, g2, g4, hr0, fun ad e => by cases e; show w.heap.size < w.heap.size + 1 + 1 + 1; omega, hB⟩ _ (by simp [Slots, Fits])
  | true =>
    refine exec_cond (b := true) rfl (fun _ => ?_) (fun h => by cases h)
    have k2 := cells_get (cs := [_, _, _]) (k := 2) g4 rfl
    obtain ⟨i0, z, hi0, hz0, hz3, hz1, hz2⟩ := info50
    have hsz := hB.size
    refine exec_region_o fun ds => ?_
    gi_wp2_with (gi_at_builtin; refine wpListIn_append_own _ rfl _ _ 23 rfl (w.heap.size + 1) 50 i0 z 2 16 Try.underlying23 hi0 hz0 hz1 hz2 hz3 (by decide) (.slice (some ⟨w.heap.size + 1 + 1 + 1, 0, none⟩) 2 2) 2 (flatV (smN false)) rfl (o3.alloc _) ⟨X.heap.size, 0, none⟩ 1 1 [iv 0, iv 1] rfl rfl (cell_pair _ _ _ _) (by simp [Value.oneCell']) (by unfold maxLen; omega) (by omega) (by simp; omega) ?_; intro v' w' hown2 hgr _; obtain ⟨A1, c1, rfl, hr1, ha1⟩ := row_own_pairs (K := smN true) hown2 rfl; have hblk : ∀ k o, X.heap[k]? = some o → k ≠ w.heap.size + 1 + 1 + 1 → w'.heap[k]? = some o := (fun k o hk hne => (hgr.block k (by rw [World.size_alloc]; have := heap_lt hk; omega) (fun e => hne (by have := Option.some.inj e; exact this))).trans (heap_next hk _)); have hb4 := hblk _ _ g4 (by omega); have k2' := cells_get (cs := [_, _, _]) (k := 2) hb4 rfl; have kf := (frozen_cells hb4 : w'.frozen? ⟨w.heap.size + 1 + 1 + 1 + 1, 2, none⟩ = false))
    have hbk : ∀ j o, (Value.slice (some ⟨w.heap.size + 1 + 1 + 1, 0, none⟩) 2 2).ownBlock = some j → (X.alloc (.cells #[iv 0, iv 1] 50)).heap[j]? = some o → book o = false := by
      intro j o hv ho
      rcases (o3.alloc (.cells #[iv 0, iv 1] 50)).2 with ⟨h, _⟩ | ⟨g', cap', cur, h, _, hg', _⟩
      · cases h
      · rw [h] at hv
        simp only [Value.ownBlock, Option.some.injEq] at hv
        subst hv
        rw [hg'] at ho
        cases ho
        rfl
    have hB3 : Below w.heap.size w w' := (hB.alloc hsz (.cells #[iv 0, iv 1] 50)).grown hgr (by simp; omega) (fun q e => by simp only [Value.ownBlock, Option.some.injEq] at e; omega)
    refine eq_mk ((((Keep.refl _).alloc _).grown hgr hbk).setCell _ _) ?_
    have hbox := box_set w' (w.heap.size + 1 + 1 + 1 + 1) 2 _ 25 (.slice A1 (smN true).length c1) hb4
    have hfar : ∀ k o, X.heap[k]? = some o → k ≠ w.heap.size + 1 + 1 + 1 → k ≠ w.heap.size + 1 + 1 + 1 + 1 → (w'.setCell ⟨w.heap.size + 1 + 1 + 1 + 1, 2, none⟩ (.slice A1 (smN true).length c1)).heap[k]? = some o := fun k o hk h1 h2 => box_far _ _ _ _ _ _ (hblk k o hk h1) h2
    have hne4 : ∀ ad, A1 = some ad → ad.block ≠ w.heap.size + 1 + 1 + 1 + 1 := fun ad e c => by
      rcases hown2.2 with ⟨h, _⟩ | ⟨g, cap, cur, h, _, hg', _⟩
      · simp only [Value.slice.injEq] at h
        rw [e] at h
        cases h.1
      · simp only [Value.slice.injEq] at h
        rw [e] at h
        have := Option.some.inj h.1
        rw [this] at c
        simp only at c
        rw [c, hb4] at hg'
        cases hg'
    show Exec _ _ (Code.seq _ _) _ _ _
    have hSW : SmW w w.heap.size A1 c1 (smN true) (w'.setCell ⟨w.heap.size + 1 + 1 + 1 + 1, 2, none⟩ (.slice A1 (smN true).length c1)) := ⟨hfar _ _ g0 (by omega) (by omega), hfar _ _ g1 (by omega) (by omega), hfar _ _ g2 (by omega) (by omega), hbox, hr1.far (fun _ ad e => hne4 ad e) _, fun ad e => by have := ha1 ad e; omega, hB3.setCell (by show w.heap.size ≤ w.heap.size + 1 + 1 + 1 + 1; omega) _⟩
    refine (sm_end (b := true) hSW _ ?_).mono ?_
    · simp [Slots, Fits]
    · rintro e t W ⟨h1, h2⟩
      refine ⟨h1, fun W' hG => ?_⟩
      obtain ⟨v, hr, a, he, r⟩ := h2 W' hG
      exact ⟨v, hr, a, Ending.returned.inj he, r⟩
end Go.Proofs.Ytbdmmikflkpmpaa
end

section
namespace Go.Proofs.Ytbdmmikflkpmpaa
open Go.RowKit Go.TL Go.Shelf Go.Pn
attribute [local go_sem] Oper.semAt_some
attribute [local go_sem] run_store_func
theorem sm_sit {a : XP} (h : SmX false a) : sitA a = ([3, 1, 6], 0) := by
  obtain ⟨AL, cL, L, AN, cN, N, AK, cK, K⟩ := a
  obtain ⟨h1, h2, h3⟩ := h
  simp only at h1 h2 h3
  subst h1 h2 h3
  kernel_rfl
theorem sm_count {a : XP} (h : SmX false a) : countA a = (1, 0) := by
  obtain ⟨AL, cL, L, AN, cN, N, AK, cK, K⟩ := a
  obtain ⟨h1, h2, h3⟩ := h
  simp only at h1 h2 h3
  subst h1 h2 h3
  kernel_rfl
theorem sm_pair {a : XP} (h : SmX false a) : pairA a 0 0 = (2, 0) := by
  obtain ⟨AL, cL, L, AN, cN, N, AK, cK, K⟩ := a
  obtain ⟨h1, h2, h3⟩ := h
  simp only at h1 h2 h3
  subst h1 h2 h3
  kernel_rfl
theorem sm_busy {a : XP} (h : SmX false a) : busyA a = (2, 0) := by
  obtain ⟨AL, cL, L, AN, cN, N, AK, cK, K⟩ := a
  obtain ⟨h1, h2, h3⟩ := h
  simp only at h1 h2 h3
  subst h1 h2 h3
  kernel_rfl
theorem sm_seats {a : XP} (h : SmX true a) : seatsA a = (4, 0) := by
  obtain ⟨AL, cL, L, AN, cN, N, AK, cK, K⟩ := a
  obtain ⟨h1, h2, h3⟩ := h
  simp only at h1 h2 h3
  subst h1 h2 h3
  kernel_rfl
theorem sm_short {a : XP} (h : SmX true a) : shortA a = (7, 0) := by
  obtain ⟨AL, cL, L, AN, cN, N, AK, cK, K⟩ := a
  obtain ⟨h1, h2, h3⟩ := h
  simp only at h1 h2 h3
  subst h1 h2 h3
  kernel_rfl
theorem sm_waive {a : XP} (h : SmX true a) : waiveA a = (1, 0) := by
  obtain ⟨AL, cL, L, AN, cN, N, AK, cK, K⟩ := a
  obtain ⟨h1, h2, h3⟩ := h
  simp only at h1 h2 h3
  subst h1 h2 h3
  kernel_rfl
set_option maxRecDepth 100000 in
set_option maxHeartbeats 2000000 in
theorem alive14 (w : World) : Calls Try.prog 14 #[] w fun e w' => e = .returned (.bool true) ∧ Below w.heap.size w w' := by
  have hu22 := Try.underlying22
  refine calls_of_exec Try.func14 rfl ?_
  simp only [Try.ntmps14, List.size_toArray, List.length_cons, List.length_nil, Nat.reduceAdd, Nat.reduceSub, Array.replicate_succ, Array.replicate_zero, List.push_toArray, List.append_toArray, List.nil_append, List.cons_append]
  refine exec_seq (exec_region_o fun ds => ?_)
  gi_wp2
  refine eq_mk (Keep.refl w) ?_
  show Exec _ _ _ _ _ _
  refine exec_seq (exec_region_o fun ds => ?_)
  gi_wp2_with fail
  refine ⟨trivial, rfl, (callsIn_wide.2 (sample46 false w)).mono ?_⟩
  rintro e X0 ⟨a, rfl, hs, ha, hx⟩
  have hv0 := sm_sit hs
  gi_wp2_with fail
  refine ⟨trivial, rfl, (callsIn_wide.2 (Sit_any a X0 ha)).mono ?_⟩
  rintro e Y0 ⟨A, c, rfl, hr, hy⟩
  rw [hv0] at hr ⊢
  have hxy0 := hx.trans (hy.mono hx.size)
  have hB0 := hxy0
  gi_wp2
  refine eq_mk (Keep.of_below hxy0) ?_
  show Exec _ _ _ _ _ _
  clear hxy0 hx hy hv0 hs ha
  clear X0
  refine exec_seq (exec_region_o fun ds => ?_)
  gi_wp2_with fail
  refine ⟨trivial, rfl, (callsIn_wide.2 (sample46 false Y0)).mono ?_⟩
  rintro e X1 ⟨a, rfl, hs, ha, hx⟩
  have hv1 := sm_count hs
  gi_wp2_with fail
  have hc1 := Count_any a X1 ha
  rw [hv1] at hc1
  refine ⟨trivial, rfl, (callsIn_wide.2 hc1).mono ?_⟩
  rintro e Y1 ⟨rfl, hy⟩
  have hxy1 := hx.trans (hy.mono hx.size)
  have hB1 := hB0.trans (hxy1.mono hB0.size)
  replace hr := hr.below hxy1
  gi_wp2
  refine eq_mk (Keep.of_below hxy1) ?_
  show Exec _ _ _ _ _ _
  clear hxy1 hx hy hv1 hs ha hc1
  clear X1
  clear hB0
  clear Y0
  refine exec_seq (exec_region_o fun ds => ?_)
  gi_wp2_with fail
  refine ⟨trivial, rfl, (callsIn_wide.2 (sample46 false Y1)).mono ?_⟩
  rintro e X2 ⟨a, rfl, hs, ha, hx⟩
  have hv2 := sm_pair hs
  gi_wp2_with fail
  have hc2 := Pair_any a 0 0 X2 ha
  rw [hv2] at hc2
  refine ⟨trivial, rfl, (callsIn_wide.2 hc2).mono ?_⟩
  rintro e Y2 ⟨rfl, hy⟩
  have hxy2 := hx.trans (hy.mono hx.size)
  have hB2 := hB1.trans (hxy2.mono hB1.size)
  replace hr := hr.below hxy2
  gi_wp2
  refine eq_mk (Keep.of_below hxy2) ?_
  show Exec _ _ _ _ _ _
  clear hxy2 hx hy hv2 hs ha hc2
  clear X2
  clear hB1
  clear Y1
  refine exec_seq (exec_region_o fun ds => ?_)
  gi_wp2_with fail
  refine ⟨trivial, rfl, (callsIn_wide.2 (sample46 false Y2)).mono ?_⟩
  rintro e X3 ⟨a, rfl, hs, ha, hx⟩
  have hv3 := sm_busy hs
  gi_wp2_with fail
  have hc3 := Busy_any a X3 ha
  rw [hv3] at hc3
  refine ⟨trivial, rfl, (callsIn_wide.2 hc3).mono ?_⟩
  rintro e Y3 ⟨rfl, hy⟩
  have hxy3 := hx.trans (hy.mono hx.size)
  have hB3 := hB2.trans (hxy3.mono hB2.size)
  replace hr := hr.below hxy3
  gi_wp2
  refine eq_mk (Keep.of_below hxy3) ?_
  show Exec _ _ _ _ _ _
  clear hxy3 hx hy hv3 hs ha hc3
  clear X3
  clear hB2
  clear Y2
  refine exec_seq (exec_region_o fun ds => ?_)
  gi_wp2_with fail
  refine ⟨trivial, rfl, (callsIn_wide.2 (sample46 true Y3)).mono ?_⟩
  rintro e X4 ⟨a, rfl, hs, ha, hx⟩
  have hv4 := sm_seats hs
  gi_wp2_with fail
  have hc4 := Seats_any a X4 ha
  rw [hv4] at hc4
  refine ⟨trivial, rfl, (callsIn_wide.2 hc4).mono ?_⟩
  rintro e Y4 ⟨rfl, hy⟩
  have hxy4 := hx.trans (hy.mono hx.size)
  have hB4 := hB3.trans (hxy4.mono hB3.size)
  replace hr := hr.below hxy4
  gi_wp2
  refine eq_mk (Keep.of_below hxy4) ?_
  show Exec _ _ _ _ _ _
  clear hxy4 hx hy hv4 hs ha hc4
  clear X4
  clear hB3
  clear Y3
  refine exec_seq (exec_region_o fun ds => ?_)
  gi_wp2_with fail
  refine ⟨trivial, rfl, (callsIn_wide.2 (sample46 true Y4)).mono ?_⟩
  rintro e X5 ⟨a, rfl, hs, ha, hx⟩
  have hv5 := sm_short hs
  gi_wp2_with fail
  have hc5 := Short_any a X5 ha
  rw [hv5] at hc5
  refine ⟨trivial, rfl, (callsIn_wide.2 hc5).mono ?_⟩
  rintro e Y5 ⟨rfl, hy⟩
  have hxy5 := hx.trans (hy.mono hx.size)
  have hB5 := hB4.trans (hxy5.mono hB4.size)
  replace hr := hr.below hxy5
  gi_wp2
  refine eq_mk (Keep.of_below hxy5) ?_
  show Exec _ _ _ _ _ _
  clear hxy5 hx hy hv5 hs ha hc5
  clear X5
  clear hB4
  clear Y4
  refine exec_seq (exec_region_o fun ds => ?_)
  gi_wp2_with fail
  refine ⟨trivial, rfl, (callsIn_wide.2 (sample46 true Y5)).mono ?_⟩
  rintro e X6 ⟨a, rfl, hs, ha, hx⟩
  have hv6 := sm_waive hs
  gi_wp2_with fail
  have hc6 := Waive_any a X6 ha
  rw [hv6] at hc6
  refine ⟨trivial, rfl, (callsIn_wide.2 hc6).mono ?_⟩
  rintro e Y6 ⟨rfl, hy⟩
  have hxy6 := hx.trans (hy.mono hx.size)
  have hB6 := hB5.trans (hxy6.mono hB5.size)
  replace hr := hr.below hxy6
  gi_wp2
  refine eq_mk (Keep.of_below hxy6) ?_
  show Exec _ _ _ _ _ _
  clear hxy6 hx hy hv6 hs ha hc6
  clear X6
  clear hB5
  clear Y5
  have hal := (Below.refl Y6.heap.size Y6).alloc (Nat.le_refl _) (.cells #[vi 3, vi 1, vi 6] 3)
  have hr' : RowV (Y6.alloc (.cells #[vi 3, vi 1, vi 6] 3)) A (([3, 1, 6] : List Int).map vi) := hr.below hal
  have hi := ints21 A (some ⟨Y6.heap.size, 0, none⟩) c 3 [3, 1, 6] [3, 1, 6] (by decide) (by decide) (Y6.alloc (.cells #[vi 3, vi 1, vi 6] 3)) hr' (row3 (World.alloc_heap_new _ _))
  rw [decide_eq_true rfl] at hi
  refine exec_seq (exec_region_o fun ds => ?_)
  gi_wp2_with fail
  refine ⟨trivial, rfl, (callsIn_wide.2 hi).mono ?_⟩
  rintro e Z ⟨rfl, hz⟩
  have hB := hB6.trans ((hal.trans (hz.mono hal.size)).mono hB6.size)
  gi_wp2
  refine eq_mk (((Keep.refl _).alloc _).trans (Keep.of_below hz)) ?_
  show Exec _ _ _ _ _ _
  exact exec_ret ⟨.inr rfl, fun W' hG => ⟨.bool true, by simp [results, Try.f14, go_sem], rfl, hB.trans (hG.below (Nat.le_refl _) hB.size)⟩⟩
end Go.Proofs.Ytbdmmikflkpmpaa
end

section
namespace Go.Proofs.Ytbdmmikflkpmpaa
open Go.RowKit Go.TL Go.Shelf Go.Pn
attribute [local go_sem] Oper.semAt_some
attribute [local go_sem] run_store_func
theorem in70 (x lo hi : Int) (w : World) : Calls Try.prog 70 #[vi x, vi lo, vi hi] w fun e w' => e = .returned (.bool (inB x lo hi)) ∧ Below w.heap.size w w' := by
  refine calls_of_exec Try.func70 rfl ?_
  simp only [Try.ntmps70, List.size_toArray, List.length_cons, List.length_nil, Nat.reduceAdd, Nat.reduceSub, Array.replicate_succ, Array.replicate_zero, List.push_toArray, List.append_toArray, List.nil_append, List.cons_append]
  refine exec_seq (exec_region_o fun ds => ?_)
  gi_wp2
  refine eq_mk (Keep.refl w) ?_
  show Exec _ _ _ _ _ _
  refine exec_seq (exec_region_o fun ds => ?_)
  obtain ⟨R, hR⟩ : ∃ R, inB x lo hi = R := ⟨_, rfl⟩
  simp only [hR]
  have HR := Lib.hid hR
  clear hR
  by_cases h1 : lo ≤ x
  · gi_wp2
    refine eq_mk (Keep.refl w) ?_
    refine exec_ret ⟨.inr rfl, fun W' hG => ⟨.bool R, ?_, rfl, hG.below (Nat.le_refl _) (Nat.le_refl _)⟩⟩
    have : R = decide (x ≤ hi) := by rw [← HR.out]; simp [inB, h1]
    subst this
    simp [results, Try.f70, go_sem]
  · gi_wp2
    refine eq_mk (Keep.refl w) ?_
    refine exec_ret ⟨.inr rfl, fun W' hG => ⟨.bool R, ?_, rfl, hG.below (Nat.le_refl _) (Nat.le_refl _)⟩⟩
    have : R = false := by rw [← HR.out]; unfold inB; rw [decide_eq_false (by omega), Bool.false_and]
    subst this
    simp [results, Try.f70, go_sem]
    try (intro h; omega)
def AlI72 (w : World) (A : Option Addr) (c : Nat) (l : List Int) (hi : Int) (n : Nat) (t : Array Value) (W : World) : Prop :=
  ∃ k : Nat, k ≤ l.length ∧ n = l.length - k ∧ (∀ y ∈ l.take k, inB y 0 hi = true) ∧ Below w.heap.size w W ∧ Slots (some (.slice A l.length c) :: some (vi hi) :: none :: none :: none :: some (iv k) :: none :: o4 (o4 (o4 []))) t
set_option maxRecDepth 100000 in
set_option maxHeartbeats 1000000 in
theorem all72 (A : Option Addr) (c : Nat) (l : List Int) (hl : l.length ≤ 1000000) (hi : Int) (w : World) (hA : RowV w A (l.map vi)) : Calls Try.prog 72 #[.slice A l.length c, vi hi] w fun e w' => e = .returned (.bool (l.all fun y => inB y 0 hi)) ∧ Below w.heap.size w w' := by
  have hu22 := Try.underlying22
  obtain ⟨R, hR⟩ : ∃ R, (l.all fun y => inB y 0 hi) = R := ⟨_, rfl⟩
  rw [hR]
  have HR := Lib.hid hR
  clear hR
  refine calls_of_exec Try.func72 rfl ?_
  simp only [Try.ntmps72, List.size_toArray, List.length_cons, List.length_nil, Nat.reduceAdd, Nat.reduceSub, Array.replicate_succ, Array.replicate_zero, List.push_toArray, List.append_toArray, List.nil_append, List.cons_append]
  refine exec_seq (exec_region_o fun ds => ?_)
  gi_wp2
  refine eq_mk (Keep.refl _) ?_
  show Exec _ _ (Code.seq (Code.seq _ _) _) _ _ _
  refine exec_seq (exec_seq (exec_region_o fun ds => ?_))
  gi_wp2
  refine eq_mk (Keep.refl _) ?_
  show Exec _ _ (Code.block _ _) _ _ _
  refine exec_block ?_
  refine exec_loop (AlI72 w A c l hi) l.length ⟨0, by omega, rfl, by simp, Below.refl _ _, by simp [Slots, Fits]⟩ ?_
  rintro n t W ⟨k, hk, hn, htk, hV, hSl⟩
  have HT := Lib.hid htk
  clear htk
  obtain ⟨x, hx⟩ := Slots.open_ hSl; simp only [fill, Nat.reduceAdd] at hx; subst hx; clear hSl
  show Exec _ _ (Code.seq (Code.seq _ _) _) _ _ _
  refine exec_seq (exec_seq (exec_region_o fun ds => ?_))
  gi_wp2
  refine eq_mk (Keep.refl _) ?_
  show Exec _ _ (Code.cond _ _ _) _ _ _
  refine (exec_cond (b := decide (k < l.length)) (by first | rfl | (show Value.bool _ = _; congr 1; exact decide_eq_decide.2 (by omega))) (fun hp => exec_skip ?_) (fun hp => exec_exit ?_))
  · have hkl : k < l.length := by have := of_decide_eq_true hp; omega
    show Exec _ _ (Code.seq (Code.block _ _) _) _ _ _
    obtain ⟨a1, e1, h1⟩ := row_int (hA.below hV) hkl
    obtain ⟨y1, hy1⟩ : ∃ y, l[k] = y := ⟨_, rfl⟩
    rw [hy1] at h1
    have HY : inB y1 0 hi = true → ∀ y ∈ l.take (k + 1), inB y 0 hi = true := fun e y hy => by
      rw [List.take_succ_eq_append_getElem hkl, List.mem_append, List.mem_singleton] at hy
      rcases hy with hy | hy
      · exact HT.out y hy
      · rw [hy, hy1]; exact e
    have HN : inB y1 0 hi = false → (l.all fun y => inB y 0 hi) = false := fun e => by
      rw [List.all_eq_false]
      exact ⟨y1, by rw [← hy1]; exact List.getElem_mem hkl, by simp [e]⟩
    have HY := Lib.hid HY
    have HN := Lib.hid HN
    clear hy1
    have hkI : (k : Int) < l.length := by omega
    simp only [e1]
    have E1 := Lib.hid e1
    clear e1
    refine exec_cut (fun t' Y => inB y1 0 hi = true ∧ Below w.heap.size w Y ∧ Slots (some (.slice A l.length c) :: some (vi hi) :: none :: none :: none :: some (iv k) :: none :: o4 (o4 (o4 []))) t') (exec_block ?_) ?_
    · show Exec _ _ (Code.seq _ _) _ _ _
      refine exec_seq (exec_region_o fun ds => ?_)
      gi_wp2_with fail
      refine ⟨trivial, rfl, (callsIn_wide.2 (in70 y1 0 hi W)).mono ?_⟩
      rintro e Y ⟨rfl, hy⟩
      have hBd := hV.trans (hy.mono hV.size)
      gi_wp2
      refine eq_mk (Keep.of_below hy) ?_
      show Exec _ _ (Code.cond _ _ _) _ _ _
      cases hq : inB y1 0 hi with
      | true =>
        refine exec_cond (b := false) rfl (fun h => by cases h) (fun _ => exec_skip ?_)
        exact ⟨rfl, hBd, by simp [Slots, Fits, E1.out]⟩
      | false =>
        have hf := HN.out hq
        refine exec_cond (b := true) rfl (fun _ => ?_) (fun h => by cases h)
        have hr : R = false := by rw [← HR.out]; exact hf
        subst hr
        clear hf hq
        refine exec_seq (exec_region_o fun ds => ?_)
        gi_wp2
        refine eq_mk (Keep.refl _) ?_
        show Exec _ _ _ _ _ _
        exact exec_ret ⟨.inr rfl, fun W' hG => ⟨.bool false, by simp [results, Try.f72, go_sem], rfl, hBd.trans (hG.below (Nat.le_refl _) hBd.size)⟩⟩
    · clear hV h1 x
      clear W
      rintro t' Y ⟨hy, hV, hSl⟩
      have hT2 := HY.out hy
      have HT2 := Lib.hid hT2
      clear hT2 hy
      obtain ⟨x, hx⟩ := Slots.open_ hSl; simp only [fill, Nat.reduceAdd] at hx; subst hx; clear hSl
      have hw : IntKind.i64.wrap ((k : Int) + 1) = ((k + 1 : Nat) : Int) := by rw [IntWalk.i64_in _ (by omega)]; norm_cast
      refine exec_region_o fun ds => ?_
      gi_wp2
      exact eq_mk (Keep.refl _) ⟨n - 1, by omega, k + 1, by omega, by omega, HT2.out, hV, by simp only [Slots, Fits, and_self]; simp [E1.out]⟩
  · have hkl : k = l.length := by have := of_decide_eq_false hp; omega
    have htk := HT.out
    rw [hkl, List.take_length] at htk
    have hr : R = true := by rw [← HR.out]; exact List.all_eq_true.2 htk
    subst hr
    clear htk
    show Exec _ _ (Code.seq _ _) _ _ _
    refine exec_seq (exec_region_o fun ds => ?_)
    gi_wp2
    refine eq_mk (Keep.refl _) ?_
    show Exec _ _ _ _ _ _
    exact exec_ret ⟨.inr rfl, fun W' hG => ⟨.bool true, by simp [results, Try.f72, go_sem], rfl, hV.trans (hG.below (Nat.le_refl _) hV.size)⟩⟩
end Go.Proofs.Ytbdmmikflkpmpaa
end

section
namespace Go.Proofs.Ytbdmmikflkpmpaa
open Go.RowKit Go.TL Go.Shelf Go.Pn
attribute [local go_sem] Oper.semAt_some
attribute [local go_sem] run_store_func
def PvI (w : World) (a : XP) (n : Nat) (t : Array Value) (W : World) : Prop :=
  ∃ k : Nat, k ≤ a.K.length ∧ n = a.K.length - k ∧ (∀ y ∈ a.K.take k, kinOut a.L.length a.N.length y = false) ∧ PBx W w.heap.size a ∧ Below w.heap.size w W ∧ Slots (none :: some (.pointer (some ⟨w.heap.size, 0, none⟩)) :: none :: some (iv k) :: none :: none :: none :: o4 (o4 (o16 (o16 (o16 []))))) t
theorem isP_eq (a : XP) : a.isP = (decide (a.L.length ≤ 6) && decide (a.N.length ≤ 6) && decide (a.K.length ≤ 10) && (a.L.all fun y => inB y 0 6) && (a.N.all fun y => inB y 0 3) && !a.K.any (kinOut a.L.length a.N.length)) := by
  have h : ∀ (p : Int → Bool) (l : List Int), (!l.any fun y => !p y) = l.all p := fun p l => by
    rw [List.all_eq_not_any_not]
  unfold XP.isP XP.lens
  rw [h, h]
set_option maxRecDepth 100000 in
set_option maxHeartbeats 2000000 in
theorem panels22 (a : XP) (w : World) (ha : a.At w) : Calls Try.prog 22 #[a.val] w fun e w' => e = .returned (.bool a.isP) ∧ Below w.heap.size w w' := by
  have hu25 := Try.underlying25
  have hu22 := Try.underlying22
  have hu23 := Try.underlying23
  have hu50 := Try.underlying50
  have h4 := ha.l4
  have h5 := ha.n4
  have h6 := ha.k4
  obtain ⟨R, hR⟩ : ∃ R, a.isP = R := ⟨_, rfl⟩
  rw [hR]
  rw [isP_eq] at hR
  have HR := Lib.hid hR
  clear hR
  refine calls_of_exec Try.func22 rfl ?_
  simp only [Try.ntmps22, List.size_toArray, List.length_cons, List.length_nil, Nat.reduceAdd, Nat.reduceSub, Array.replicate_succ, Array.replicate_zero, List.push_toArray, List.append_toArray, List.nil_append, List.cons_append]
  simp only [XP.val]
  refine exec_seq (exec_region_o fun ds => ?_)
  gi_wp2
  refine eq_mk ((Keep.refl _).alloc _) ?_
  show Exec _ _ (Code.seq (Code.seq _ _) _) _ (w.alloc (.cells #[a.sL, a.sN, a.sK] 25)) _
  have hB := (Below.refl w.heap.size w).alloc (Nat.le_refl _) (.cells #[a.sL, a.sN, a.sK] 25)
  have hX : PBx (w.alloc (.cells #[a.sL, a.sN, a.sK] 25)) w.heap.size a := ⟨World.alloc_heap_new _ _, ha.below hB⟩
  generalize w.alloc (.cells #[a.sL, a.sN, a.sK] 25) = X at *
  refine exec_seq (exec_seq (exec_region_o fun ds => ?_))
  gi_wp2
  refine eq_mk (Keep.refl _) ?_
  show Exec _ _ (Code.block _ _) _ _ _
  refine exec_block ?_
  refine exec_loop (PvI w a) a.K.length ⟨0, by omega, rfl, by simp, hX, hB, by simp [Slots, Fits]⟩ ?_
  clear hX hB
  clear X
  rintro n t W ⟨k, hk, hn, htk, hX, hV, hSl⟩
  have HT := Lib.hid htk
  have HN := Lib.hid hn
  clear htk hn
  have hh := hX.heap
  simp only [XP.sL, XP.sN, XP.sK] at hh
  have c0 : ∀ Y, Below W.heap.size W Y → Y.cell? ⟨w.heap.size, 0, none⟩ = some (.slice a.AL a.L.length a.cL) := fun Y hY => cells_get (cs := [_, _, _]) (k := 0) ((hX.keep hY).heap) rfl
  have c1 : ∀ Y, Below W.heap.size W Y → Y.cell? ⟨w.heap.size, 1, none⟩ = some (.slice a.AN a.N.length a.cN) := fun Y hY => cells_get (cs := [_, _, _]) (k := 1) ((hX.keep hY).heap) rfl
  have c2 : ∀ Y, Below W.heap.size W Y → Y.cell? ⟨w.heap.size, 2, none⟩ = some (.slice a.AK a.K.length a.cK) := fun Y hY => cells_get (cs := [_, _, _]) (k := 2) ((hX.keep hY).heap) rfl
  clear hh
  have e2 := c2 W (Below.refl _ _)
  obtain ⟨x, hx⟩ := Slots.open_ hSl; simp only [fill, Nat.reduceAdd] at hx; subst hx; clear hSl
  show Exec _ _ (Code.seq (Code.seq _ _) _) _ _ _
  refine exec_seq (exec_seq (exec_region_o fun ds => ?_))
  gi_wp2
  refine eq_mk (Keep.refl _) ?_
  show Exec _ _ (Code.cond _ _ _) _ _ _
  refine (exec_cond (b := decide (k < a.K.length)) (by first | rfl | (show Value.bool _ = _; congr 1; exact decide_eq_decide.2 (by omega))) (fun hp => exec_skip ?_) (fun hp => exec_exit ?_))
  · have hkl : k < a.K.length := by have := of_decide_eq_true hp; omega
    clear e2
    show Exec _ _ (Code.seq (Code.block _ _) _) _ _ _
    obtain ⟨y, hy⟩ : ∃ y, a.K[k]? = some y := ⟨_, List.getElem?_eq_getElem hkl⟩
    obtain ⟨ad, hA, hc1, hc2⟩ := hX.at_.k k y hy
    have hym := List.mem_of_getElem? hy
    have HY : kinOut a.L.length a.N.length y = false → ∀ z ∈ a.K.take (k + 1), kinOut a.L.length a.N.length z = false := fun e z hz => by
      rw [List.take_add_one, hy] at hz
      rcases List.mem_append.1 hz with hz | hz
      · exact HT.out z hz
      · simp at hz
        rw [hz]; exact e
    have HF : kinOut a.L.length a.N.length y = true → R = false := fun e => by
      rw [← HR.out]
      have : a.K.any (kinOut a.L.length a.N.length) = true := List.any_eq_true.2 ⟨y, hym, e⟩
      rw [this]
      simp
    have HY := Lib.hid HY
    have HF := Lib.hid HF
    clear hy hym
    obtain ⟨y1, y2⟩ := y
    simp only at hc1 hc2
    have hkI : (k : Int) < a.K.length := by omega
    have hw1 : IntKind.i64.wrap ((a.L.length : Int) - 1) = (a.L.length : Int) - 1 := IntWalk.i64_in _ (by omega)
    have hw2 : IntKind.i64.wrap ((a.N.length : Int) - 1) = (a.N.length : Int) - 1 := IntWalk.i64_in _ (by omega)
    rw [hA] at c2
    have hS0 : ∀ {Y : World}, Below W.heap.size W Y → Y.cell? (ad.add (k * 2)) = some (vi y1) ∧ Y.cell? ⟨(ad.add (k * 2)).block, (ad.add (k * 2)).off + 1, none⟩ = some (vi y2) := fun hY => ⟨(Grow.of_below (B := 0) hY).cell hc1, (Grow.of_below (B := 0) hY).cell hc2⟩
    refine exec_cut (fun t' Y => kinOut a.L.length a.N.length (y1, y2) = false ∧ PBx Y w.heap.size a ∧ Below w.heap.size w Y ∧ Slots (none :: some (.pointer (some ⟨w.heap.size, 0, none⟩)) :: none :: some (iv k) :: none :: none :: none :: o4 (o4 (o16 (o16 (o16 []))))) t') (exec_block ?_) ?_
    · have hd : Below W.heap.size W W.drew := (Below.refl _ W).drew
      show Exec _ _ (Code.seq _ _) _ _ _
      refine exec_seq (region_of_tail 26 (by kernel_rfl) (by kernel_rfl) (by kernel_rfl) (fun Y => Below W.heap.size W Y) (fun _ _ _ => False) (fun _ _ _ h => h.elim) fun ds => ?_)
      have hS := hd
      refine held_take 0 (.pointer (some ⟨w.heap.size, 2, none⟩)) rfl (by kernel_rfl) (by kernel_rfl) (by kernel_rfl) (by intro _ _ _ h; first | exact h | (simpa [behind, Act.put] using h)) rfl (by first | exact hS | assumption) (fun wq hq => ?_) ?_; (focus (simp [go_sem, hu25]; done)); simp only [Act.put, Array.getInternal_eq_getElem, List.take_succ_cons, List.take_zero, List.take_nil, List.getElem_toArray, List.getElem_cons_succ, List.getElem_cons_zero, List.setIfInBounds_toArray, List.set_cons_succ, List.set_cons_zero]
      refine held_take 1 (.slice (some ad) a.K.length a.cK) rfl (by kernel_rfl) (by kernel_rfl) (by kernel_rfl) (by intro _ _ _ h; first | exact h | (simpa [behind, Act.put] using h)) rfl (by first | exact hS | assumption) (fun wq hq => ?_) ?_; (focus (simp [go_sem, c2 wq hq]; done)); simp only [Act.put, Array.getInternal_eq_getElem, List.take_succ_cons, List.take_zero, List.take_nil, List.getElem_toArray, List.getElem_cons_succ, List.getElem_cons_zero, List.setIfInBounds_toArray, List.set_cons_succ, List.set_cons_zero]
      refine held_take 2 (iv k) rfl (by kernel_rfl) (by kernel_rfl) (by kernel_rfl) (by intro _ _ _ h; first | exact h | (simpa [behind, Act.put] using h)) rfl (by first | exact hS | assumption) (fun wq hq => ?_) ?_; (focus (first | rfl | (simp [go_sem]; done))); simp only [Act.put, Array.getInternal_eq_getElem, List.take_succ_cons, List.take_zero, List.take_nil, List.getElem_toArray, List.getElem_cons_succ, List.getElem_cons_zero, List.setIfInBounds_toArray, List.set_cons_succ, List.set_cons_zero]
      refine held_take 3 (.pointer (some (ad.add (k * 2)))) rfl (by kernel_rfl) (by kernel_rfl) (by kernel_rfl) (by intro _ _ _ h; first | exact h | (simpa [behind, Act.put] using h)) rfl (by first | exact hS | assumption) (fun wq hq => ?_) ?_; (focus (simp [go_sem, hu23, hkI]; done)); simp only [Act.put, Array.getInternal_eq_getElem, List.take_succ_cons, List.take_zero, List.take_nil, List.getElem_toArray, List.getElem_cons_succ, List.getElem_cons_zero, List.setIfInBounds_toArray, List.set_cons_succ, List.set_cons_zero]
      refine held_take 4 (.pointer (some (ad.add (k * 2)))) rfl (by kernel_rfl) (by kernel_rfl) (by kernel_rfl) (by intro _ _ _ h; first | exact h | (simpa [behind, Act.put] using h)) rfl (by first | exact hS | assumption) (fun wq hq => ?_) ?_; (focus (simp [go_sem, hu50]; done)); simp only [Act.put, Array.getInternal_eq_getElem, List.take_succ_cons, List.take_zero, List.take_nil, List.getElem_toArray, List.getElem_cons_succ, List.getElem_cons_zero, List.setIfInBounds_toArray, List.set_cons_succ, List.set_cons_zero]
      refine held_take 5 (vi y1) rfl (by kernel_rfl) (by kernel_rfl) (by kernel_rfl) (by intro _ _ _ h; first | exact h | (simpa [behind, Act.put] using h)) rfl (by first | exact hS | assumption) (fun wq hq => ?_) ?_; (focus (simp [go_sem, (hS0 hq).1]; done)); simp only [Act.put, Array.getInternal_eq_getElem, List.take_succ_cons, List.take_zero, List.take_nil, List.getElem_toArray, List.getElem_cons_succ, List.getElem_cons_zero, List.setIfInBounds_toArray, List.set_cons_succ, List.set_cons_zero]
      refine held_take 6 (.pointer (some ⟨w.heap.size, 0, none⟩)) rfl (by kernel_rfl) (by kernel_rfl) (by kernel_rfl) (by intro _ _ _ h; first | exact h | (simpa [behind, Act.put] using h)) rfl (by first | exact hS | assumption) (fun wq hq => ?_) ?_; (focus (simp [go_sem, hu25]; done)); simp only [Act.put, Array.getInternal_eq_getElem, List.take_succ_cons, List.take_zero, List.take_nil, List.getElem_toArray, List.getElem_cons_succ, List.getElem_cons_zero, List.setIfInBounds_toArray, List.set_cons_succ, List.set_cons_zero]
      refine held_take 7 (.slice a.AL a.L.length a.cL) rfl (by kernel_rfl) (by kernel_rfl) (by kernel_rfl) (by intro _ _ _ h; first | exact h | (simpa [behind, Act.put] using h)) rfl (by first | exact hS | assumption) (fun wq hq => ?_) ?_; (focus (simp [go_sem, c0 wq hq]; done)); simp only [Act.put, Array.getInternal_eq_getElem, List.take_succ_cons, List.take_zero, List.take_nil, List.getElem_toArray, List.getElem_cons_succ, List.getElem_cons_zero, List.setIfInBounds_toArray, List.set_cons_succ, List.set_cons_zero]
      refine held_take 8 (iv a.L.length) rfl (by kernel_rfl) (by kernel_rfl) (by kernel_rfl) (by intro _ _ _ h; first | exact h | (simpa [behind, Act.put] using h)) rfl (by first | exact hS | assumption) (fun wq hq => ?_) ?_; (focus (simp [go_sem]; done)); simp only [Act.put, Array.getInternal_eq_getElem, List.take_succ_cons, List.take_zero, List.take_nil, List.getElem_toArray, List.getElem_cons_succ, List.getElem_cons_zero, List.setIfInBounds_toArray, List.set_cons_succ, List.set_cons_zero]
      refine held_take 9 (vi ((a.L.length : Int) - 1)) rfl (by kernel_rfl) (by kernel_rfl) (by kernel_rfl) (by intro _ _ _ h; first | exact h | (simpa [behind, Act.put] using h)) rfl (by first | exact hS | assumption) (fun wq hq => ?_) ?_; (focus (simp [go_sem, hw1]; done)); simp only [Act.put, Array.getInternal_eq_getElem, List.take_succ_cons, List.take_zero, List.take_nil, List.getElem_toArray, List.getElem_cons_succ, List.getElem_cons_zero, List.setIfInBounds_toArray, List.set_cons_succ, List.set_cons_zero]
      refine held_call 10 (f := 70) (args := #[vi y1, vi 0, vi ((a.L.length : Int) - 1)]) rfl (by kernel_rfl) rfl (by simp [go_sem]) ?_
      refine (in70 y1 0 ((a.L.length : Int) - 1) W.drew).mono ?_
      rintro e X1 ⟨rfl, hx1⟩
      have k1 : Below W.heap.size W X1 := hS.trans hx1
      refine .inl ⟨_, rfl, k1, ?_⟩
      simp only [Act.put, Array.getInternal_eq_getElem, List.take_succ_cons, List.take_zero, List.take_nil, List.getElem_toArray, List.getElem_cons_succ, List.getElem_cons_zero, List.setIfInBounds_toArray, List.set_cons_succ, List.set_cons_zero]
      have hko : kinOut a.L.length a.N.length (y1, y2) = (!inB y1 0 ((a.L.length : Int) - 1) || !inB y2 0 ((a.N.length : Int) - 1)) := rfl
      have HKO := Lib.hid hko
      clear hko
      generalize inB y1 0 ((a.L.length : Int) - 1) = q1 at *
      have hX1 := hX.keep k1
      have hB1 := hV.trans (k1.mono hV.size)
      clear hS
      cases q1 with
      | false =>
        refine held_take 11 (.bool true) rfl (by kernel_rfl) (by kernel_rfl) (by kernel_rfl) (by intro _ _ _ h; first | exact h | (simpa [behind, Act.put] using h)) rfl (by first | exact hS | assumption) (fun wq hq => ?_) ?_; (focus (simp [go_sem]; done)); simp only [Act.put, Array.getInternal_eq_getElem, List.take_succ_cons, List.take_zero, List.take_nil, List.getElem_toArray, List.getElem_cons_succ, List.getElem_cons_zero, List.setIfInBounds_toArray, List.set_cons_succ, List.set_cons_zero]
        refine held_take 12 (.bool true) rfl (by kernel_rfl) (by kernel_rfl) (by kernel_rfl) (by intro _ _ _ h; first | exact h | (simpa [behind, Act.put] using h)) rfl (by first | exact hS | assumption) (fun wq hq => ?_) ?_; (focus (simp [go_sem]; done)); simp only [Act.put, Array.getInternal_eq_getElem, List.take_succ_cons, List.take_zero, List.take_nil, List.getElem_toArray, List.getElem_cons_succ, List.getElem_cons_zero, List.setIfInBounds_toArray, List.set_cons_succ, List.set_cons_zero]
        refine held_pass 13 rfl (by kernel_rfl) (by kernel_rfl) (by kernel_rfl) (by intro _ _ _ h; exact h) (by kernel_rfl) (by first | exact hS | assumption) ?_; simp only [Act.put, Array.getInternal_eq_getElem, List.take_succ_cons, List.take_zero, List.take_nil, List.getElem_toArray, List.getElem_cons_succ, List.getElem_cons_zero, List.setIfInBounds_toArray, List.set_cons_succ, List.set_cons_zero]
        refine held_pass 14 rfl (by kernel_rfl) (by kernel_rfl) (by kernel_rfl) (by intro _ _ _ h; exact h) (by kernel_rfl) (by first | exact hS | assumption) ?_; simp only [Act.put, Array.getInternal_eq_getElem, List.take_succ_cons, List.take_zero, List.take_nil, List.getElem_toArray, List.getElem_cons_succ, List.getElem_cons_zero, List.setIfInBounds_toArray, List.set_cons_succ, List.set_cons_zero]
        refine held_pass 15 rfl (by kernel_rfl) (by kernel_rfl) (by kernel_rfl) (by intro _ _ _ h; exact h) (by kernel_rfl) (by first | exact hS | assumption) ?_; simp only [Act.put, Array.getInternal_eq_getElem, List.take_succ_cons, List.take_zero, List.take_nil, List.getElem_toArray, List.getElem_cons_succ, List.getElem_cons_zero, List.setIfInBounds_toArray, List.set_cons_succ, List.set_cons_zero]
        refine held_pass 16 rfl (by kernel_rfl) (by kernel_rfl) (by kernel_rfl) (by intro _ _ _ h; exact h) (by kernel_rfl) (by first | exact hS | assumption) ?_; simp only [Act.put, Array.getInternal_eq_getElem, List.take_succ_cons, List.take_zero, List.take_nil, List.getElem_toArray, List.getElem_cons_succ, List.getElem_cons_zero, List.setIfInBounds_toArray, List.set_cons_succ, List.set_cons_zero]
        refine held_pass 17 rfl (by kernel_rfl) (by kernel_rfl) (by kernel_rfl) (by intro _ _ _ h; exact h) (by kernel_rfl) (by first | exact hS | assumption) ?_; simp only [Act.put, Array.getInternal_eq_getElem, List.take_succ_cons, List.take_zero, List.take_nil, List.getElem_toArray, List.getElem_cons_succ, List.getElem_cons_zero, List.setIfInBounds_toArray, List.set_cons_succ, List.set_cons_zero]
        refine held_pass 18 rfl (by kernel_rfl) (by kernel_rfl) (by kernel_rfl) (by intro _ _ _ h; exact h) (by kernel_rfl) (by first | exact hS | assumption) ?_; simp only [Act.put, Array.getInternal_eq_getElem, List.take_succ_cons, List.take_zero, List.take_nil, List.getElem_toArray, List.getElem_cons_succ, List.getElem_cons_zero, List.setIfInBounds_toArray, List.set_cons_succ, List.set_cons_zero]
        refine held_pass 19 rfl (by kernel_rfl) (by kernel_rfl) (by kernel_rfl) (by intro _ _ _ h; exact h) (by kernel_rfl) (by first | exact hS | assumption) ?_; simp only [Act.put, Array.getInternal_eq_getElem, List.take_succ_cons, List.take_zero, List.take_nil, List.getElem_toArray, List.getElem_cons_succ, List.getElem_cons_zero, List.setIfInBounds_toArray, List.set_cons_succ, List.set_cons_zero]
        refine held_pass 20 rfl (by kernel_rfl) (by kernel_rfl) (by kernel_rfl) (by intro _ _ _ h; exact h) (by kernel_rfl) (by first | exact hS | assumption) ?_; simp only [Act.put, Array.getInternal_eq_getElem, List.take_succ_cons, List.take_zero, List.take_nil, List.getElem_toArray, List.getElem_cons_succ, List.getElem_cons_zero, List.setIfInBounds_toArray, List.set_cons_succ, List.set_cons_zero]
        refine held_pass 21 rfl (by kernel_rfl) (by kernel_rfl) (by kernel_rfl) (by intro _ _ _ h; exact h) (by kernel_rfl) (by first | exact hS | assumption) ?_; simp only [Act.put, Array.getInternal_eq_getElem, List.take_succ_cons, List.take_zero, List.take_nil, List.getElem_toArray, List.getElem_cons_succ, List.getElem_cons_zero, List.setIfInBounds_toArray, List.set_cons_succ, List.set_cons_zero]
        refine held_pass 22 rfl (by kernel_rfl) (by kernel_rfl) (by kernel_rfl) (by intro _ _ _ h; exact h) (by kernel_rfl) (by first | exact hS | assumption) ?_; simp only [Act.put, Array.getInternal_eq_getElem, List.take_succ_cons, List.take_zero, List.take_nil, List.getElem_toArray, List.getElem_cons_succ, List.getElem_cons_zero, List.setIfInBounds_toArray, List.set_cons_succ, List.set_cons_zero]
        refine held_pass 23 rfl (by kernel_rfl) (by kernel_rfl) (by kernel_rfl) (by intro _ _ _ h; exact h) (by kernel_rfl) (by first | exact hS | assumption) ?_; simp only [Act.put, Array.getInternal_eq_getElem, List.take_succ_cons, List.take_zero, List.take_nil, List.getElem_toArray, List.getElem_cons_succ, List.getElem_cons_zero, List.setIfInBounds_toArray, List.set_cons_succ, List.set_cons_zero]
        refine held_pass 24 rfl (by kernel_rfl) (by kernel_rfl) (by kernel_rfl) (by intro _ _ _ h; exact h) (by kernel_rfl) (by first | exact hS | assumption) ?_; simp only [Act.put, Array.getInternal_eq_getElem, List.take_succ_cons, List.take_zero, List.take_nil, List.getElem_toArray, List.getElem_cons_succ, List.getElem_cons_zero, List.setIfInBounds_toArray, List.set_cons_succ, List.set_cons_zero]
        refine held_take 25 (.bool true) rfl (by kernel_rfl) (by kernel_rfl) (by kernel_rfl) (by intro _ _ _ h; first | exact h | (simpa [behind, Act.put] using h)) rfl (by first | exact hS | assumption) (fun wq hq => ?_) ?_; (focus (simp [go_sem]; done)); simp only [Act.put, Array.getInternal_eq_getElem, List.take_succ_cons, List.take_zero, List.take_nil, List.getElem_toArray, List.getElem_cons_succ, List.getElem_cons_zero, List.setIfInBounds_toArray, List.set_cons_succ, List.set_cons_zero]
        refine held_done (by kernel_rfl) ?_
        refine any_done (by kernel_rfl) ⟨rfl, Keep.of_below k1, ?_⟩
        show Exec _ _ (Code.cond _ _ _) _ _ _
        refine exec_cond (b := true) rfl (fun _ => ?_) (fun h => by cases h)
        have hr : R = false := HF.out (by rw [HKO.out]; rfl)
        subst hr
        refine exec_seq (exec_region_o fun ds => ?_)
        gi_wp2
        refine eq_mk (Keep.refl _) ?_
        show Exec _ _ _ _ _ _
        exact exec_ret ⟨.inr rfl, fun W' hG => ⟨.bool false, by simp [results, Try.f22, go_sem], rfl, hB1.trans (hG.below (Nat.le_refl _) hB1.size)⟩⟩
      | true =>
        refine held_take 11 (.bool false) rfl (by kernel_rfl) (by kernel_rfl) (by kernel_rfl) (by intro _ _ _ h; first | exact h | (simpa [behind, Act.put] using h)) rfl (by first | exact hS | assumption) (fun wq hq => ?_) ?_; (focus (simp [go_sem]; done)); simp only [Act.put, Array.getInternal_eq_getElem, List.take_succ_cons, List.take_zero, List.take_nil, List.getElem_toArray, List.getElem_cons_succ, List.getElem_cons_zero, List.setIfInBounds_toArray, List.set_cons_succ, List.set_cons_zero]
        refine held_take 12 (.bool false) rfl (by kernel_rfl) (by kernel_rfl) (by kernel_rfl) (by intro _ _ _ h; first | exact h | (simpa [behind, Act.put] using h)) rfl (by first | exact hS | assumption) (fun wq hq => ?_) ?_; (focus (simp [go_sem]; done)); simp only [Act.put, Array.getInternal_eq_getElem, List.take_succ_cons, List.take_zero, List.take_nil, List.getElem_toArray, List.getElem_cons_succ, List.getElem_cons_zero, List.setIfInBounds_toArray, List.set_cons_succ, List.set_cons_zero]
        refine held_take 13 (.pointer (some ⟨w.heap.size, 2, none⟩)) rfl (by kernel_rfl) (by kernel_rfl) (by kernel_rfl) (by intro _ _ _ h; exact h) (by kernel_rfl) (by first | exact hS | assumption) (fun wq hq => ?_) ?_; (focus (simp [go_sem, hu25]; done)); simp only [Act.put, Array.getInternal_eq_getElem, List.take_succ_cons, List.take_zero, List.take_nil, List.getElem_toArray, List.getElem_cons_succ, List.getElem_cons_zero, List.setIfInBounds_toArray, List.set_cons_succ, List.set_cons_zero]
        refine held_take 14 (.slice (some ad) a.K.length a.cK) rfl (by kernel_rfl) (by kernel_rfl) (by kernel_rfl) (by intro _ _ _ h; exact h) (by kernel_rfl) (by first | exact hS | assumption) (fun wq hq => ?_) ?_; (focus (simp [go_sem, c2 wq hq]; done)); simp only [Act.put, Array.getInternal_eq_getElem, List.take_succ_cons, List.take_zero, List.take_nil, List.getElem_toArray, List.getElem_cons_succ, List.getElem_cons_zero, List.setIfInBounds_toArray, List.set_cons_succ, List.set_cons_zero]
        refine held_take 15 (iv k) rfl (by kernel_rfl) (by kernel_rfl) (by kernel_rfl) (by intro _ _ _ h; exact h) (by kernel_rfl) (by first | exact hS | assumption) (fun wq hq => ?_) ?_; (focus (simp [go_sem]; done)); simp only [Act.put, Array.getInternal_eq_getElem, List.take_succ_cons, List.take_zero, List.take_nil, List.getElem_toArray, List.getElem_cons_succ, List.getElem_cons_zero, List.setIfInBounds_toArray, List.set_cons_succ, List.set_cons_zero]
        refine held_take 16 (.pointer (some (ad.add (k * 2)))) rfl (by kernel_rfl) (by kernel_rfl) (by kernel_rfl) (by intro _ _ _ h; exact h) (by kernel_rfl) (by first | exact hS | assumption) (fun wq hq => ?_) ?_; (focus (simp [go_sem, hu23, hkI]; done)); simp only [Act.put, Array.getInternal_eq_getElem, List.take_succ_cons, List.take_zero, List.take_nil, List.getElem_toArray, List.getElem_cons_succ, List.getElem_cons_zero, List.setIfInBounds_toArray, List.set_cons_succ, List.set_cons_zero]
        refine held_take 17 (.pointer (some ⟨(ad.add (k * 2)).block, (ad.add (k * 2)).off + 1, none⟩)) rfl (by kernel_rfl) (by kernel_rfl) (by kernel_rfl) (by intro _ _ _ h; exact h) (by kernel_rfl) (by first | exact hS | assumption) (fun wq hq => ?_) ?_; (focus (simp [go_sem, hu50]; done)); simp only [Act.put, Array.getInternal_eq_getElem, List.take_succ_cons, List.take_zero, List.take_nil, List.getElem_toArray, List.getElem_cons_succ, List.getElem_cons_zero, List.setIfInBounds_toArray, List.set_cons_succ, List.set_cons_zero]
        refine held_take 18 (vi y2) rfl (by kernel_rfl) (by kernel_rfl) (by kernel_rfl) (by intro _ _ _ h; exact h) (by kernel_rfl) (by first | exact hS | assumption) (fun wq hq => ?_) ?_; (focus (simp [go_sem, (hS0 hq).2]; done)); simp only [Act.put, Array.getInternal_eq_getElem, List.take_succ_cons, List.take_zero, List.take_nil, List.getElem_toArray, List.getElem_cons_succ, List.getElem_cons_zero, List.setIfInBounds_toArray, List.set_cons_succ, List.set_cons_zero]
        refine held_take 19 (.pointer (some ⟨w.heap.size, 1, none⟩)) rfl (by kernel_rfl) (by kernel_rfl) (by kernel_rfl) (by intro _ _ _ h; exact h) (by kernel_rfl) (by first | exact hS | assumption) (fun wq hq => ?_) ?_; (focus (simp [go_sem, hu25]; done)); simp only [Act.put, Array.getInternal_eq_getElem, List.take_succ_cons, List.take_zero, List.take_nil, List.getElem_toArray, List.getElem_cons_succ, List.getElem_cons_zero, List.setIfInBounds_toArray, List.set_cons_succ, List.set_cons_zero]
        refine held_take 20 (.slice a.AN a.N.length a.cN) rfl (by kernel_rfl) (by kernel_rfl) (by kernel_rfl) (by intro _ _ _ h; exact h) (by kernel_rfl) (by first | exact hS | assumption) (fun wq hq => ?_) ?_; (focus (simp [go_sem, c1 wq hq]; done)); simp only [Act.put, Array.getInternal_eq_getElem, List.take_succ_cons, List.take_zero, List.take_nil, List.getElem_toArray, List.getElem_cons_succ, List.getElem_cons_zero, List.setIfInBounds_toArray, List.set_cons_succ, List.set_cons_zero]
        refine held_take 21 (iv a.N.length) rfl (by kernel_rfl) (by kernel_rfl) (by kernel_rfl) (by intro _ _ _ h; exact h) (by kernel_rfl) (by first | exact hS | assumption) (fun wq hq => ?_) ?_; (focus (simp [go_sem]; done)); simp only [Act.put, Array.getInternal_eq_getElem, List.take_succ_cons, List.take_zero, List.take_nil, List.getElem_toArray, List.getElem_cons_succ, List.getElem_cons_zero, List.setIfInBounds_toArray, List.set_cons_succ, List.set_cons_zero]
        refine held_take 22 (vi ((a.N.length : Int) - 1)) rfl (by kernel_rfl) (by kernel_rfl) (by kernel_rfl) (by intro _ _ _ h; exact h) (by kernel_rfl) (by first | exact hS | assumption) (fun wq hq => ?_) ?_; (focus (simp [go_sem, hw2]; done)); simp only [Act.put, Array.getInternal_eq_getElem, List.take_succ_cons, List.take_zero, List.take_nil, List.getElem_toArray, List.getElem_cons_succ, List.getElem_cons_zero, List.setIfInBounds_toArray, List.set_cons_succ, List.set_cons_zero]
        refine held_call 23 (f := 70) (args := #[vi y2, vi 0, vi ((a.N.length : Int) - 1)]) rfl (by kernel_rfl) (by kernel_rfl) (by simp [go_sem]) ?_
        refine (in70 y2 0 ((a.N.length : Int) - 1) X1).mono ?_
        rintro e X2 ⟨rfl, hx2⟩
        have k2 : Below W.heap.size W X2 := k1.trans (hx2.mono k1.size)
        refine .inl ⟨_, rfl, k2, ?_⟩
        simp only [Act.put, Array.getInternal_eq_getElem, List.take_succ_cons, List.take_zero, List.take_nil, List.getElem_toArray, List.getElem_cons_succ, List.getElem_cons_zero, List.setIfInBounds_toArray, List.set_cons_succ, List.set_cons_zero]
        generalize inB y2 0 ((a.N.length : Int) - 1) = q2 at *
        refine held_take 24 (.bool (!q2)) rfl (by kernel_rfl) (by kernel_rfl) (by kernel_rfl) (by intro _ _ _ h; exact h) (by kernel_rfl) (by first | exact hS | assumption) (fun wq hq => ?_) ?_; (focus (simp [go_sem]; done)); simp only [Act.put, Array.getInternal_eq_getElem, List.take_succ_cons, List.take_zero, List.take_nil, List.getElem_toArray, List.getElem_cons_succ, List.getElem_cons_zero, List.setIfInBounds_toArray, List.set_cons_succ, List.set_cons_zero]
        refine held_take 25 (.bool (!q2)) rfl (by kernel_rfl) (by kernel_rfl) (by kernel_rfl) (by intro _ _ _ h; exact h) (by kernel_rfl) (by first | exact hS | assumption) (fun wq hq => ?_) ?_; (focus (simp [go_sem]; done)); simp only [Act.put, Array.getInternal_eq_getElem, List.take_succ_cons, List.take_zero, List.take_nil, List.getElem_toArray, List.getElem_cons_succ, List.getElem_cons_zero, List.setIfInBounds_toArray, List.set_cons_succ, List.set_cons_zero]
        refine held_done (by kernel_rfl) ?_
        refine any_done (by kernel_rfl) ⟨rfl, Keep.of_below k2, ?_⟩
        show Exec _ _ (Code.cond _ _ _) _ _ _
        have hB2 := hV.trans (k2.mono hV.size)
        cases q2 with
        | true =>
          refine exec_cond (b := false) rfl (fun h => by cases h) (fun _ => exec_skip ?_)
          exact ⟨by rw [HKO.out]; rfl, hX.keep k2, hB2, by simp [Slots, Fits]⟩
        | false =>
          refine exec_cond (b := true) rfl (fun _ => ?_) (fun h => by cases h)
          have hr : R = false := HF.out (by rw [HKO.out]; rfl)
          subst hr
          refine exec_seq (exec_region_o fun ds => ?_)
          gi_wp2
          refine eq_mk (Keep.refl _) ?_
          show Exec _ _ _ _ _ _
          exact exec_ret ⟨.inr rfl, fun W' hG => ⟨.bool false, by simp [results, Try.f22, go_sem], rfl, hB2.trans (hG.below (Nat.le_refl _) hB2.size)⟩⟩
    · clear hV hX hc1 hc2 c0 c1 c2 hS0 x
      clear W
      rintro t' Y ⟨hy, hX, hV, hSl⟩
      have hT2 := HY.out hy
      have HT2 := Lib.hid hT2
      clear hT2 hy
      obtain ⟨x, hx⟩ := Slots.open_ hSl; simp only [fill, Nat.reduceAdd] at hx; subst hx; clear hSl
      have hw : IntKind.i64.wrap ((k : Int) + 1) = ((k + 1 : Nat) : Int) := by rw [IntWalk.i64_in _ (by omega)]; norm_cast
      refine exec_region_o fun ds => ?_
      gi_wp2
      exact eq_mk (Keep.refl _) ⟨n - 1, by rw [HN.out]; omega, k + 1, by omega, by rw [HN.out]; omega, HT2.out, hX, hV, by simp only [Slots, Fits, and_self]; simp⟩
  · have hkl : k = a.K.length := by have := of_decide_eq_false hp; omega
    have htk := HT.out
    rw [hkl, List.take_length] at htk
    have hka : a.K.any (kinOut a.L.length a.N.length) = false := List.any_eq_false.2 fun y hy => by simp [htk y hy]
    have hR := HR.out
    rw [hka, Bool.not_false, Bool.and_true] at hR
    have HR2 := Lib.hid hR
    clear hR hka htk
    have e0 := c0 W (Below.refl _ _)
    have e1 := c1 W (Below.refl _ _)
    show Exec _ _ (Code.seq _ _) _ _ _
    have hl1 : (a.L.length ≤ 6) ∨ ¬ a.L.length ≤ 6 := Classical.em _
    have hn1 : (a.N.length ≤ 6) ∨ ¬ a.N.length ≤ 6 := Classical.em _
    have hk1 : (a.K.length ≤ 10) ∨ ¬ a.K.length ≤ 10 := Classical.em _
    refine exec_seq (exec_region_o fun ds => ?_)
    have hno : ¬ (a.L.length ≤ 6 ∧ a.N.length ≤ 6 ∧ a.K.length ≤ 10) → R = false := fun c => by
      rw [← HR2.out]
      by_cases x1 : a.L.length ≤ 6 <;> by_cases x2 : a.N.length ≤ 6 <;> by_cases x3 : a.K.length ≤ 10 <;> first | (simp [x1, x2, x3]; done) | exact absurd ⟨x1, x2, x3⟩ c
    have hyes : a.L.length ≤ 6 → a.N.length ≤ 6 → a.K.length ≤ 10 → R = ((a.L.all fun y => inB y 0 6) && (a.N.all fun y => inB y 0 3)) := fun x1 x2 x3 => by
      rw [← HR2.out]
      simp [x1, x2, x3]
    have HNo := Lib.hid hno
    have HYes := Lib.hid hyes
    clear hno hyes
    rcases hl1 with hl1 | hl1
    · rcases hn1 with hn1 | hn1
      · rcases hk1 with hk1 | hk1
        · have hr := HYes.out hl1 hn1 hk1
          have HRR := Lib.hid hr
          clear hr HYes HNo
          gi_wp2_with fail
          refine ⟨trivial, rfl, (callsIn_wide.2 (all72 a.AL a.cL a.L (by omega) 6 W hX.at_.l)).mono ?_⟩
          rintro e X1 ⟨rfl, hx1⟩
          have hX1 := hX.keep hx1
          have hB1 := hV.trans (hx1.mono hV.size)
          have e1 := c1 X1 hx1
          have hK1 := Keep.of_below hx1
          generalize (a.L.all fun y => inB y 0 6) = q1 at *
          cases q1 with
          | false =>
            have hr : R = false := HRR.out
            subst hr
            gi_wp2
            first | refine ⟨trivial, ?_⟩ | skip
            rename_i hK
            refine hK _ _ ?_
            gi_wp2
            refine eq_mk hK1 ?_
            show Exec _ _ _ _ _ _
            exact exec_ret ⟨.inr rfl, fun W' hG => ⟨.bool false, by simp [results, Try.f22, go_sem], rfl, hB1.trans (hG.below (Nat.le_refl _) hB1.size)⟩⟩
          | true =>
            have hr : R = (a.N.all fun y => inB y 0 3) := HRR.out
            subst hr
            gi_wp2_with fail
            refine ⟨trivial, rfl, (callsIn_wide.2 (all72 a.AN a.cN a.N (by omega) 3 X1 hX1.at_.n)).mono ?_⟩
            rintro e X2 ⟨rfl, hx2⟩
            have hB2 := hB1.trans (hx2.mono hB1.size)
            have hK2 := hK1.trans (Keep.of_below hx2)
            gi_wp2
            refine eq_mk hK2 ?_
            show Exec _ _ _ _ _ _
            exact exec_ret ⟨.inr rfl, fun W' hG => ⟨.bool (a.N.all fun y => inB y 0 3), by simp [results, Try.f22, go_sem], rfl, hB2.trans (hG.below (Nat.le_refl _) hB2.size)⟩⟩
        · have hr : R = false := HNo.out (fun c => hk1 c.2.2)
          subst hr
          have hkI : ¬ ((a.K.length : Int) ≤ 10) := by omega
          clear HYes HNo
          gi_wp2
          first | refine ⟨trivial, ?_⟩ | skip
          rename_i hK
          refine hK _ _ ?_
          gi_wp2
          first | refine ⟨trivial, ?_⟩ | skip
          rename_i hK
          refine hK _ _ ?_
          gi_wp2
          refine eq_mk (Keep.refl _) ?_
          show Exec _ _ _ _ _ _
          exact exec_ret ⟨.inr rfl, fun W' hG => ⟨.bool false, by simp [results, Try.f22, go_sem], rfl, hV.trans (hG.below (Nat.le_refl _) hV.size)⟩⟩
      · have hr : R = false := HNo.out (fun c => hn1 c.2.1)
        subst hr
        have hnI : ¬ ((a.N.length : Int) ≤ 6) := by omega
        clear HYes HNo hk1
        gi_wp2
        first | refine ⟨trivial, ?_⟩ | skip
        rename_i hK
        refine hK _ _ ?_
        gi_wp2
        first | refine ⟨trivial, ?_⟩ | skip
        rename_i hK
        refine hK _ _ ?_
        gi_wp2
        refine eq_mk (Keep.refl _) ?_
        show Exec _ _ _ _ _ _
        exact exec_ret ⟨.inr rfl, fun W' hG => ⟨.bool false, by simp [results, Try.f22, go_sem], rfl, hV.trans (hG.below (Nat.le_refl _) hV.size)⟩⟩
    · have hr : R = false := HNo.out (fun c => hl1 c.1)
      subst hr
      have hlI : ¬ ((a.L.length : Int) ≤ 6) := by omega
      clear HYes HNo hk1 hn1
      gi_wp2
      first | refine ⟨trivial, ?_⟩ | skip
      rename_i hK
      refine hK _ _ ?_
      gi_wp2
      first | refine ⟨trivial, ?_⟩ | skip
      rename_i hK
      refine hK _ _ ?_
      gi_wp2
      refine eq_mk (Keep.refl _) ?_
      show Exec _ _ _ _ _ _
      exact exec_ret ⟨.inr rfl, fun W' hG => ⟨.bool false, by simp [results, Try.f22, go_sem], rfl, hV.trans (hG.below (Nat.le_refl _) hV.size)⟩⟩
end Go.Proofs.Ytbdmmikflkpmpaa
end

section
namespace Go.Proofs.Ytbdmmikflkpmpaa
open Go.RowKit Go.TL Go.Shelf Go.Pn
attribute [local go_sem] Oper.semAt_some
attribute [local go_sem] run_store_func
structure XP.Row (x : XP) (w : World) : Prop where
  l : RowV w x.AL (x.L.map vi)
  n : RowV w x.AN (x.N.map vi)
  k : RowKI w x.AK x.K
theorem XP.Row.at_ {x : XP} {w : World} (h : x.Row w) (h1 : x.L.length ≤ 40) (h2 : x.N.length ≤ 40) (h3 : x.K.length ≤ 40) : x.At w := ⟨h.l, h.n, h.k, h1, h2, h3⟩
theorem XP.Row.below {x : XP} {w w' : World} (h : x.Row w) (hb : Below w.heap.size w w') : x.Row w' := ⟨h.l.below hb, h.n.below hb, h.k.grow (Grow.of_below (B := 0) hb)⟩
def XP.small (x : XP) : Bool := decide (x.L.length ≤ 40) && decide (x.N.length ≤ 40) && decide (x.K.length ≤ 40)
def XP.big (x : XP) (j p k : Nat) : Bool := decide (j < x.L.length) || decide (p < x.N.length) || decide (k < x.K.length)
def heavyB (x : XP) (j p k : Nat) : Bool := !x.small || (x.isP && x.big j p k)
set_option maxRecDepth 100000 in
set_option maxHeartbeats 1000000 in
theorem heavy13 (a : XP) (j p k : Nat) (w : World) (ha : a.Row w) : Calls Try.prog 13 #[a.val, iv j, iv p, iv k] w fun e w' => e = .returned (.bool (heavyB a j p k)) ∧ Below w.heap.size w w' := by
  have hu25 := Try.underlying25
  obtain ⟨R, hR⟩ : ∃ R, heavyB a j p k = R := ⟨_, rfl⟩
  rw [hR]
  have HR := Lib.hid hR
  clear hR
  refine calls_of_exec Try.func13 rfl ?_
  simp only [Try.ntmps13, List.size_toArray, List.length_cons, List.length_nil, Nat.reduceAdd, Nat.reduceSub, Array.replicate_succ, Array.replicate_zero, List.push_toArray, List.append_toArray, List.nil_append, List.cons_append]
  simp only [XP.val]
  refine exec_seq (exec_region_o fun ds => ?_)
  gi_wp2
  refine eq_mk ((Keep.refl _).alloc _) ?_
  show Exec _ _ (Code.seq (Code.seq _ _) _) _ (w.alloc (.cells #[a.sL, a.sN, a.sK] 25)) _
  have hB := (Below.refl w.heap.size w).alloc (Nat.le_refl _) (.cells #[a.sL, a.sN, a.sK] 25)
  have hh : (w.alloc (.cells #[a.sL, a.sN, a.sK] 25)).heap[w.heap.size]? = some (.cells #[a.sL, a.sN, a.sK] 25 (0, 0)) := World.alloc_heap_new _ _
  have hX := ha.below hB
  generalize w.alloc (.cells #[a.sL, a.sN, a.sK] 25) = X at *
  have hh2 := hh
  simp only [XP.sL, XP.sN, XP.sK] at hh2
  have c0 := cells_get (cs := [_, _, _]) (k := 0) hh2 rfl
  have c1 := cells_get (cs := [_, _, _]) (k := 1) hh2 rfl
  have c2 := cells_get (cs := [_, _, _]) (k := 2) hh2 rfl
  refine exec_seq (exec_cut (fun t' W' => W' = X ∧ Slots (none :: some (iv j) :: some (iv p) :: some (iv k) :: some (.pointer (some ⟨w.heap.size, 0, none⟩)) :: none :: none :: none :: some (.bool false) :: none :: none :: o4 (o4 (some (.bool (!a.small)) :: none :: none :: none :: o4 (o16 [])))) t') (exec_region_o fun ds => ?_) ?_)
  · obtain ⟨S, hS⟩ : ∃ S, (!a.small) = S := ⟨_, rfl⟩
    simp only [hS]
    have HS := Lib.hid hS
    clear hS
    gi_wp2
    all_goals
      refine eq_mk (Keep.refl _) ⟨rfl, ?_⟩
      simp only [Slots, Fits, true_and, and_true, and_self, Value.bool.injEq]
      rw [← HS.out, Bool.eq_iff_iff]
      simp only [XP.small, decide_eq_true_eq, Bool.not_eq_true', Bool.and_eq_false_iff, decide_eq_false_iff_not]
      omega
  · rintro t X' ⟨rfl, hSl⟩
    obtain ⟨x, hx⟩ := Slots.open_ hSl; simp only [fill, Nat.reduceAdd] at hx; subst hx; clear hSl
    show Exec _ _ (Code.cond _ _ _) _ _ _
    cases hs : a.small with
    | false =>
      have hr : R = true := by rw [← HR.out]; simp [heavyB, hs]
      subst hr
      refine exec_cond (b := true) rfl (fun _ => ?_) (fun h => by cases h)
      refine exec_seq (exec_region_o fun ds => ?_)
      gi_wp2
      refine eq_mk (Keep.refl _) ?_
      show Exec _ _ _ _ _ _
      exact exec_ret ⟨.inr rfl, fun W' hG => ⟨.bool true, by simp [results, Try.f13, go_sem], rfl, hB.trans (hG.below (Nat.le_refl _) hB.size)⟩⟩
    | true =>
      have h3 : (a.L.length ≤ 40 ∧ a.N.length ≤ 40) ∧ a.K.length ≤ 40 := by
        simpa [XP.small] using hs
      have hr : R = (a.isP && a.big j p k) := by rw [← HR.out]; simp [heavyB, hs]
      refine exec_cond (b := false) rfl (fun h => by cases h) (fun _ => exec_skip ?_)
      have hat := hX.at_ h3.1.1 h3.1.2 h3.2
      have HRR := Lib.hid hr
      clear hr hs HR c0 c1 c2
      have c0 := cells_get (cs := [_, _, _]) (k := 0) hh rfl
      have c1 := cells_get (cs := [_, _, _]) (k := 1) hh rfl
      have c2 := cells_get (cs := [_, _, _]) (k := 2) hh rfl
      show Exec _ _ (Code.seq _ _) _ _ _
      refine exec_cut (fun t' W' => Below w.heap.size w W' ∧ Slots (o4 (o4 (some (.bool R) :: none :: none :: o16 (o16 [])))) t') (exec_region_o fun ds => ?_) ?_
      · gi_wp2_with fail
        refine ⟨trivial, rfl, (callsIn_wide.2 (panels22 a X' hat)).mono ?_⟩
        rintro e Y ⟨rfl, hy⟩
        have hBY := hB.trans (hy.mono hB.size)
        have hhY := (hy.block _ (heap_lt hh)).trans hh
        simp only [XP.sL, XP.sN, XP.sK] at hhY
        clear c0 c1 c2
        have c0 := cells_get (cs := [_, _, _]) (k := 0) hhY rfl
        have c1 := cells_get (cs := [_, _, _]) (k := 1) hhY rfl
        have c2 := cells_get (cs := [_, _, _]) (k := 2) hhY rfl
        have hKY := Keep.of_below hy
        clear hy
        cases hq : a.isP with
        | false =>
          have hr : R = false := by rw [HRR.out, hq]; rfl
          subst hr
          clear hq
          gi_wp2
          all_goals first | exact eq_mk hKY ⟨hBY, (by simp only [Slots, Fits, and_self])⟩ | (rename_i h1 h2; cases h1; done) | (rename_i h1 h2; simp [undef] at h1; done)
        | true =>
          have hr : R = a.big j p k := by rw [HRR.out, hq]; rfl
          have HR2 := Lib.hid hr
          clear hr hq
          gi_wp2
          all_goals
            refine eq_mk hKY ⟨hBY, ?_⟩
            simp only [Slots, Fits, true_and, and_true, and_self, Value.bool.injEq]
            rw [HR2.out]
            unfold XP.big
            first
              | (rw [eq_comm, Bool.eq_iff_iff]; simp only [Bool.or_eq_true, decide_eq_true_eq]; done)
              | (rw [eq_comm, Bool.eq_iff_iff]; simp only [Bool.or_eq_true, decide_eq_true_eq]; omega)
              | (symm; simp only [Bool.or_eq_true, decide_eq_true_eq, Bool.or_eq_false_iff, decide_eq_false_iff_not]; done)
              | (symm; simp only [Bool.or_eq_true, decide_eq_true_eq, Bool.or_eq_false_iff, decide_eq_false_iff_not]; omega)
              | (rename_i h1 h2; simp [h1, h2]; done)
      · rintro t' Y ⟨hBY, hSl⟩
        obtain ⟨x, hx⟩ := Slots.open_ hSl; simp only [fill, Nat.reduceAdd] at hx; subst hx; clear hSl
        exact exec_ret ⟨.inr rfl, fun W' hG => ⟨.bool R, by simp [results, Try.f13, go_sem], rfl, hBY.trans (hG.below (Nat.le_refl _) hBY.size)⟩⟩
end Go.Proofs.Ytbdmmikflkpmpaa
end

section
namespace Go.Proofs.Ytbdmmikflkpmpaa
open Go.RowKit Go.TL Go.Shelf Go.Pn
attribute [local go_sem] Oper.semAt_some
attribute [local go_sem] run_store_func
def kinB (a : XP) (x y : Int) : Bool := a.K.any fun k => decide (k.1 = x) && decide (k.2 = y)
def KnI (w : World) (a : XP) (x y : Int) (n : Nat) (t : Array Value) (W : World) : Prop :=
  ∃ k : Nat, k ≤ a.K.length ∧ n = a.K.length - k ∧ (∀ z ∈ a.K.take k, (decide (z.1 = x) && decide (z.2 = y)) = false) ∧ PBx W w.heap.size a ∧ Below w.heap.size w W ∧ Slots (none :: some (vi x) :: some (vi y) :: some (.pointer (some ⟨w.heap.size, 0, none⟩)) :: none :: none :: none :: some (iv k) :: none :: o4 (o4 (o16 []))) t
set_option maxRecDepth 100000 in
set_option maxHeartbeats 1000000 in
theorem kin29 (a : XP) (x0 y0 : Int) (w : World) (ha : a.At w) : Calls Try.prog 29 #[a.val, vi x0, vi y0] w fun e w' => e = .returned (.bool (kinB a x0 y0)) ∧ Below w.heap.size w w' := by
  have hu25 := Try.underlying25
  have hu23 := Try.underlying23
  have hu50 := Try.underlying50
  have h6 := ha.k4
  obtain ⟨R, hR⟩ : ∃ R, kinB a x0 y0 = R := ⟨_, rfl⟩
  rw [hR]
  have HR := Lib.hid hR
  clear hR
  refine calls_of_exec Try.func29 rfl ?_
  simp only [Try.ntmps29, List.size_toArray, List.length_cons, List.length_nil, Nat.reduceAdd, Nat.reduceSub, Array.replicate_succ, Array.replicate_zero, List.push_toArray, List.append_toArray, List.nil_append, List.cons_append]
  simp only [XP.val]
  refine exec_seq (exec_region_o fun ds => ?_)
  gi_wp2
  refine eq_mk ((Keep.refl _).alloc _) ?_
  show Exec _ _ (Code.seq (Code.seq _ _) _) _ (w.alloc (.cells #[a.sL, a.sN, a.sK] 25)) _
  have hB := (Below.refl w.heap.size w).alloc (Nat.le_refl _) (.cells #[a.sL, a.sN, a.sK] 25)
  have hX : PBx (w.alloc (.cells #[a.sL, a.sN, a.sK] 25)) w.heap.size a := ⟨World.alloc_heap_new _ _, ha.below hB⟩
  generalize w.alloc (.cells #[a.sL, a.sN, a.sK] 25) = X at *
  refine exec_seq (exec_seq (exec_region_o fun ds => ?_))
  gi_wp2
  refine eq_mk (Keep.refl _) ?_
  show Exec _ _ (Code.block _ _) _ _ _
  refine exec_block ?_
  refine exec_loop (KnI w a x0 y0) a.K.length ⟨0, by omega, rfl, by simp, hX, hB, by simp [Slots, Fits]⟩ ?_
  clear hX hB
  clear X
  rintro n t W ⟨k, hk, hn, htk, hX, hV, hSl⟩
  have HT := Lib.hid htk
  have HN := Lib.hid hn
  clear htk hn
  have hh := hX.heap
  simp only [XP.sK] at hh
  have e2 := cells_get (cs := [_, _, _]) (k := 2) hh rfl
  clear hh
  obtain ⟨x, hx⟩ := Slots.open_ hSl; simp only [fill, Nat.reduceAdd] at hx; subst hx; clear hSl
  show Exec _ _ (Code.seq (Code.seq _ _) _) _ _ _
  refine exec_seq (exec_seq (exec_region_o fun ds => ?_))
  gi_wp2
  refine eq_mk (Keep.refl _) ?_
  show Exec _ _ (Code.cond _ _ _) _ _ _
  refine (exec_cond (b := decide (k < a.K.length)) (by first | rfl | (show Value.bool _ = _; congr 1; exact decide_eq_decide.2 (by omega))) (fun hp => exec_skip ?_) (fun hp => exec_exit ?_))
  · have hkl : k < a.K.length := by have := of_decide_eq_true hp; omega
    show Exec _ _ (Code.seq (Code.block _ _) _) _ _ _
    obtain ⟨z, hz⟩ : ∃ z, a.K[k]? = some z := ⟨_, List.getElem?_eq_getElem hkl⟩
    obtain ⟨ad, hA, hc1, hc2⟩ := hX.at_.k k z hz
    have hzm := List.mem_of_getElem? hz
    have HY : (decide (z.1 = x0) && decide (z.2 = y0)) = false → ∀ z ∈ a.K.take (k + 1), (decide (z.1 = x0) && decide (z.2 = y0)) = false := fun e z' hz' => by
      rw [List.take_add_one, hz] at hz'
      rcases List.mem_append.1 hz' with h | h
      · exact HT.out z' h
      · simp at h
        rw [h]; exact e
    have HF : (decide (z.1 = x0) && decide (z.2 = y0)) = true → R = true := fun e => by
      rw [← HR.out]
      exact List.any_eq_true.2 ⟨z, hzm, e⟩
    have HY := Lib.hid HY
    have HF := Lib.hid HF
    clear hz hzm
    obtain ⟨z1, z2⟩ := z
    simp only at hc1 hc2
    have hkI : (k : Int) < a.K.length := by omega
    rw [hA] at e2
    obtain ⟨q, hq⟩ : ∃ q, (decide (z1 = x0) && decide (z2 = y0)) = q := ⟨_, rfl⟩
    have HQ := Lib.hid hq
    refine exec_cut (fun t' Y => q = false ∧ PBx Y w.heap.size a ∧ Below w.heap.size w Y ∧ Slots (none :: some (vi x0) :: some (vi y0) :: some (.pointer (some ⟨w.heap.size, 0, none⟩)) :: none :: none :: none :: some (iv k) :: none :: o4 (o4 (o16 []))) t') (exec_block ?_) ?_
    · clear hq
      show Exec _ _ (Code.seq _ _) _ _ _
      refine exec_cut (fun t' Y => Y = W ∧ Slots (none :: some (vi x0) :: some (vi y0) :: some (.pointer (some ⟨w.heap.size, 0, none⟩)) :: none :: none :: none :: some (iv k) :: o4 (o4 (o16 (some (.bool q) :: [])))) t') (exec_region_o fun ds => ?_) ?_
      · by_cases h1 : z1 = x0
        · by_cases h2 : z2 = y0
          · have hq : q = true := by rw [← HQ.out]; simp [h1, h2]
            clear HQ HY HF
            subst hq
            subst h1 h2
            gi_wp2
            all_goals exact eq_mk (Keep.refl _) ⟨rfl, by simp [Slots, Fits]⟩
          · have hq : q = false := by rw [← HQ.out]; simp [h2]
            clear HQ HY HF
            subst hq
            subst h1
            gi_wp2
            all_goals exact eq_mk (Keep.refl _) ⟨rfl, by simp [Slots, Fits, h2]⟩
        · have hq : q = false := by rw [← HQ.out]; simp [h1]
          clear HQ HY HF
          subst hq
          gi_wp2
          all_goals exact eq_mk (Keep.refl _) ⟨rfl, by simp [Slots, Fits]⟩
      · rintro t' Y ⟨rfl, hSl⟩
        clear x
        obtain ⟨x, hx⟩ := Slots.open_ hSl; simp only [fill, Nat.reduceAdd] at hx; subst hx; clear hSl
        show Exec _ _ (Code.cond _ _ _) _ _ _
        cases q with
        | false =>
          refine exec_cond (b := false) rfl (fun h => by cases h) (fun _ => exec_skip ?_)
          exact ⟨rfl, hX, hV, by simp [Slots, Fits]⟩
        | true =>
          have hr : R = true := HF.out HQ.out
          subst hr
          refine exec_cond (b := true) rfl (fun _ => ?_) (fun h => by cases h)
          refine exec_seq (exec_region_o fun ds => ?_)
          gi_wp2
          refine eq_mk (Keep.refl _) ?_
          show Exec _ _ _ _ _ _
          exact exec_ret ⟨.inr rfl, fun W' hG => ⟨.bool true, by simp [results, Try.f29, go_sem], rfl, hV.trans (hG.below (Nat.le_refl _) hV.size)⟩⟩
    · clear hV hX hc1 hc2 e2 x
      clear W
      rintro t' Y ⟨hy, hX, hV, hSl⟩
      have hT2 := HY.out (by rw [hq, hy])
      have HT2 := Lib.hid hT2
      clear hT2 hy hq
      obtain ⟨x, hx⟩ := Slots.open_ hSl; simp only [fill, Nat.reduceAdd] at hx; subst hx; clear hSl
      have hw : IntKind.i64.wrap ((k : Int) + 1) = ((k + 1 : Nat) : Int) := by rw [IntWalk.i64_in _ (by omega)]; norm_cast
      refine exec_region_o fun ds => ?_
      gi_wp2
      exact eq_mk (Keep.refl _) ⟨n - 1, by rw [HN.out]; omega, k + 1, by omega, by rw [HN.out]; omega, HT2.out, hX, hV, by simp only [Slots, Fits, and_self]; simp⟩
  · have hkl : k = a.K.length := by have := of_decide_eq_false hp; omega
    have htk := HT.out
    rw [hkl, List.take_length] at htk
    have hr : R = false := by
      rw [← HR.out]
      exact List.any_eq_false.2 fun z hz => by simp only [htk z hz]; simp
    subst hr
    clear htk
    show Exec _ _ (Code.seq _ _) _ _ _
    refine exec_seq (exec_region_o fun ds => ?_)
    gi_wp2
    refine eq_mk (Keep.refl _) ?_
    show Exec _ _ _ _ _ _
    exact exec_ret ⟨.inr rfl, fun W' hG => ⟨.bool false, by simp [results, Try.f29, go_sem], rfl, hV.trans (hG.below (Nat.le_refl _) hV.size)⟩⟩
def bitsTo (s k : Nat) : Nat := sumN (fun j => b1 (s.testBit j)) k
def SzI (w : World) (s : Nat) (n : Nat) (t : Array Value) (W : World) : Prop :=
  ∃ k : Nat, k ≤ 10 ∧ n = 10 - k ∧ Below w.heap.size w W ∧ Slots (some (iv (s / 2 ^ k)) :: none :: none :: some (iv (bitsTo s k)) :: none :: o4 (o4 [])) t
set_option maxRecDepth 100000 in
set_option maxHeartbeats 1000000 in
theorem size30 (s : Nat) (hs : s < 1024) (w : World) : Calls Try.prog 30 #[iv s] w fun e w' => e = .returned (iv (pop s)) ∧ Below w.heap.size w w' := by
  refine calls_of_exec Try.func30 rfl ?_
  simp only [Try.ntmps30, List.size_toArray, List.length_cons, List.length_nil, Nat.reduceAdd, Nat.reduceSub, Array.replicate_succ, Array.replicate_zero, List.push_toArray, List.append_toArray, List.nil_append, List.cons_append]
  refine exec_seq (exec_region_o fun ds => ?_)
  gi_wp2
  refine eq_mk (Keep.refl w) ?_
  show Exec _ _ (Code.seq _ _) _ _ _
  refine exec_seq (exec_region_o fun ds => ?_)
  gi_wp2
  refine eq_mk (Keep.refl _) ?_
  show Exec _ _ (Code.seq (Code.block _ _) _) _ _ _
  refine exec_seq (exec_block ?_)
  refine exec_loop (SzI w s) 10 ⟨0, by omega, rfl, Below.refl _ _, by simp [Slots, Fits, bitsTo, sumN]⟩ ?_
  rintro n t W ⟨k, hk, hn, hV, hSl⟩
  have HN := Lib.hid hn
  clear hn
  have hble : bitsTo s k ≤ k := by
    have := sumN_le (f := fun j => b1 (s.testBit j)) (g := fun _ => 1) k (fun i _ => by unfold b1; split <;> omega)
    have h1 : ∀ k, sumN (fun _ => 1) k = k := fun k => by
      induction k with
      | zero => rfl
      | succ k ih => show sumN _ k + 1 = _; rw [ih]
    rw [h1] at this
    exact this
  have hdle : s / 2 ^ k ≤ s := Nat.div_le_self _ _
  have hnext : bitsTo s (k + 1) = bitsTo s k + (s / 2 ^ k) % 2 := by
    show bitsTo s k + b1 (s.testBit k) = _
    congr 1
    rw [Nat.testBit_eq_decide_div_mod_eq]
    unfold b1
    have := Nat.mod_lt (s / 2 ^ k) (show 0 < 2 by omega)
    by_cases h : s / 2 ^ k % 2 = 1
    · rw [if_pos (decide_eq_true h), h]
    · rw [if_neg (by simp [h])]
      omega
  have hdiv : s / 2 ^ (k + 1) = s / 2 ^ k / 2 := by rw [Nat.pow_succ, Nat.div_div_eq_div_mul]
  have hend : s / 2 ^ k = 0 → pop s = bitsTo s k := fun h => by
    have hlt : s < 2 ^ k := by
      have := Nat.div_eq_zero_iff.1 h
      rcases this with h | h
      · have := Nat.pow_pos (n := k) (show 0 < 2 by omega)
        omega
      · exact h
    exact pop_n hlt hk
  have hten : k = 10 → s / 2 ^ k = 0 := fun h => by rw [h]; exact Nat.div_eq_of_lt hs
  obtain ⟨d, hd⟩ : ∃ d, s / 2 ^ k = d := ⟨_, rfl⟩
  rw [hd] at hSl hdle hnext hdiv hend hten
  have H1 := Lib.hid hnext
  have H2 := Lib.hid hdiv
  have H3 := Lib.hid hend
  clear hd hnext hdiv hend
  generalize hbk : bitsTo s k = bk at *
  have HB := Lib.hid hbk
  clear hbk
  obtain ⟨x, hx⟩ := Slots.open_ hSl; simp only [fill, Nat.reduceAdd] at hx; subst hx; clear hSl
  show Exec _ _ (Code.seq (Code.seq _ _) _) _ _ _
  refine exec_seq (exec_seq (exec_region_o fun ds => ?_))
  gi_wp2
  refine eq_mk (Keep.refl _) ?_
  show Exec _ _ (Code.cond _ _ _) _ _ _
  refine (exec_cond (b := decide (0 < d)) (by first | rfl | (show Value.bool _ = _; congr 1; exact decide_eq_decide.2 (by omega))) (fun hp => exec_skip ?_) (fun hp => exec_exit ?_))
  · have hd0 : 0 < d := of_decide_eq_true hp
    have hk10 : k < 10 := by
      apply Classical.byContradiction
      intro c
      have := hten (by omega)
      omega
    clear hten
    have hr : (d : Int).tmod 2 = ((d % 2 : Nat) : Int) := by rw [Int.tmod_eq_emod_of_nonneg (by omega)]; omega
    have hq : (d : Int).tdiv 2 = ((d / 2 : Nat) : Int) := by rw [Int.tdiv_eq_ediv_of_nonneg (by omega)]; omega
    have hw1 : IntKind.i64.wrap ((d % 2 : Nat) : Int) = ((d % 2 : Nat) : Int) := IntWalk.i64_in _ (by omega)
    have hw2 : IntKind.i64.wrap ((d / 2 : Nat) : Int) = ((d / 2 : Nat) : Int) := IntWalk.i64_in _ (by omega)
    have hw3 : IntKind.i64.wrap ((bk : Int) + ((d % 2 : Nat) : Int)) = ((bk + d % 2 : Nat) : Int) := by rw [IntWalk.i64_in _ (by omega)]; norm_cast
    show Exec _ _ (Code.block _ _) _ _ _
    refine exec_block (exec_seq (exec_region_o fun ds => ?_))
    gi_wp2
    refine eq_mk (Keep.refl _) ?_
    show Exec _ _ _ _ _ _
    refine exec_region_o fun ds => ?_
    gi_wp2
    refine eq_mk (Keep.refl _) ⟨n - 1, by rw [HN.out]; omega, k + 1, by omega, by rw [HN.out]; omega, hV, ?_⟩
    rw [H1.out, H2.out]
    simp only [Slots, Fits, and_self, true_and, and_true]
    exact ⟨by simp, by simp⟩
  · have hd0 : d = 0 := by have := of_decide_eq_false hp; omega
    have hp := H3.out hd0
    have HP := Lib.hid hp
    clear hp
    show Exec _ _ (Code.seq _ _) _ _ _
    refine exec_seq (exec_region_o fun ds => ?_)
    gi_wp2
    refine eq_mk (Keep.refl _) ?_
    show Exec _ _ _ _ _ _
    exact exec_ret ⟨.inr rfl, fun W' hG => ⟨iv bk, by simp [results, Try.f30, go_sem], by rw [HP.out], hV.trans (hG.below (Nat.le_refl _) hV.size)⟩⟩
end Go.Proofs.Ytbdmmikflkpmpaa
end

section
namespace Go.Proofs.Ytbdmmikflkpmpaa
open Go.RowKit Go.TL Go.Shelf Go.Pn
def PwI (w : World) (n : Nat) (m : Nat) (t : Array Value) (W : World) : Prop :=
  ∃ k : Nat, k ≤ n ∧ m = n - k ∧ Below w.heap.size w W ∧ Slots (some (iv n) :: none :: none :: some (iv (2 ^ k)) :: some (iv k) :: o4 (o4 [])) t
set_option maxRecDepth 100000 in
set_option maxHeartbeats 1000000 in
theorem power99 (n : Nat) (hn : n ≤ 40) (w : World) : Calls Try.prog 99 #[iv n] w fun e w' => e = .returned (iv (2 ^ n)) ∧ Below w.heap.size w w' := by
  refine calls_of_exec Try.func99 rfl ?_
  simp only [Try.ntmps99, List.size_toArray, List.length_cons, List.length_nil, Nat.reduceAdd, Nat.reduceSub, Array.replicate_succ, Array.replicate_zero, List.push_toArray, List.append_toArray, List.nil_append, List.cons_append]
  refine exec_seq (exec_region_o fun ds => ?_)
  gi_wp2
  refine eq_mk (Keep.refl w) ?_
  show Exec _ _ (Code.seq _ _) _ _ _
  refine exec_seq (exec_region_o fun ds => ?_)
  gi_wp2
  refine eq_mk (Keep.refl _) ?_
  show Exec _ _ (Code.seq (Code.seq _ _) _) _ _ _
  refine exec_seq (exec_seq (exec_region_o fun ds => ?_))
  gi_wp2
  refine eq_mk (Keep.refl _) ?_
  show Exec _ _ (Code.block _ _) _ _ _
  refine exec_block ?_
  refine exec_loop (PwI w n) n ⟨0, by omega, rfl, Below.refl _ _, by simp [Slots, Fits]⟩ ?_
  rintro m t W ⟨k, hk, hm, hV, hSl⟩
  have HN := Lib.hid hm
  clear hm
  have hp40 : 2 ^ k ≤ 2 ^ 40 := Nat.pow_le_pow_right (by omega) (by omega)
  have h2 : 2 ^ (k + 1) = 2 * 2 ^ k := by rw [Nat.pow_succ, Nat.mul_comm]
  obtain ⟨p, hp⟩ : ∃ p, 2 ^ k = p := ⟨_, rfl⟩
  rw [hp] at hSl hp40 h2
  have HP := Lib.hid hp
  clear hp
  obtain ⟨x, hx⟩ := Slots.open_ hSl; simp only [fill, Nat.reduceAdd] at hx; subst hx; clear hSl
  show Exec _ _ (Code.seq (Code.seq _ _) (Code.seq _ _)) _ _ _
  refine exec_seq (exec_seq (exec_region_o fun ds => ?_))
  gi_wp2
  refine eq_mk (Keep.refl _) ?_
  show Exec _ _ (Code.cond _ _ _) _ _ _
  refine exec_cond (b := decide (k < n)) (by first | rfl | (show Value.bool _ = _; congr 1; exact decide_eq_decide.2 (by omega))) (fun hp => exec_skip ?_) (fun hp => exec_exit ?_)
  · have hkl : k < n := by have := of_decide_eq_true hp; omega
    show Exec _ _ (Code.seq (Code.block _ _) _) _ _ _
    have hw1 : IntKind.i64.wrap (2 * (p : Int)) = ((2 ^ (k + 1) : Nat) : Int) := by rw [h2, IntWalk.i64_in _ (by omega)]; norm_cast
    have hw : IntKind.i64.wrap ((k : Int) + 1) = ((k + 1 : Nat) : Int) := by rw [IntWalk.i64_in _ (by omega)]; norm_cast
    have hend : Below w.heap.size w W → ∀ t, Slots (some (iv n) :: none :: none :: some (iv (2 ^ (k + 1))) :: some (iv (k + 1)) :: o4 (o4 [])) t → ∃ m', m' < m ∧ PwI w n m' t W := fun hB t hS => ⟨m - 1, by rw [HN.out]; omega, k + 1, by omega, by rw [HN.out]; omega, hB, hS⟩
    generalize 2 ^ (k + 1) = p2 at *
    refine exec_seq (exec_block (exec_region_o fun ds => ?_))
    gi_wp2
    refine eq_mk (Keep.refl _) ?_
    show Exec _ _ (Code.region _ _ _) _ _ _
    refine exec_region_o fun ds => ?_
    gi_wp2
    refine eq_mk (Keep.refl _) ?_
    exact hend hV _ (by simp [Slots, Fits]; omega)
  · have hk2 : k = n := by have := of_decide_eq_false hp; omega
    have hP := HP.out
    show Exec _ _ (Code.seq _ _) _ _ _
    refine exec_seq (exec_region_o fun ds => ?_)
    gi_wp2
    refine eq_mk (Keep.refl _) ?_
    exact exec_ret ⟨.inr rfl, fun W' hG => ⟨iv p, by simp [results, Try.f99, go_sem], by rw [← hP, hk2], hV.trans (hG.below (Nat.le_refl _) hV.size)⟩⟩
theorem has_dec (s n : Nat) : decide (s / 2 ^ n % 2 = 1) = s.testBit n := by rw [Nat.testBit_eq_decide_div_mod_eq]
set_option maxRecDepth 100000 in
set_option maxHeartbeats 1000000 in
theorem has71 (s n : Nat) (hs : s < 2 ^ 40) (hn : n ≤ 40) (w : World) : Calls Try.prog 71 #[iv s, iv n] w fun e w' => e = .returned (.bool (s.testBit n)) ∧ Below w.heap.size w w' := by
  refine calls_of_exec Try.func71 rfl ?_
  simp only [Try.ntmps71, List.size_toArray, List.length_cons, List.length_nil, Nat.reduceAdd, Nat.reduceSub, Array.replicate_succ, Array.replicate_zero, List.push_toArray, List.append_toArray, List.nil_append, List.cons_append]
  refine exec_seq (exec_region_o fun ds => ?_)
  gi_wp2
  refine eq_mk (Keep.refl w) ?_
  show Exec _ _ (Code.seq _ _) _ _ _
  have hp0 : 0 < 2 ^ n := Nat.pow_pos (by omega)
  have hb := has_dec s n
  have hq : Int.tdiv (s : Int) ((2 ^ n : Nat) : Int) = ((s / 2 ^ n : Nat) : Int) := by rw [Int.tdiv_eq_ediv_of_nonneg (Int.natCast_nonneg _)]; norm_cast
  have hd : s / 2 ^ n ≤ s := Nat.div_le_self _ _
  have hm : Int.tmod ((s / 2 ^ n : Nat) : Int) 2 = ((s / 2 ^ n % 2 : Nat) : Int) := by rw [Int.tmod_eq_emod_of_nonneg (Int.natCast_nonneg _)]; norm_cast
  have hm2 : s / 2 ^ n % 2 < 2 := Nat.mod_lt _ (by omega)
  have hcall := power99 n hn w
  generalize 2 ^ n = p at *
  generalize s / p = q at *
  generalize q % 2 = r at *
  have hwq : IntKind.i64.wrap (q : Int) = (q : Int) := IntWalk.i64_in _ (by omega)
  have hwr : IntKind.i64.wrap (r : Int) = (r : Int) := IntWalk.i64_in _ (by omega)
  have hpn : ¬ p = 0 := by omega
  obtain ⟨b, hbb⟩ : ∃ b, s.testBit n = b := ⟨_, rfl⟩
  rw [hbb] at hb ⊢
  clear hbb
  refine exec_seq (exec_region_o fun ds => ?_)
  gi_wp2_with fail
  refine ⟨trivial, rfl, (callsIn_wide.2 hcall).mono ?_⟩
  rintro e W ⟨rfl, hy⟩
  clear hcall
  gi_wp2
  refine eq_mk (Keep.of_below hy) ?_
  exact exec_ret ⟨.inr rfl, fun W' hG => ⟨.bool b, by simp [results, Try.f71, go_sem, ← hb]; rcases (show r = 0 ∨ r = 1 by omega) with rfl | rfl <;> rfl, rfl, hy.trans (hG.below (Nat.le_refl _) hy.size)⟩⟩
end Go.Proofs.Ytbdmmikflkpmpaa
end

section
namespace Go.Proofs.Ytbdmmikflkpmpaa
open Go.RowKit Go.TL Go.Shelf Go.Pn
structure Tr (W V X : World) (l : List (Nat × Obj)) : Prop where
  below : Below W.heap.size W X
  keep : Keep V X
  ge : ∀ p ∈ l, W.heap.size ≤ p.1
  at_ : ∀ p ∈ l, X.heap[p.1]? = some p.2
  nd : (l.map (·.1)).Nodup
section
variable {W V X Y : World} {l : List (Nat × Obj)}
theorem Tr.start (hb : Below W.heap.size W V) : Tr W V V [] := ⟨hb, Keep.refl _, fun _ h => (by cases h), fun _ h => (by cases h), List.nodup_nil⟩
theorem Tr.again (h : Tr W V X l) : Tr W X X l := ⟨h.below, Keep.refl _, h.ge, h.at_, h.nd⟩
theorem Tr.get (h : Tr W V X l) (i : Nat) {k : Nat} {o : Obj} (hi : l[i]? = some (k, o)) : X.heap[k]? = some o := h.at_ _ (List.mem_of_getElem? hi)
theorem Tr.lt (h : Tr W V X l) : ∀ p ∈ l, p.1 < X.heap.size := fun p hp => heap_lt (h.at_ p hp)
theorem Tr.push (h : Tr W V X l) {k : Nat} {o : Obj} (hk : X.heap[k]? = some o) (hge : W.heap.size ≤ k) (hn : ∀ p ∈ l, p.1 ≠ k) : Tr W V X ((k, o) :: l) := by
  refine ⟨h.below, h.keep, fun p hp => ?_, fun p hp => ?_, ?_⟩
  · rcases List.mem_cons.1 hp with rfl | hp
    · exact hge
    · exact h.ge p hp
  · rcases List.mem_cons.1 hp with rfl | hp
    · exact hk
    · exact h.at_ p hp
  · rw [List.map_cons, List.nodup_cons]
    refine ⟨fun hm => ?_, h.nd⟩
    obtain ⟨p, hp, e⟩ := List.mem_map.1 hm
    exact hn p hp e
theorem Tr.step (h : Tr W V X l) (hb : Below X.heap.size X Y) : Tr W V Y l :=
  ⟨h.below.trans (hb.mono h.below.size), h.keep.trans (Keep.of_below hb), h.ge, fun p hp => (hb.block _ (h.lt p hp)).trans (h.at_ p hp), h.nd⟩
theorem Tr.drew (h : Tr W V X l) : Tr W V X.drew l := h.step (Below.refl _ X).drew
theorem Tr.alloc (h : Tr W V X l) (o : Obj) : Tr W V (X.alloc o) ((X.heap.size, o) :: l) :=
  (h.step ((Below.refl X.heap.size X).alloc (Nat.le_refl _) o)).push (World.alloc_heap_new X o) h.below.size fun p hp => by have := h.lt p hp; omega
theorem Tr.drop (h : Tr W V X l) {m : List (Nat × Obj)} (hs : m.Sublist l) : Tr W V X m :=
  ⟨h.below, h.keep, fun p hp => h.ge p (hs.subset hp), fun p hp => h.at_ p (hs.subset hp), h.nd.sublist (hs.map _)⟩
theorem nodup_get : ∀ {l : List (Nat × Obj)} {i j k : Nat} {o o' : Obj}, (l.map (·.1)).Nodup → l[i]? = some (k, o) → l[j]? = some (k, o') → i = j
  | [], i, j, _, _, _, _, h, _ => by simp at h
  | p :: l, 0, 0, _, _, _, _, _, _ => rfl
  | p :: l, 0, j + 1, k, o, o', hn, h1, h2 => by
    rw [List.map_cons, List.nodup_cons] at hn
    have e : p = (k, o) := by simpa using h1
    subst e
    exact absurd (List.mem_map.2 ⟨(k, o'), List.mem_of_getElem? (by simpa using h2), rfl⟩) hn.1
  | p :: l, i + 1, 0, k, o, o', hn, h1, h2 => by
    rw [List.map_cons, List.nodup_cons] at hn
    have e : p = (k, o') := by simpa using h2
    subst e
    exact absurd (List.mem_map.2 ⟨(k, o), List.mem_of_getElem? (by simpa using h1), rfl⟩) hn.1
  | p :: l, i + 1, j + 1, k, o, o', hn, h1, h2 => by
    rw [List.map_cons, List.nodup_cons] at hn
    rw [nodup_get (l := l) (i := i) (j := j) hn.2 (by simpa using h1) (by simpa using h2)]
theorem nodup_set : ∀ {m : List Nat} {i k' : Nat}, m.Nodup → k' ∉ m → (m.set i k').Nodup
  | [], _, _, hd, _ => hd
  | a :: m, 0, k', hd, hno => by
    rw [List.nodup_cons] at hd
    rw [List.set_cons_zero, List.nodup_cons]
    exact ⟨fun c => hno (List.mem_cons_of_mem _ c), hd.2⟩
  | a :: m, i + 1, k', hd, hno => by
    rw [List.nodup_cons] at hd
    rw [List.set_cons_succ, List.nodup_cons]
    refine ⟨fun c => ?_, nodup_set hd.2 (fun c => hno (List.mem_cons_of_mem _ c))⟩
    rcases List.mem_or_eq_of_mem_set c with c | c
    · exact hd.1 c
    · exact hno (c ▸ List.mem_cons_self ..)
theorem Tr.put (h : Tr W V X l) (hb : Below W.heap.size W Y) (hk : Keep V Y) {i k k' : Nat} {o o' : Obj} (hi : l[i]? = some (k, o)) (hge : W.heap.size ≤ k') (hn : k' = k ∨ ∀ p ∈ l, p.1 ≠ k') (hsame : ∀ p ∈ l, p.1 ≠ k → Y.heap[p.1]? = some p.2) (hnew : Y.heap[k']? = some o') : Tr W V Y (l.set i (k', o')) := by
  have hil := (List.getElem?_eq_some_iff.1 hi).1
  have hmem : ∀ p ∈ l.set i (k', o'), p = (k', o') ∨ p ∈ l ∧ p.1 ≠ k := fun p hp => by
    obtain ⟨j, hj, e⟩ := List.getElem_of_mem hp
    have e' : (l.set i (k', o'))[j]? = some p := by rw [List.getElem?_eq_getElem hj, e]
    rw [List.getElem?_set] at e'
    split at e'
    · first | rw [if_pos hil] at e' | skip
      exact .inl (Option.some.inj e').symm
    · rename_i hne
      refine .inr ⟨List.mem_of_getElem? e', fun c => hne ?_⟩
      obtain ⟨a, b⟩ := p
      simp only at c
      subst c
      exact nodup_get h.nd hi e'
  refine ⟨hb, hk, fun p hp => ?_, fun p hp => ?_, ?_⟩
  · rcases hmem p hp with rfl | ⟨hp, _⟩
    · exact hge
    · exact h.ge p hp
  · rcases hmem p hp with rfl | ⟨hp, hne⟩
    · exact hnew
    · exact hsame p hp hne
  · rw [List.map_set]
    rcases hn with rfl | hn
    · have : (l.map (·.1)).set i k' = l.map (·.1) := by
        refine List.ext_getElem? fun j => ?_
        rw [List.getElem?_set]
        split
        · rename_i e
          subst e
          rw [if_pos (by rw [List.length_map]; exact hil), List.getElem?_map, hi]
          rfl
        · rfl
      show ((l.map (·.1)).set i k').Nodup
      rw [this]
      exact h.nd
    · show ((l.map (·.1)).set i k').Nodup
      have hno : k' ∉ l.map (·.1) := fun hm => by
        obtain ⟨p, hp, e⟩ := List.mem_map.1 hm
        exact hn p hp e
      have hd := h.nd
      exact nodup_set hd hno
theorem Tr.set (h : Tr W V X l) (i : Nat) {k : Nat} {cs : List Value} {t : TypeId} (hi : l[i]? = some (k, .cells cs.toArray t (0, 0))) (j : Nat) (v : Value) : Tr W V (X.setCell ⟨k, j, none⟩ v) (l.set i (k, .cells (cs.set j v).toArray t (0, 0))) := by
  have hk := h.at_ _ (List.mem_of_getElem? hi)
  have hge := h.ge _ (List.mem_of_getElem? hi)
  exact h.put (h.below.setCell hge v) (h.keep.setCell _ v) hi hge (.inl rfl) (fun p hp hne => (Below.heap_setCell X ⟨k, j, none⟩ v p.1 hne).trans (h.at_ p hp)) (box_set X k j cs t v hk)
theorem Tr.cell (h : Tr W V X l) (i : Nat) {k : Nat} {cs : List Value} {t : TypeId} (hi : l[i]? = some (k, .cells cs.toArray t (0, 0))) {j : Nat} {v : Value} (hv : cs[j]? = some v) : X.cell? ⟨k, j, none⟩ = some v := cells_get (h.get i hi) hv
theorem Tr.fz (h : Tr W V X l) (i : Nat) {k : Nat} {cs : List Value} {t : TypeId} (hi : l[i]? = some (k, .cells cs.toArray t (0, 0))) (o : Nat) : X.frozen? ⟨k, o, none⟩ = false := frozen_cells (h.get i hi)
end
def Pre (cur vs : List Value) : Prop := ∀ (i : Nat) (v : Value), vs[i]? = some v → cur[i]? = some v
theorem Pre.set {cur vs : List Value} (h : Pre cur vs) (r : Nat) (u : Value) : Pre (cur.set r u) (vs.set r u) := fun i v hv => by
  rw [List.getElem?_set] at hv ⊢
  split
  · rename_i e
    rw [if_pos e] at hv
    split at hv
    · rename_i hl
      have := h r _ (List.getElem?_eq_getElem hl)
      rw [if_pos (List.getElem?_eq_some_iff.1 this).1]
      exact hv
    · cases hv
  · rename_i e
    rw [if_neg e] at hv
    exact h i v hv
theorem Tr.grown {W V X Y : World} {l : List (Nat × Obj)} (h : Tr W V X l) (hg : X.grownBy Y none) : Tr W V Y l := h.step ((Below.refl _ X).grown hg (Nat.le_refl _) (fun q e => by cases e))
end Go.Proofs.Ytbdmmikflkpmpaa
end

section
namespace Go.Proofs.Ytbdmmikflkpmpaa
open Go.RowKit Go.TL Go.Shelf Go.Pn
attribute [local go_sem] Oper.semAt_some
attribute [local go_sem] run_store_func
structure W38 (w : World) (a : XP) (v : Value) (M : List (Nat × Nat)) (W : World) : Prop where
  b2 : PBx W w.heap.size a
  b4 : W.heap[w.heap.size + 1]? = some (.cells #[.slice none 0 0, .slice none 0 0, .slice none 0 0] 25 (0, 0))
  b5 : W.heap[w.heap.size + 1 + 1]? = some (.cells #[a.sL, a.sN, v] 25 (0, 0))
  own : W.ownsRow (w.heap.size + 1 + 1 + 1) 50 2 v M.length (flatV M)
  below : Below w.heap.size w W
theorem W38.keep {w : World} {a : XP} {v : Value} {M : List (Nat × Nat)} {W W' : World} (h : W38 w a v M W) (hb : Below W.heap.size W W') : W38 w a v M W' := ⟨h.b2.keep hb, (hb.block _ (heap_lt h.b4)).trans h.b4, (hb.block _ (heap_lt h.b5)).trans h.b5, own_grow h.own (Grow.of_below (B := 0) hb), h.below.trans (hb.mono h.below.size)⟩
end Go.Proofs.Ytbdmmikflkpmpaa
end

section
namespace Go.Proofs.Ytbdmmikflkpmpaa
open Go.RowKit Go.TL Go.Shelf Go.Pn
attribute [local go_sem] Oper.semAt_some
attribute [local go_sem] run_store_func
/-! ### The least set, in plain words -/
theorem range_find {q : Nat → Bool} {n s : Nat} (h : (List.range n).find? q = some s) : s < n ∧ q s = true ∧ ∀ t, t < s → q t = false := by
  obtain ⟨h1, as0, bs, h2, h3⟩ := List.find?_eq_some_iff_append.1 h
  have hs := List.mem_range.1 (List.mem_of_find?_eq_some h)
  refine ⟨hs, h1, fun t ht => ?_⟩
  have hl : as0.length = s := by
    have := congrArg (fun l => l[as0.length]?) h2
    try simp only at this
    rw [List.getElem?_append_right (Nat.le_refl _), Nat.sub_self, List.getElem?_cons_zero] at this
    have hlt := (List.getElem?_eq_some_iff.1 this).1
    rw [List.getElem?_range (by simpa using hlt)] at this
    exact Option.some.inj this
  have hm : t ∈ as0 := by
    have := congrArg (fun l => l[t]?) h2
    try simp only at this
    rw [List.getElem?_range (by omega), List.getElem?_append_left (by omega)] at this
    exact List.mem_of_getElem? this.symm
  have := h3 t hm
  simpa using this
end Go.Proofs.Ytbdmmikflkpmpaa
end

section
namespace Go.Proofs.Ytbdmmikflkpmpaa
open Go.RowKit Go.TL Go.Shelf Go.Pn
attribute [local go_sem] Oper.semAt_some
attribute [local go_sem] run_store_func
end Go.Proofs.Ytbdmmikflkpmpaa
end

section
namespace Go.Proofs.Ytbdmmikflkpmpaa
open Go.RowKit Go.TL Go.Shelf Go.Pn
attribute [local go_sem] Oper.semAt_some
attribute [local go_sem] run_store_func
end Go.Proofs.Ytbdmmikflkpmpaa
end

section
namespace Go.Proofs.Ytbdmmikflkpmpaa
open Go.RowKit Go.TL Go.Shelf Go.Pn
attribute [local go_sem] Oper.semAt_some
attribute [local go_sem] run_store_func
end Go.Proofs.Ytbdmmikflkpmpaa
end

section
namespace Go.Proofs.Ytbdmmikflkpmpaa
open Go.RowKit Go.TL Go.Shelf Go.Pn
attribute [local go_sem] Oper.semAt_some
attribute [local go_sem] run_store_func
theorem sit_tie {a : XP} (hf : a.Fine) (hc : canV (toP a.s3) = true) : ∀ k, k ≤ a.N.length → (seqs a.L.length ((nf (toP a.s3)).drop k).length).any (okL ((nf (toP a.s3)).drop k) (sitFold a k).2) = true ∧ (sitFold a k).1 ++ sitG a.L.length ((nf (toP a.s3)).drop k) (sitFold a k).2 = sitG a.L.length (nf (toP a.s3)) a.s3.1
  | 0, _ => by
    have hF := toP_Fit (XP.good hf)
    have := hc
    rw [can_seqs hF, ← nf_len hF] at this
    have hL : (toP a.s3).loads.length = a.L.length := by simp [toP, XP.s3]
    rw [hL] at this
    exact ⟨this, rfl⟩
  | k + 1, hk => by
    obtain ⟨h1, h2⟩ := sit_tie hf hc k (by omega)
    have hF := toP_Fit (XP.good hf)
    have hnl : (toP a.s3).needs.length = a.N.length := by simp [toP, XP.s3]
    have hx := nf_get hF (i := k) (by omega)
    have hkl := (List.getElem?_eq_some_iff.1 hx).1
    have hdr : (nf (toP a.s3)).drop k = ((toP a.s3).needs.getD k 0, (toP a.s3).fit.getD k 0) :: (nf (toP a.s3)).drop (k + 1) := by
      rw [List.drop_eq_getElem_cons hkl, (List.getElem?_eq_some_iff.1 hx).2]
    rw [hdr] at h1 h2
    have hd : sitG a.L.length (((toP a.s3).needs.getD k 0, (toP a.s3).fit.getD k 0) :: (nf (toP a.s3)).drop (k + 1)) (sitFold a k).2 = (match (List.range (2 ^ a.L.length)).find? (okTry a k (sitFold a k).2) with | some s => s :: sitG a.L.length ((nf (toP a.s3)).drop (k + 1)) (subL (sitFold a k).2 s) | none => sitG a.L.length ((nf (toP a.s3)).drop (k + 1)) (sitFold a k).2) := rfl
    rw [hd] at h2
    rw [sitFold_succ]
    unfold sitStep
    cases hq : (List.range (2 ^ a.L.length)).find? (okTry a k (sitFold a k).2) with
    | none =>
      exfalso
      obtain ⟨t, ht, hok⟩ := List.any_eq_true.1 h1
      obtain ⟨s, hs, ht⟩ := List.mem_flatMap.1 ht
      obtain ⟨u, hu, rfl⟩ := List.mem_map.1 ht
      have hok' : (okS ((toP a.s3).needs.getD k 0) ((toP a.s3).fit.getD k 0) s && canL (sitFold a k).2 s && okL ((nf (toP a.s3)).drop (k + 1)) (subL (sitFold a k).2 s) u) = true := hok
      rw [Bool.and_eq_true] at hok'
      have := List.find?_eq_none.1 hq s hs
      refine this ?_
      unfold okTry
      rw [hok'.1, Bool.true_and]
      exact List.any_eq_true.2 ⟨u, hu, hok'.2⟩
    | some s =>
      rw [hq] at h2
      simp only at h2
      obtain ⟨_, hs, _⟩ := range_find hq
      unfold okTry at hs
      rw [Bool.and_eq_true] at hs
      refine ⟨hs.2, ?_⟩
      rw [← h2]
      simp
theorem count_is {a : XP} (hf : a.Fine) : countF a = ((seqs a.L.length a.N.length).filter (okL (nf (toP a.s3)) a.s3.1)).length := by
  have hF := toP_Fit (XP.good hf)
  have hnl : (toP a.s3).needs.length = a.N.length := by simp [toP, XP.s3]
  unfold countF
  rw [ways_count, nf_len hF, hnl]
  congr 1
  refine List.filter_congr fun t _ => okL_congr fun j _ => ?_
  unfold padL
  rw [List.getD_eq_getElem?_getD, List.getD_eq_getElem?_getD]
  rcases Nat.lt_or_ge j a.s3.1.length with h | h
  · rw [List.getElem?_append_left h]
  · rw [List.getElem?_append_right h, List.getElem?_replicate, List.getElem?_eq_none h]
    split <;> rfl
theorem no_seating {a : XP} (hf : a.Fine) (hc : canV (toP a.s3) = false) : countF a = 0 ∧ ∀ t ∈ seqs a.L.length a.N.length, okL (nf (toP a.s3)) a.s3.1 t = false := by
  have hF := toP_Fit (XP.good hf)
  have hnl : (toP a.s3).needs.length = a.N.length := by simp [toP, XP.s3]
  have hL : (toP a.s3).loads.length = a.L.length := by simp [toP, XP.s3]
  have h := hc
  rw [can_seqs hF, hL, hnl, List.any_eq_false] at h
  refine ⟨?_, fun t ht => (by have h9 : ¬ okL (nf (toP a.s3)) a.s3.1 t = true := h t ht; simpa using h9)⟩
  rw [count_is hf, List.length_eq_zero_iff, List.filter_eq_nil_iff]
  exact fun t ht => h t ht
/-! ### who must sit, who never can -/
theorem pair_must {P : Pnl} (hP : PFit P) {g : Asg} (hs : Seating P g) {p j : Nat} (hp : p < P.needs.length) (hj : j < P.loads.length) (h : g p j = false) : pairV P p j ≠ 2 := by
  have hj6 := hP.ok.j
  have hc : canV (pairP1 P p j) = true := by
    refine (can_is (P := pairP1 P p j) ⟨hP.ok.j, hP.ok.p⟩).2 ⟨g, ⟨⟨fun q i hq hi hg => ?_, hs.feas.load⟩, hs.eq⟩⟩
    have hb := hs.feas.fit q i hq hi hg
    show ((P.fit.set p (clrB (P.fit.getD p 0) j)).getD q 0).testBit i = true
    rw [getD_set]
    split
    · rename_i hpq
      obtain ⟨rfl, _⟩ := hpq
      rw [clrB_bit _ _ _ (hP.lt p) (by omega), hb, Bool.true_and]
      have : j ≠ i := fun e => by
        subst e
        rw [h] at hg
        cases hg
      rw [decide_eq_false this]
      rfl
    · exact hb
  unfold pairV
  rw [hc]
  simp only [Bool.not_true, Bool.false_eq_true, if_false]
  split <;> omega
theorem pair_never {P : Pnl} (hP : PFit P) {g : Asg} (hs : Seating P g) {p j : Nat} (hp : p < P.needs.length) (hj : j < P.loads.length) (h : g p j = true) : pairV P p j ≠ 0 := by
  have hj6 := hP.ok.j
  have hfit := hs.feas.fit p j hp hj h
  have hld := hs.feas.load j hj
  have hnd := hs.eq p hp
  have h1 := sumN_mem (f := fun q => b1 (g q j)) hp
  have h2 := sumN_mem (f := fun i => b1 (g p i)) hj
  simp only [h, b1, if_true] at h1 h2
  have hld' : 0 < P.loads.getD j 0 := Nat.lt_of_lt_of_le h1 hld
  have hnd' : 0 < P.needs.getD p 0 := by
    rw [← hnd]
    exact h2
  have hB : pairB P p j = true := by
    unfold pairB
    rw [hfit, decide_eq_true hld', decide_eq_true hnd']
    rfl
  have hc : canV (pairP2 P p j) = true := by
    have hll : (P.loads.set j (P.loads.getD j 0 - 1)).length = P.loads.length := List.length_set
    have hnl : (P.needs.set p (P.needs.getD p 0 - 1)).length = P.needs.length := List.length_set
    refine (can_is (P := pairP2 P p j) ⟨by show (P.loads.set _ _).length ≤ 6; rw [hll]; exact hP.ok.j, by show (P.needs.set _ _).length ≤ 6; rw [hnl]; exact hP.ok.p⟩).2 ⟨fun q i => g q i && !(decide (q = p) && decide (i = j)), ⟨⟨fun q i hq hi hg => ?_, fun i hi => ?_⟩, fun q hq => ?_⟩⟩
    · rw [Bool.and_eq_true] at hg
      have hq' : q < P.needs.length := by rw [← hnl]; exact hq
      have hi' : i < P.loads.length := by rw [← hll]; exact hi
      have hb := hs.feas.fit q i hq' hi' hg.1
      show ((P.fit.set p (clrB (P.fit.getD p 0) j)).getD q 0).testBit i = true
      rw [getD_set]
      split
      · rename_i hpq
        obtain ⟨rfl, _⟩ := hpq
        rw [clrB_bit _ _ _ (hP.lt p) (by omega), hb, Bool.true_and]
        have : j ≠ i := fun e => by
          subst e
          simp at hg
        rw [decide_eq_false this]
        rfl
      · exact hb
    · have hi' : i < P.loads.length := by rw [← hll]; exact hi
      show sumN (fun q => b1 (g q i && !(decide (q = p) && decide (i = j)))) (P.needs.set p _).length ≤ (P.loads.set j (P.loads.getD j 0 - 1)).getD i 0
      rw [hnl, getD_set]
      have hli := hs.feas.load i hi'
      by_cases e : j = i
      · subst e
        rw [if_pos ⟨rfl, hj⟩]
        have := sumN_upd (fun q => b1 (g q j && !(decide (q = p) && decide (j = j)))) (fun q => b1 (g q j)) p 1 P.needs.length (fun q _ hne => by simp [hne]) (fun _ => by simp [h, b1])
        rw [if_pos hp] at this
        have hli' : sumN (fun q => b1 (g q j)) P.needs.length ≤ P.loads.getD j 0 := hli
        omega
      · rw [if_neg fun c => e c.1]
        refine Nat.le_trans (sumN_le _ fun q _ => ?_) hli
        simp [show ¬ i = j from fun c => e c.symm]
    · have hq' : q < P.needs.length := by rw [← hnl]; exact hq
      show sumN (fun i => b1 (g q i && !(decide (q = p) && decide (i = j)))) (P.loads.set j _).length = (P.needs.set p (P.needs.getD p 0 - 1)).getD q 0
      rw [hll, getD_set]
      have hqe := hs.eq q hq'
      by_cases e : p = q
      · subst e
        rw [if_pos ⟨rfl, hp⟩]
        have := sumN_upd (fun i => b1 (g p i && !(decide (p = p) && decide (i = j)))) (fun i => b1 (g p i)) j 1 P.loads.length (fun i _ hne => by simp [hne]) (fun _ => by simp [h, b1])
        rw [if_pos hj] at this
        have hqe' : sumN (fun i => b1 (g p i)) P.loads.length = P.needs.getD p 0 := hqe
        omega
      · rw [if_neg fun c => e c.1, ← hqe]
        refine sumN_congr _ fun i _ => ?_
        simp [show ¬ q = p from fun c => e c.symm]
  unfold pairV
  rw [hB, hc]
  split <;> simp
theorem pair_bits {a : XP} (hf : a.Fine) {t : List Nat} (ht : t ∈ seqs a.L.length a.N.length) (hok : okL (nf (toP a.s3)) a.s3.1 t = true) {p j : Nat} (hp : p < a.N.length) (hj : j < a.L.length) : (pairV (toP a.s3) p j = 2 → (t.getD p 0).testBit j = true) ∧ (pairV (toP a.s3) p j = 0 → (t.getD p 0).testBit j = false) := by
  have hF := toP_Fit (XP.good hf)
  have hnl : (toP a.s3).needs.length = a.N.length := by simp [toP, XP.s3]
  have hL : (toP a.s3).loads.length = a.L.length := by simp [toP, XP.s3]
  have hs : Seating (toP a.s3) (asg t) := (seat_iff hF (by rw [hL, hnl]; exact ht)).1 hok
  constructor
  · intro h
    cases hb : (t.getD p 0).testBit j with
    | true => rfl
    | false => exact absurd h (pair_must hF hs (by omega) (by omega) hb)
  · intro h
    cases hb : (t.getD p 0).testBit j with
    | false => rfl
    | true => exact absurd h (pair_never hF hs (by omega) (by omega) hb)
end Go.Proofs.Ytbdmmikflkpmpaa
end

section
namespace Go.Proofs.Ytbdmmikflkpmpaa
open Go.RowKit Go.TL Go.Shelf Go.Pn
attribute [local go_sem] Oper.semAt_some
attribute [local go_sem] run_store_func
end Go.Proofs.Ytbdmmikflkpmpaa
end

section
namespace Go.Proofs.Ytbdmmikflkpmpaa
open Go.RowKit Go.TL Go.Shelf Go.Pn
structure Ren (n : Nat) (s i : Nat → Nat) : Prop where
  lt : ∀ k, k < n → s k < n
  ilt : ∀ k, k < n → i k < n
  si : ∀ k, k < n → s (i k) = k
  is : ∀ k, k < n → i (s k) = k
theorem Ren.symm {n : Nat} {s i : Nat → Nat} (h : Ren n s i) : Ren n i s := ⟨h.ilt, h.lt, h.is, h.si⟩
theorem Ren.id (n : Nat) : Ren n (fun k => k) (fun k => k) := ⟨fun _ h => h, fun _ h => h, fun _ _ => rfl, fun _ _ => rfl⟩
theorem sumN_single (a v n : Nat) : sumN (fun k => if k = a then v else 0) n = if a < n then v else 0 := by
  rw [sumN_upd (fun _ => 0) (fun k => if k = a then v else 0) a v n (fun i _ hne => if_neg hne) (fun _ => by rw [if_pos rfl]; omega), sumN_zero]
  omega
theorem Ren.sum {n : Nat} {s i : Nat → Nat} (h : Ren n s i) (f : Nat → Nat) : sumN (fun k => f (s k)) n = sumN f n := by
  have e1 : sumN (fun k => f (s k)) n = sumN (fun k => sumN (fun j => if j = s k then f j else 0) n) n := sumN_congr _ fun k hk => by
    rw [sumN_congr (g := fun j => if j = s k then f (s k) else 0) n fun j _ => ?_, sumN_single, if_pos (h.lt k hk)]
    by_cases e : j = s k
    · rw [if_pos e, if_pos e, e]
    · rw [if_neg e, if_neg e]
  rw [e1, sumN_swap]
  refine sumN_congr _ fun j hj => ?_
  rw [sumN_congr (g := fun k => if k = i j then f j else 0) n fun k hk => ?_, sumN_single, if_pos (h.ilt j hj)]
  by_cases e : j = s k
  · rw [if_pos e, if_pos (by rw [e, h.is k hk])]
  · rw [if_neg e, if_neg (fun c => e (by rw [c, h.si j hj]))]
structure Trd (P Q : Pnl) (s si t ti : Nat → Nat) : Prop where
  jl : Q.loads.length = P.loads.length
  pl : Q.needs.length = P.needs.length
  js : Ren P.loads.length s si
  ps : Ren P.needs.length t ti
  ld : ∀ j, j < P.loads.length → Q.loads.getD (s j) 0 = P.loads.getD j 0
  nd : ∀ p, p < P.needs.length → Q.needs.getD (t p) 0 = P.needs.getD p 0
  ft : ∀ p j, p < P.needs.length → j < P.loads.length → (Q.fit.getD (t p) 0).testBit (s j) = (P.fit.getD p 0).testBit j
section
variable {P Q : Pnl} {s si t ti : Nat → Nat}
theorem Trd.symm (h : Trd P Q s si t ti) : Trd Q P si s ti t := by
  refine ⟨h.jl.symm, h.pl.symm, by rw [h.jl]; exact h.js.symm, by rw [h.pl]; exact h.ps.symm, fun j hj => ?_, fun p hp => ?_, fun p j hp hj => ?_⟩
  · rw [h.jl] at hj
    rw [← h.ld _ (h.js.ilt j hj), h.js.si j hj]
  · rw [h.pl] at hp
    rw [← h.nd _ (h.ps.ilt p hp), h.ps.si p hp]
  · rw [h.jl] at hj
    rw [h.pl] at hp
    rw [← h.ft _ _ (h.ps.ilt p hp) (h.js.ilt j hj), h.ps.si p hp, h.js.si j hj]
theorem Trd.cntJ (h : Trd P Q s si t ti) (a : Asg) (p : Nat) : cntJ (fun p j => a (ti p) (si j)) Q.loads.length p = cntJ a P.loads.length (ti p) := by
  unfold Go.Pn.cntJ
  rw [h.jl]
  exact h.js.symm.sum fun j => b1 (a (ti p) j)
theorem Trd.feas (h : Trd P Q s si t ti) {a : Asg} (ha : Feas P a) : Feas Q fun p j => a (ti p) (si j) := by
  refine ⟨fun p j hp hj hb => ?_, fun j hj => ?_⟩
  · have h2 := h.symm
    rw [h.jl] at hj
    rw [h.pl] at hp
    have := ha.fit _ _ (h.ps.ilt p hp) (h.js.ilt j hj) hb
    rw [← h.ft _ _ (h.ps.ilt p hp) (h.js.ilt j hj), h.ps.si p hp, h.js.si j hj] at this
    exact this
  · rw [h.jl] at hj
    have := ha.load _ (h.js.ilt j hj)
    rw [← h.ld _ (h.js.ilt j hj), h.js.si j hj] at this
    refine Nat.le_trans (Nat.le_of_eq ?_) this
    unfold cntP
    rw [h.pl]
    exact h.ps.symm.sum fun p => b1 (a p (si j))
theorem Trd.all (h : Trd P Q s si t ti) : allN P = allN Q := by
  unfold allN
  rw [h.pl, ← h.ps.sum fun p => Q.needs.getD p 0]
  exact sumN_congr _ fun p hp => (h.nd p hp).symm
theorem Trd.pairF (hP : PFit P) (hQ : PFit Q) (h : Trd P Q s si t ti) {p0 j0 : Nat} (hp0 : p0 < P.needs.length) (hj0 : j0 < P.loads.length) {p j : Nat} (hp : p < P.needs.length) (hj : j < P.loads.length) :
    ((pairF Q (t p0) (s j0)).getD (t p) 0).testBit (s j) = ((pairF P p0 j0).getD p 0).testBit j := by
  have hj6 := hP.ok.j
  have hs6 := h.js.lt j0 hj0
  have l1 := hP.len
  have l2 := hQ.len
  have hq := h.pl
  have ht0 := h.ps.lt p0 hp0
  unfold Proofs.Ytbdmmikflkpmpaa.pairF
  rw [getD_set, getD_set]
  by_cases e : p = p0
  · subst e
    rw [if_pos ⟨rfl, by omega⟩, if_pos ⟨rfl, by omega⟩, clrB_bit _ _ _ (hQ.lt _) (by omega), clrB_bit _ _ _ (hP.lt _) (by omega), h.ft p j hp hj]
    congr 2
    refine decide_eq_decide.2 ⟨fun c => ?_, fun c => by rw [c]⟩
    rw [← h.js.is j0 hj0, c, h.js.is j hj]
  · have e' : t p0 ≠ t p := fun c => e (by rw [← h.ps.is p hp, ← c, h.ps.is p0 hp0])
    rw [if_neg (fun c => e' c.1), if_neg (fun c => e c.1.symm), h.ft p j hp hj]
theorem Ren.set {n : Nat} {s i : Nat → Nat} (h : Ren n s i) {A B : List Nat} (ha : A.length = n) (hb : B.length = n) (he : ∀ k, k < n → B.getD (s k) 0 = A.getD k 0) {k0 v : Nat} (hk0 : k0 < n) {k : Nat} (hk : k < n) : (B.set (s k0) v).getD (s k) 0 = (A.set k0 v).getD k 0 := by
  have := h.lt k0 hk0
  rw [getD_set, getD_set]
  by_cases e : k = k0
  · subst e
    rw [if_pos ⟨rfl, by omega⟩, if_pos ⟨rfl, by omega⟩]
  · have e' : s k0 ≠ s k := fun c => e (by rw [← h.is k hk, ← c, h.is k0 hk0])
    rw [if_neg (fun c => e' c.1), if_neg (fun c => e c.1.symm), he k hk]
end
/-! ### how many seatings -/
end Go.Proofs.Ytbdmmikflkpmpaa
end

section
namespace Go.Proofs.Ytbdmmikflkpmpaa
open Go.RowKit Go.TL Go.Shelf Go.Pn
structure Fr (p : List (Option Value)) (ds : List Deferred) (a : Act) : Prop where
  s : Slots p a.tmps
  d : a.defers = ds
theorem fits_get : ∀ {p : List (Option Value)} {l : List Value} {i : Nat} {v : Value}, Fits p l → p[i]? = some (some v) → l[i]? = some v
  | none :: p, u :: l, 0, v, h, hi => by simp at hi
  | some x :: p, u :: l, 0, v, h, hi => by
    have h1 : u = x := h.1
    have h2 : x = v := by simpa using hi
    simp [h1, h2]
  | none :: p, u :: l, i + 1, v, h, hi => by
    have h1 : Fits p l := h
    simpa using fits_get h1 (by simpa using hi)
  | some x :: p, u :: l, i + 1, v, h, hi => by simpa using fits_get h.2 (by simpa using hi)
  | [], _, i, v, _, hi => by simp at hi
theorem fits_set : ∀ {p : List (Option Value)} {l : List Value} (i : Nat) (v : Value), Fits p l → Fits (p.set i (some v)) (l.set i v)
  | none :: p, u :: l, 0, v, h => ⟨rfl, h⟩
  | some x :: p, u :: l, 0, v, h => ⟨rfl, h.2⟩
  | none :: p, u :: l, i + 1, v, h => by
    have h1 : Fits p l := h
    exact fits_set i v h1
  | some x :: p, u :: l, i + 1, v, h => ⟨h.1, fits_set i v h.2⟩
  | [], [], _, _, h => h
  | [], _ :: _, _, _, h => h.elim
theorem fits_none : ∀ {p : List (Option Value)} {l : List Value} (i : Nat), Fits p l → Fits (p.set i none) l
  | none :: p, u :: l, 0, h => h
  | some x :: p, u :: l, 0, h => h.2
  | none :: p, u :: l, i + 1, h => by
    have h1 : Fits p l := h
    exact fits_none i h1
  | some x :: p, u :: l, i + 1, h => ⟨h.1, fits_none i h.2⟩
  | [], [], _, h => h
  | [], _ :: _, _, h => h.elim
section
variable {p : List (Option Value)} {ds : List Deferred} {a : Act}
theorem Fr.ev (h : Fr p ds a) (i : Nat) {v : Value} (hi : p[i]? = some (some v)) : a.eval (.tmp i) = v := by
  have := fits_get h.s hi
  show a.tmps.getD i undef = v
  rw [Array.getD_eq_getD_getElem?, ← Array.getElem?_toList, this]
  rfl
theorem Fr.gd (h : Fr p ds a) {d : Nat} {b q : Bool} (hd : p[d]? = some (some (.bool (if q then b else !b)))) : gdOk (some (d, b)) a.tmps q := by
  show a.tmps[d]? = _
  rw [← Array.getElem?_toList]
  exact fits_get h.s hd
theorem Fr.put (h : Fr p ds a) (d : Nat) (v : Value) : Fr (p.set d (some v)) ds (a.put (some d) v) := by
  refine ⟨?_, h.d⟩
  show Fits _ (a.tmps.setIfInBounds d v).toList
  rw [Array.toList_setIfInBounds]
  exact fits_set d v h.s
theorem Fr.next {P : Program} {ops : Array Oper} {S : World → Prop} {Q : Exit → Act → World → Prop} {T : Sch} {w : World} (h : Fr p ds a) (d : Nat) (v : Value) (k : ∀ a', Fr (p.set d (some v)) ds a' → seqT P ops S Q T a' w) : seqT P ops S Q T (a.put (some d) v) w := k _ (h.put d v)
theorem Fr.forget (is : List Nat) : ∀ {p : List (Option Value)}, Fr p ds a → Fr (is.foldl (fun p i => p.set i none) p) ds a := by
  induction is with
  | nil => exact fun h => h
  | cons i is ih => exact fun h => ih ⟨fits_none i h.s, h.d⟩
theorem Fr.fin (h : Fr p ds a) (is : List Nat) {q : List (Option Value)} (hq : is.foldl (fun p i => p.set i none) p = q) : Slots q a.tmps := hq ▸ (Fr.forget is h).s
theorem Fr.start {t : Array Value} (h : Slots p t) : Fr p ds { tmps := t, defers := ds } := ⟨h, rfl⟩
theorem Fr.out {Q' : Exit → Act → World → Prop} {W : World} {Q : Array Value → World → Prop} {V : World} (h : Fr p ds a) (hQ : ∀ t W, Keep V W → Q t W → Q' .normal { tmps := t, defers := ds } W) (hK : Keep V W) (hq : Q a.tmps W) : Q' .normal a W := by
  have : a = { tmps := a.tmps, defers := ds } := by rw [← h.d]
  rw [this]
  exact hQ _ _ hK hq
end
end Go.Proofs.Ytbdmmikflkpmpaa
end

section
namespace Go.Proofs.Ytbdmmikflkpmpaa
open Go.RowKit Go.TL Go.Shelf Go.Pn
attribute [local go_sem] Oper.semAt_some
attribute [local go_sem] run_store_func
theorem ldc_at {a : XP} (hf : a.Fine) {W : World} (ha : a.At W) {k : Nat} (hk : k < a.L.length) : ∃ ad, a.AL = some ad ∧ W.cell? (ad.add k) = some (iv (a.s3.1.getD k 0)) := by
  obtain ⟨ad, hA, hc⟩ := row_int ha.l hk
  refine ⟨ad, hA, ?_⟩
  rw [hc]
  have hb := hf.lb _ (List.getElem_mem hk)
  have e : a.s3.1.getD k 0 = (a.L[k]).toNat := by
    show (a.L.map Int.toNat).getD k 0 = _
    rw [List.getD_eq_getElem?_getD, List.getElem?_map, List.getElem?_eq_getElem hk]
    rfl
  rw [e]
  show some (Value.int .i64 _) = some (Value.int .i64 _)
  rw [Int.toNat_of_nonneg hb.1]
theorem ndc_at {a : XP} (hf : a.Fine) {W : World} (ha : a.At W) {k : Nat} (hk : k < a.N.length) : ∃ ad, a.AN = some ad ∧ W.cell? (ad.add k) = some (iv (a.s3.2.1.getD k 0)) := by
  obtain ⟨ad, hA, hc⟩ := row_int ha.n hk
  refine ⟨ad, hA, ?_⟩
  rw [hc]
  have hb := hf.nb _ (List.getElem_mem hk)
  have e : a.s3.2.1.getD k 0 = (a.N[k]).toNat := by
    show (a.N.map Int.toNat).getD k 0 = _
    rw [List.getD_eq_getElem?_getD, List.getElem?_map, List.getElem?_eq_getElem hk]
    rfl
  rw [e]
  show some (Value.int .i64 _) = some (Value.int .i64 _)
  rw [Int.toNat_of_nonneg hb.1]
theorem row_n {W : World} {A : Option Addr} {l : List Nat} (h : RowV W A (l.map iv)) {i : Nat} (hi : i < l.length) : ∃ ad, A = some ad ∧ W.cell? (ad.add i) = some (iv (l.getD i 0)) :=
  h i _ (by rw [List.getElem?_map, List.getElem?_eq_getElem hi, getD_lt hi]; rfl)
/-! ### one more for each who sits -/
theorem map_setv (l : List Nat) (i v : Nat) : (l.map iv).set i (iv v) = (l.set i v).map iv := (List.map_set).symm
structure SeW (w : World) (a : XP) (g : Nat) (D : List Nat) (W : World) : Prop where
  hb : W.heap[w.heap.size]? = some (.cells #[a.sL, a.sN, a.sK] 25 (0, 0))
  hg : W.heap[g]? = some (.cells (D.map iv).toArray 3 (0, 0))
  below : Below w.heap.size w W
  lt : w.heap.size < g
theorem SeW.keep {w : World} {a : XP} {g : Nat} {D : List Nat} {W W' : World} (h : SeW w a g D W) (hb : Below W.heap.size W W') : SeW w a g D W' := ⟨(hb.block _ (heap_lt h.hb)).trans h.hb, (hb.block _ (heap_lt h.hg)).trans h.hg, h.below.trans (hb.mono h.below.size), h.lt⟩
theorem SeW.px {w : World} {a : XP} {g : Nat} {D : List Nat} {W : World} (h : SeW w a g D W) (ha : a.At w) : PBx W w.heap.size a := ⟨h.hb, ha.below h.below⟩
theorem SeW.set {w : World} {a : XP} {g : Nat} {D : List Nat} {W : World} (h : SeW w a g D W) (k v : Nat) : SeW w a g (D.set k v) (W.setCell ⟨g, k, none⟩ (iv v)) where
  hb := box_far _ _ _ _ _ _ h.hb (by have := h.lt; omega)
  hg := by
    rw [← map_setv]
    exact box_set W g k _ 3 _ h.hg
  below := h.below.setCell (Nat.le_of_lt h.lt) _
  lt := h.lt
def okJ (a : XP) (i : Nat) (D : List Nat) (s k : Nat) : Prop := ∀ j, j < k → s.testBit j = true → kinB a j i = false ∧ D.getD j 0 + 1 ≤ a.s3.1.getD j 0
end Go.Proofs.Ytbdmmikflkpmpaa
end

section
namespace Go.Proofs.Ytbdmmikflkpmpaa
open Go.RowKit Go.TL Go.Shelf Go.Pn
attribute [local go_sem] Oper.semAt_some
attribute [local go_sem] run_store_func
theorem fit_kin {a : XP} (hf : a.Fine) {i j : Nat} (hi : i < a.N.length) (hj : j < a.L.length) : ((toP a.s3).fit.getD i 0).testBit j = !kinB a j i := by
  have hg := XP.good hf
  have hN : a.s3.2.1.length = a.N.length := by simp [XP.s3]
  have hL : a.s3.1.length = a.L.length := by simp [XP.s3]
  show ((kinF (List.replicate a.s3.2.1.length (2 ^ a.s3.1.length - 1)) a.s3.2.2).getD i 0).testBit j = _
  rw [kinF_bit _ _ (fun k hk => by have := hg.k1 k hk; have := hg.j; omega) (fun q => rep_lt (two_lt hg.j) q) i j (by rw [List.length_replicate, hN]; exact hi)]
  have e1 : ((List.replicate a.s3.2.1.length (2 ^ a.s3.1.length - 1)).getD i 0).testBit j = true := by
    rw [List.getD_eq_getElem?_getD, List.getElem?_replicate, if_pos (by rw [hN]; exact hi)]
    show (2 ^ a.s3.1.length - 1).testBit j = true
    rw [Nat.testBit_two_pow_sub_one, hL, decide_eq_true hj]
  rw [e1, Bool.true_and]
  congr 1
  unfold kinB
  rw [Bool.eq_iff_iff, decide_eq_true_iff, List.any_eq_true]
  constructor
  · intro h
    obtain ⟨k, hk, e⟩ := List.mem_map.1 (show (j, i) ∈ a.K.map fun k => (k.1.toNat, k.2.toNat) from h)
    have := hf.kb k hk
    simp only [Prod.mk.injEq] at e
    refine ⟨k, hk, ?_⟩
    rw [decide_eq_true (by omega), decide_eq_true (by omega)]
    rfl
  · rintro ⟨k, hk, e⟩
    rw [Bool.and_eq_true, decide_eq_true_iff, decide_eq_true_iff] at e
    refine List.mem_map.2 ⟨k, hk, ?_⟩
    rw [e.1, e.2]
    rfl
theorem busyL_snoc (j s : Nat) : ∀ l : List Nat, busyL (l ++ [s]) j = busyL l j + b1 (s.testBit j)
  | [] => by show (if s.testBit j then 1 else 0) + 0 = 0 + b1 _; unfold b1; omega
  | x :: r => by
    show (if x.testBit j then 1 else 0) + busyL (r ++ [s]) j = (if x.testBit j then 1 else 0) + busyL r j + _
    rw [busyL_snoc j s r]
    omega
theorem busyL_take (j : Nat) {l : List Nat} {i : Nat} (hi : i < l.length) : busyL (l.take (i + 1)) j = busyL (l.take i) j + b1 ((l.getD i 0).testBit j) := by
  rw [List.take_succ_eq_append_getElem hi, busyL_snoc, getD_lt hi]
theorem busyL_le (j : Nat) (l : List Nat) : ∀ i, i ≤ l.length → busyL (l.take i) j ≤ i
  | 0, _ => Nat.le_refl _
  | i + 1, h => by
    have := busyL_le j l i (by omega)
    rw [busyL_take j (by omega)]
    unfold b1
    split <;> omega
theorem busyL_mono (j : Nat) (l : List Nat) (i : Nat) : ∀ k, i + k ≤ l.length → busyL (l.take i) j ≤ busyL (l.take (i + k)) j
  | 0, _ => Nat.le_refl _
  | k + 1, h => by
    have := busyL_mono j l i k (by omega)
    have e := busyL_take j (l := l) (i := i + k) (by omega)
    rw [show i + (k + 1) = i + k + 1 by omega, e]
    omega
def bzL (a : XP) (l : List Nat) (i : Nat) : List Nat := (List.range a.L.length).map fun j => busyL (l.take i) j
theorem bzL_getD {a : XP} {l : List Nat} {i j : Nat} (hj : j < a.L.length) : (bzL a l i).getD j 0 = busyL (l.take i) j := by
  unfold bzL
  rw [List.getD_eq_getElem?_getD, List.getElem?_map, List.getElem?_range hj]
  rfl
def okT (a : XP) (l : List Nat) (i : Nat) : Prop := (∀ p, p < i → okS ((toP a.s3).needs.getD p 0) ((toP a.s3).fit.getD p 0) (l.getD p 0) = true) ∧ ∀ j, j < a.L.length → busyL (l.take i) j ≤ a.s3.1.getD j 0
theorem okT_step {a : XP} (hf : a.Fine) {l : List Nat} {i : Nat} (hi : i < a.N.length) (hl : l.length = a.N.length) (hlt : l.getD i 0 < 2 ^ a.L.length) (h : okT a l i) (hp : pop (l.getD i 0) = a.s3.2.1.getD i 0) (hj : okJ a i (bzL a l i) (l.getD i 0) a.L.length) : okT a l (i + 1) := by
  have hF := toP_Fit (XP.good hf)
  have hj6 := hf.j
  refine ⟨fun p hp' => ?_, fun j hj' => ?_⟩
  · by_cases e : p = i
    · subst e
      refine (okS_iff hj6 hlt (hF.lt p)).2 ⟨?_, fun j hj' hb => ?_⟩
      · rw [← pop_n hlt (by omega), hp]
        rfl
      · rw [fit_kin hf hi hj', (hj j hj' hb).1]
        rfl
    · exact h.1 p (by omega)
  · rw [busyL_take j (by omega)]
    cases hb : (l.getD i 0).testBit j with
    | false => exact h.2 j hj'
    | true =>
      have := (hj j hj' hb).2
      rw [bzL_getD hj'] at this
      exact this
theorem okT_end {a : XP} (hf : a.Fine) {l : List Nat} (hl : l ∈ seqs a.L.length a.N.length) (h : okT a l a.N.length) : okL (nf (toP a.s3)) a.s3.1 l = true := by
  have hF := toP_Fit (XP.good hf)
  have hnl : (toP a.s3).needs.length = a.N.length := by simp [toP, XP.s3]
  obtain ⟨h1, h2⟩ := (mem_seqs _ _ _).1 hl
  refine (okL_iff _ _ _).2 ⟨by rw [nf_len hF, hnl]; exact h1, fun i x s hx hs => ?_, fun j hj => ?_⟩
  · have hi : i < a.N.length := by
      have := (List.getElem?_eq_some_iff.1 hs).1
      omega
    rw [nf_get hF (by omega)] at hx
    cases hx
    have := h.1 i hi
    rw [List.getD_eq_getElem?_getD, List.getD_eq_getElem?_getD, List.getD_eq_getElem?_getD, hs] at this
    rw [List.getD_eq_getElem?_getD, List.getD_eq_getElem?_getD]
    exact this
  · by_cases hj' : j < a.L.length
    · have := h.2 j hj'
      rw [← h1, List.take_length] at this
      exact this
    · have : busyL l j = 0 := by
        rw [busy_sum]
        refine (sumN_congr _ fun p hp => ?_).trans (sumN_zero _)
        cases hb : (l.getD p 0).testBit j with
        | false => rfl
        | true =>
          have := bit_lt (h2 _ (mem_getD hp)) hb
          omega
      omega
theorem okT_bad {a : XP} (hf : a.Fine) {l : List Nat} (hl : l ∈ seqs a.L.length a.N.length) {i : Nat} (hi : i < a.N.length) (hbad : pop (l.getD i 0) ≠ a.s3.2.1.getD i 0 ∨ ¬ okJ a i (bzL a l i) (l.getD i 0) a.L.length) : okL (nf (toP a.s3)) a.s3.1 l = false := by
  have hF := toP_Fit (XP.good hf)
  have hnl : (toP a.s3).needs.length = a.N.length := by simp [toP, XP.s3]
  have hj6 := hf.j
  obtain ⟨h1, h2⟩ := (mem_seqs _ _ _).1 hl
  cases hR : okL (nf (toP a.s3)) a.s3.1 l with
  | false => rfl
  | true =>
    exfalso
    obtain ⟨_, h4, h5⟩ := (okL_iff _ _ _).1 hR
    have hil : i < l.length := by omega
    have hlt := h2 _ (mem_getD hil)
    have hok := h4 i _ _ (nf_get hF (by omega)) (List.getElem?_eq_getElem hil)
    rw [← getD_lt hil] at hok
    have hok' := (okS_iff hj6 hlt (hF.lt i)).1 hok
    refine hbad.elim (fun h => h ?_) (fun h => h fun j hj hb => ⟨?_, ?_⟩)
    · rw [pop_n hlt (by omega), hok'.1]
      rfl
    · have := hok'.2 j hj hb
      rw [fit_kin hf hi hj] at this
      simpa using this
    · rw [bzL_getD hj]
      have e := busyL_take j hil
      rw [hb] at e
      have hm := busyL_mono j l (i + 1) (l.length - (i + 1)) (by omega)
      rw [show i + 1 + (l.length - (i + 1)) = l.length by omega, List.take_length] at hm
      have := h5 j (by omega)
      have e2 : b1 true = 1 := rfl
      omega
end Go.Proofs.Ytbdmmikflkpmpaa
end

section
namespace Go.Proofs.Ytbdmmikflkpmpaa
open Go.RowKit Go.TL Go.Shelf Go.Pn
theorem int_beq (m n : Nat) : ((m : Int) == (n : Int)) = decide (m = n) := by
  rw [Bool.eq_iff_iff]
  simp [Int.ofNat_inj]
def fitJ (a : XP) (l : List Nat) (n s j : Nat) : Bool := !s.testBit j || (!kinB a j n && decide (busyL l j + 1 ≤ a.s3.1.getD j 0))
def fitsF (a : XP) (l : List Nat) (n s : Nat) : Bool := ((List.range a.L.length).all (fitJ a l n s)) && decide (pop s = a.s3.2.1.getD n 0)
def r13_0t : It := ⟨(Op.move (Operand.tmp 3)), some 50, 3, true, none⟩
def r13_2t : It := ⟨(Op.fieldAddr 25 (Operand.tmp 4) 1), some 52, 0, true, none⟩
def r13_3t : It := ⟨(Op.load 22 (Operand.tmp 52)), some 53, 22, true, none⟩
def r13_4t : It := ⟨(Op.move (Operand.tmp 2)), some 54, 3, true, none⟩
def r13_5t : It := ⟨(Op.indexAddr 22 (Operand.tmp 53) (Operand.tmp 54)), some 55, 0, true, none⟩
def r13_6t : It := ⟨(Op.load 3 (Operand.tmp 55)), some 56, 3, true, none⟩
def r13_1 : It := ⟨(Op.call { callee := (Callee.value (Operand.func 30)), args := #[(Operand.tmp 50)], argTypes := #[3] }), some 51, 3, false, none⟩
def r13_7 : It := ⟨(Op.binOp BinOp.eql 3 (Operand.tmp 51) (Operand.tmp 56) 3), some 57, 4, false, none⟩
def r13_8 : It := ⟨(Op.assign (Operand.tmp 57)), some 8, 4, false, none⟩
set_option maxRecDepth 100000 in
set_option maxHeartbeats 4000000 in
theorem fit_r13 {w W : World} {a : XP} {A : Option Addr} {l : List Nat} {b c n s nv : Nat} {ad : Addr} {q : Bool} (hs : s < 1024) (hn : n < a.N.length) (hA : a.AN = some ad) (hck : ∀ Y, Below w.heap.size w Y → Y.cell? (ad.add n) = some (iv nv)) (hqv : decide (pop s = nv) = q) (hT : Tr w W W [(b, .cells #[a.sL, a.sN, a.sK] 25 (0, 0))]) {t : Array Value} (hSl : Slots (none :: some (.slice A l.length c) :: some (iv n) :: some (iv s) :: some (.pointer (some ⟨b, 0, none⟩)) :: none :: o4 (o16 (o16 (o16 [])))) t) :
    Exec Try.prog none (sub (Try.f111.body.getD .skip) [1, 1, 0]) t W (andThen (fun t' W' => Below W.heap.size W W' ∧ Slots (none :: some (.slice A l.length c) :: some (iv n) :: some (iv s) :: some (.pointer (some ⟨b, 0, none⟩)) :: none :: none :: none :: some (.bool q) :: none :: o16 (o16 (o16 []))) t') fun _ _ _ => False) := by
  have hu25 := Try.underlying25
  have hu22 := Try.underlying22
  have hnI : (n : Int) < a.N.length := by omega
  have hqi : (((pop s : Nat) : Int) == ((nv : Nat) : Int)) = q := by rw [← hqv, int_beq]
  have hbw : Below W.heap.size W W.drew := (Below.refl _ W).drew
  have hT0 := hT.again.drew
  refine region_tree (c := (sub (Try.f111.body.getD .skip) [1, 1, 0])) (id := 13) (.one 0 true (.one 2 true (.one 3 true (.one 4 true (.one 5 true (.one 6 true (.one 1 false (.one 7 false (.one 8 false (.nil)))))))))) (Opq (regOps (sub (Try.f111.body.getD .skip) [1, 1, 0]))) rfl (by kernel_rfl) (by kernel_rfl) (by kernel_rfl) (by kernel_rfl) (by kernel_rfl) (by kernel_rfl) [0, 1, 0, 4, 0, 24, 32, 66, 255] (by kernel_rfl) (by kernel_rfl) (fun W' => W'.cell? ⟨b, 1, none⟩ = some (a.sN) ∧ W'.cell? (ad.add n) = some (iv nv)) (fun _ _ _ => False) (fun _ _ _ h => h.elim) (fun _ _ _ _ _ _ _ _ h => h.elim) fun ds Q' hQn hQp => ?_
  have F0 : Fr (none :: some (.slice A l.length c) :: some (iv n) :: some (iv s) :: some (.pointer (some ⟨b, 0, none⟩)) :: none :: o4 (o16 (o16 (o16 [])))) ds { tmps := t, defers := ds } := Fr.start hSl
  clear hSl
  generalize ({ tmps := t, defers := ds } : Act) = a0 at *
  generalize W.drew = X0 at *
  refine tr_take r13_0t (iv s) (by kernel_rfl) rfl rfl (fun wq hq => ?_) ⟨hT0.cell 0 rfl rfl, (hck _ hT0.below)⟩ ?_; (focus (have e3 : a0.eval (.tmp 3) = (iv s) := F0.ev 3 (by kernel_rfl); generalize a0.eval = ev at e3 ⊢; simp [go_sem, mkO, r13_0t, e3]; done))
  refine F0.next 50 (iv s) fun a1 F1 => ?_
  clear F0
  refine tr_take r13_2t (.pointer (some ⟨b, 1, none⟩)) (by kernel_rfl) rfl rfl (fun wq hq => ?_) ⟨hT0.cell 0 rfl rfl, (hck _ hT0.below)⟩ ?_; (focus (have e4 : a1.eval (.tmp 4) = (.pointer (some ⟨b, 0, none⟩)) := F1.ev 4 (by kernel_rfl); generalize a1.eval = ev at e4 ⊢; simp [go_sem, mkO, r13_2t, e4, hu25]; done))
  refine F1.next 52 (.pointer (some ⟨b, 1, none⟩)) fun a2 F2 => ?_
  clear F1 a1
  refine tr_take r13_3t (.slice (some ad) a.N.length a.cN) (by kernel_rfl) rfl rfl (fun wq hq => ?_) ⟨hT0.cell 0 rfl rfl, (hck _ hT0.below)⟩ ?_; (focus (have e52 : a2.eval (.tmp 52) = (.pointer (some ⟨b, 1, none⟩)) := F2.ev 52 (by kernel_rfl); generalize a2.eval = ev at e52 ⊢; simp [go_sem, mkO, r13_3t, e52, hq.1, XP.sN, hA]; done))
  refine F2.next 53 (.slice (some ad) a.N.length a.cN) fun a3 F3 => ?_
  clear F2 a2
  refine tr_take r13_4t (iv n) (by kernel_rfl) rfl rfl (fun wq hq => ?_) ⟨hT0.cell 0 rfl rfl, (hck _ hT0.below)⟩ ?_; (focus (have e2 : a3.eval (.tmp 2) = (iv n) := F3.ev 2 (by kernel_rfl); generalize a3.eval = ev at e2 ⊢; simp [go_sem, mkO, r13_4t, e2]; done))
  refine F3.next 54 (iv n) fun a4 F4 => ?_
  clear F3 a3
  refine tr_take r13_5t (.pointer (some (ad.add n))) (by kernel_rfl) rfl rfl (fun wq hq => ?_) ⟨hT0.cell 0 rfl rfl, (hck _ hT0.below)⟩ ?_; (focus (have e53 : a4.eval (.tmp 53) = (.slice (some ad) a.N.length a.cN) := F4.ev 53 (by kernel_rfl); have e54 : a4.eval (.tmp 54) = (iv n) := F4.ev 54 (by kernel_rfl); generalize a4.eval = ev at e53 e54 ⊢; simp [go_sem, mkO, r13_5t, e53, e54, hu22, hnI]; done))
  refine F4.next 55 (.pointer (some (ad.add n))) fun a5 F5 => ?_
  clear F4 a4
  refine tr_take r13_6t (iv nv) (by kernel_rfl) rfl rfl (fun wq hq => ?_) ⟨hT0.cell 0 rfl rfl, (hck _ hT0.below)⟩ ?_; (focus (have e55 : a5.eval (.tmp 55) = (.pointer (some (ad.add n))) := F5.ev 55 (by kernel_rfl); generalize a5.eval = ev at e55 ⊢; simp [go_sem, mkO, r13_6t, e55, hq.2]; done))
  refine F5.next 56 (iv nv) fun a6 F6 => ?_
  clear F5 a5
  refine tr_call r13_1 (f := 30) (args := #[iv s]) (by kernel_rfl) rfl rfl ?_ ?_
  · (have e50 : a6.eval (.tmp 50) = (iv s) := F6.ev 50 (by kernel_rfl); have ef : ∀ f, a6.eval (.func f) = .func (.func f) #[] #[] := fun _ => rfl; generalize a6.eval = ev at e50 ef ⊢; simp [go_sem, mkO, r13_1, ef, e50]; done)
  refine (size30 s hs X0).mono ?_
  rintro e X1 ⟨rfl, hy⟩
  have hT1 := hT0.step hy
  replace hbw := hbw.trans (hy.mono hbw.size)
  refine .inl ⟨_, rfl, ⟨hT1.cell 0 rfl rfl, (hck _ hT1.below)⟩, ?_⟩
  clear hy hT0
  clear X0
  refine F6.next 51 (iv (pop s)) fun a7 F7 => ?_
  clear F6 a6
  refine tr_make r13_7 (.bool q) _ (by kernel_rfl) rfl rfl ?_ ⟨hT1.cell 0 rfl rfl, (hck _ hT1.below)⟩ ?_; (focus (have hq := (show (fun W' : World => W'.cell? ⟨b, 1, none⟩ = some (a.sN) ∧ W'.cell? (ad.add n) = some (iv nv)) X1 from ⟨hT1.cell 0 rfl rfl, (hck _ hT1.below)⟩); have e51 : a7.eval (.tmp 51) = (iv (pop s)) := F7.ev 51 (by kernel_rfl); have e56 : a7.eval (.tmp 56) = (iv nv) := F7.ev 56 (by kernel_rfl); generalize a7.eval = ev at e51 e56 ⊢; simp [go_sem, mkO, r13_7, e51, e56, hqi]; done))
  refine F7.next 57 (.bool q) fun a8 F8 => ?_
  clear F7 a7
  refine tr_make r13_8 (.bool q) _ (by kernel_rfl) rfl rfl ?_ ⟨hT1.cell 0 rfl rfl, (hck _ hT1.below)⟩ ?_; (focus (have hq := (show (fun W' : World => W'.cell? ⟨b, 1, none⟩ = some (a.sN) ∧ W'.cell? (ad.add n) = some (iv nv)) X1 from ⟨hT1.cell 0 rfl rfl, (hck _ hT1.below)⟩); have e57 : a8.eval (.tmp 57) = (.bool q) := F8.ev 57 (by kernel_rfl); generalize a8.eval = ev at e57 ⊢; simp [go_sem, mkO, r13_8, e57]; done))
  refine F8.next 8 (.bool q) fun a9 F9 => ?_
  clear F8 a8
  exact F9.out hQn hT1.keep ⟨hbw, (F9.fin [50, 51, 52, 53, 54, 55, 56, 57] (by kernel_rfl))⟩
def FiI (w : World) (a : XP) (A : Option Addr) (l : List Nat) (c n s j : Nat) (W : World) (m : Nat) (t : Array Value) (Y : World) : Prop :=
  ∃ i : Nat, i ≤ l.length ∧ m = l.length - i ∧ Below W.heap.size W Y ∧ Slots (none :: some (.slice A l.length c) :: some (iv n) :: some (iv s) :: some (.pointer (some ⟨w.heap.size, 0, none⟩)) :: o4 (some (iv j) :: some (iv (busyL (l.take i) j + 1)) :: some (iv i) :: none :: none :: o4 (o4 (o4 (o16 (o16 [])))))) t
set_option maxRecDepth 100000 in
set_option maxHeartbeats 2000000 in
theorem fit_busy {w W : World} {a : XP} {A : Option Addr} {l : List Nat} {c n s j : Nat} (hl : l.length ≤ 6) (hlt : ∀ x ∈ l, x < 1024) (hj : j ≤ 40) (hr : RowV W A (l.map iv)) {t : Array Value} (hSl : Slots (none :: some (.slice A l.length c) :: some (iv n) :: some (iv s) :: some (.pointer (some ⟨w.heap.size, 0, none⟩)) :: o4 (some (iv j) :: some (iv 1) :: none :: none :: none :: o4 (o4 (o4 (o16 (o16 [])))))) t) :
    Exec Try.prog none (sub (Try.f111.body.getD .skip) [1, 0, 1, 0, 0, 1, 0, 0, 1, 1, 0]) t W (andThen (fun t' Y => Below W.heap.size W Y ∧ Slots (none :: some (.slice A l.length c) :: some (iv n) :: some (iv s) :: some (.pointer (some ⟨w.heap.size, 0, none⟩)) :: o4 (some (iv j) :: some (iv (busyL l j + 1)) :: none :: none :: none :: o4 (o4 (o4 (o16 (o16 [])))))) t') fun _ _ _ => False) := by
  have hu22 := Try.underlying22
  obtain ⟨x, hx⟩ := Slots.open_ hSl; simp only [fill, Nat.reduceAdd] at hx; subst hx; clear hSl
  show Exec _ _ (Code.seq _ (Code.block _ _)) _ _ _
  refine exec_seq (exec_region_o fun ds => ?_)
  gi_wp2
  refine eq_mk (Keep.refl _) ?_
  show Exec _ _ (Code.block _ _) _ _ _
  refine exec_block ?_
  refine exec_loop (FiI w a A l c n s j W) l.length ⟨0, by omega, rfl, Below.refl _ _, by simp [Slots, Fits, busyL]⟩ ?_
  clear x
  rintro m t Y ⟨i, hi, hm, hB, hSl⟩
  have HN := Lib.hid hm
  clear hm
  have hbl := busyL_le j l i hi
  have hbt := fun h : i < l.length => busyL_take j h
  have hbe : i = l.length → busyL (l.take i) j = busyL l j := fun e => by rw [e, List.take_length]
  obtain ⟨v, hv⟩ : ∃ v, busyL (l.take i) j = v := ⟨_, rfl⟩
  rw [hv] at hSl hbl hbt hbe
  clear hv
  obtain ⟨x, hx⟩ := Slots.open_ hSl; simp only [fill, Nat.reduceAdd] at hx; subst hx; clear hSl
  show Exec _ _ (Code.seq (Code.seq _ _) (Code.seq _ _)) _ _ _
  refine exec_seq (exec_seq (exec_region_o fun ds => ?_))
  gi_wp2
  refine eq_mk (Keep.refl _) ?_
  show Exec _ _ (Code.cond _ _ _) _ _ _
  refine exec_cond (b := decide (i < l.length)) (by first | rfl | (show Value.bool _ = _; congr 1; exact decide_eq_decide.2 (by omega))) (fun hp => exec_skip ?_) (fun hp => exec_exit ?_)
  · have hil : i < l.length := by have := of_decide_eq_true hp; omega
    have hiI : (i : Int) < l.length := by omega
    obtain ⟨ad, hA, hcl⟩ := row_n (hr.below hB) hil
    have hx : l.getD i 0 < 1024 := by
      rw [getD_lt hil]
      exact hlt _ (List.getElem_mem _)
    have hbt' := hbt hil
    obtain ⟨q, hq⟩ : ∃ q, l.getD i 0 = q := ⟨_, rfl⟩
    rw [hq] at hcl hx hbt'
    clear hq hbt hbe
    subst hA
    show Exec _ _ (Code.seq (Code.block _ _) _) _ _ _
    have hcall := has71 q j (by omega) hj Y
    refine exec_cut (fun t' Z => Below W.heap.size W Z ∧ Slots (none :: some (.slice (some ad) l.length c) :: some (iv n) :: some (iv s) :: some (.pointer (some ⟨w.heap.size, 0, none⟩)) :: o4 (some (iv j) :: some (iv (busyL (l.take (i + 1)) j + 1)) :: some (iv i) :: none :: none :: o4 (o4 (o4 (o16 (o16 [])))))) t') (exec_block ?_) ?_
    · rw [hbt']
      have HB := Lib.hid hbt'
      clear hbt'
      show Exec _ _ (Code.seq _ (Code.cond _ _ _)) _ _ _
      refine exec_seq (exec_region_o fun ds => ?_)
      gi_wp2_with fail
      refine ⟨trivial, rfl, (callsIn_wide.2 hcall).mono ?_⟩
      rintro e Z ⟨rfl, hz⟩
      have hBZ := hB.trans (hz.mono hB.size)
      have hK := Keep.of_below hz
      clear hcall hz hcl
      gi_wp2
      refine eq_mk hK ?_
      show Exec _ _ (Code.cond _ _ _) _ _ _
      refine exec_cond (b := q.testBit j) rfl (fun hp => ?_) (fun hp => exec_skip ?_)
      · rw [hp]
        simp only [b1, if_true]
        have hw : IntKind.i64.wrap (((v + 1 : Nat) : Int) + 1) = ((v + 1 + 1 : Nat) : Int) := by rw [IntWalk.i64_in _ (by omega)]; norm_cast
        obtain ⟨v1, hv1⟩ : ∃ v1, v + 1 = v1 := ⟨_, rfl⟩
        rw [hv1] at hw ⊢
        refine exec_region_o fun ds => ?_
        gi_wp2
        exact eq_mk (Keep.refl _) ⟨hBZ, by simp [Slots, Fits]⟩
      · rw [hp]
        exact ⟨hBZ, by simp [Slots, Fits, b1]⟩
    · clear hB x hcl hcall hbt'
      clear Y
      rintro t' Y ⟨hB, hSl⟩
      have hend : ∀ t, Slots (none :: some (.slice (some ad) l.length c) :: some (iv n) :: some (iv s) :: some (.pointer (some ⟨w.heap.size, 0, none⟩)) :: o4 (some (iv j) :: some (iv (busyL (l.take (i + 1)) j + 1)) :: some (iv (i + 1)) :: none :: none :: o4 (o4 (o4 (o16 (o16 [])))))) t → ∃ m', m' < m ∧ FiI w a (some ad) l c n s j W m' t Y := fun t hS => ⟨m - 1, by rw [HN.out]; omega, i + 1, by omega, by rw [HN.out]; omega, hB, hS⟩
      generalize busyL (l.take (i + 1)) j + 1 = v2 at *
      obtain ⟨x, hx⟩ := Slots.open_ hSl; simp only [fill, Nat.reduceAdd] at hx; subst hx; clear hSl
      have hw : IntKind.i64.wrap ((i : Int) + 1) = ((i + 1 : Nat) : Int) := by rw [IntWalk.i64_in _ (by omega)]; norm_cast
      refine exec_region_o fun ds => ?_
      gi_wp2
      exact eq_mk (Keep.refl _) (hend _ (by simp only [Slots, Fits, and_self]; simp))
  · have hk2 : i = l.length := by have := of_decide_eq_false hp; omega
    rw [hbe hk2]
    exact ⟨hB, by simp [Slots, Fits]⟩
theorem fits_no {a : XP} {l : List Nat} {n s j : Nat} (hj : j < a.L.length) (h : fitJ a l n s j = false) : fitsF a l n s = false := by
  unfold fitsF
  rw [Bool.and_eq_false_iff]
  left
  rw [List.all_eq_false]
  exact ⟨j, List.mem_range.2 hj, by rw [h]; simp⟩
theorem fits_yes {a : XP} {l : List Nat} {n s : Nat} (h : ∀ i, i < a.L.length → fitJ a l n s i = true) : fitsF a l n s = decide (pop s = a.s3.2.1.getD n 0) := by
  unfold fitsF
  rw [List.all_eq_true.2 fun i hi => h i (List.mem_range.1 hi), Bool.true_and]
def FoI (w : World) (a : XP) (A : Option Addr) (l : List Nat) (c n s : Nat) (m : Nat) (t : Array Value) (W : World) : Prop :=
  ∃ j : Nat, j ≤ a.L.length ∧ m = a.L.length - j ∧ (∀ i, i < j → fitJ a l n s i = true) ∧ PBx W w.heap.size a ∧ Below w.heap.size w W ∧ Slots (none :: some (.slice A l.length c) :: some (iv n) :: some (iv s) :: some (.pointer (some ⟨w.heap.size, 0, none⟩)) :: o4 (some (iv j) :: o16 (o16 (o16 [])))) t
set_option maxRecDepth 100000 in
set_option maxHeartbeats 2000000 in
theorem fits111 (a : XP) (hf : a.Fine) (l : List Nat) (hl : l.length ≤ 6) (hlt : ∀ x ∈ l, x < 1024) (A : Option Addr) (c n s : Nat) (hn : n < a.N.length) (hs : s < 1024) (w : World) (ha : a.At w) (hr : RowV w A (l.map iv)) : Calls Try.prog 111 #[a.val, .slice A l.length c, iv n, iv s] w fun e w' => e = .returned (.bool (fitsF a l n s)) ∧ Below w.heap.size w w' := by
  have hu25 := Try.underlying25
  have hu22 := Try.underlying22
  have hj6 := hf.j
  obtain ⟨R, hR⟩ : ∃ R, fitsF a l n s = R := ⟨_, rfl⟩
  rw [hR]
  have HR := Lib.hid hR
  clear hR
  refine calls_of_exec Try.func111 rfl ?_
  simp only [Try.ntmps111, List.size_toArray, List.length_cons, List.length_nil, Nat.reduceAdd, Nat.reduceSub, Array.replicate_succ, Array.replicate_zero, List.push_toArray, List.append_toArray, List.nil_append, List.cons_append]
  simp only [XP.val]
  refine exec_seq (exec_region_o fun ds => ?_)
  gi_wp2
  refine eq_mk ((Keep.refl w).alloc _) ?_
  show Exec _ _ (Code.seq (Code.seq _ _) _) _ (w.alloc (.cells #[a.sL, a.sN, a.sK] 25)) _
  have hB := (Below.refl w.heap.size w).alloc (Nat.le_refl _) (.cells #[a.sL, a.sN, a.sK] 25)
  have hX : PBx (w.alloc (.cells #[a.sL, a.sN, a.sK] 25)) w.heap.size a := ⟨World.alloc_heap_new _ _, ha.below hB⟩
  generalize w.alloc (.cells #[a.sL, a.sN, a.sK] 25) = X at *
  refine exec_seq (exec_seq (exec_region_o fun ds => ?_))
  gi_wp2
  refine eq_mk (Keep.refl _) ?_
  show Exec _ _ (Code.block _ _) _ _ _
  refine exec_block ?_
  refine exec_loop (FoI w a A l c n s) a.L.length ⟨0, by omega, rfl, fun i hi => absurd hi (Nat.not_lt_zero _), hX, hB, by simp [Slots, Fits]⟩ ?_
  clear hX hB
  clear X
  rintro m t W ⟨j, hj, hm, hall, hX, hV, hSl⟩
  have HN := Lib.hid hm
  have HA := Lib.hid hall
  clear hm hall
  obtain ⟨x, hx⟩ := Slots.open_ hSl; simp only [fill, Nat.reduceAdd] at hx; subst hx; clear hSl
  have hh := hX.heap
  simp only [XP.sL] at hh
  have c0 := cells_get (cs := [_, _, _]) (k := 0) hh rfl
  clear hh
  show Exec _ _ (Code.seq (Code.seq _ _) (Code.seq _ _)) _ _ _
  refine exec_seq (exec_seq (exec_region_o fun ds => ?_))
  gi_wp2
  refine eq_mk (Keep.refl _) ?_
  show Exec _ _ (Code.cond _ _ _) _ _ _
  clear c0
  refine exec_cond (b := decide (j < a.L.length)) (by first | rfl | (show Value.bool _ = _; congr 1; exact decide_eq_decide.2 (by omega))) (fun hp => exec_skip ?_) (fun hp => exec_exit ?_)
  · have hjl : j < a.L.length := by have := of_decide_eq_true hp; omega
    have hjI : (j : Int) < a.L.length := by omega
    show Exec _ _ (Code.seq (Code.block _ _) _) _ _ _
    refine exec_seq (exec_block ?_)
    have hnext : ∀ Y, PBx Y w.heap.size a → Below w.heap.size w Y → fitJ a l n s j = true → ∀ t, Slots (none :: some (.slice A l.length c) :: some (iv n) :: some (iv s) :: some (.pointer (some ⟨w.heap.size, 0, none⟩)) :: o4 (some (iv j) :: o16 (o16 (o16 [])))) t → Exec Try.prog none (sub (Try.f111.body.getD .skip) [1, 0, 1, 0, 0, 1, 1]) t Y (andThen (fun t Y => ∃ m', m' < m ∧ FoI w a A l c n s m' t Y) fun _ _ _ => False) := by
      intro Y hY hB hfj t hS
      have hend : ∀ t, Slots (none :: some (.slice A l.length c) :: some (iv n) :: some (iv s) :: some (.pointer (some ⟨w.heap.size, 0, none⟩)) :: o4 (some (iv (j + 1)) :: o16 (o16 (o16 [])))) t → ∃ m', m' < m ∧ FoI w a A l c n s m' t Y := fun t hS => ⟨m - 1, by rw [HN.out]; omega, j + 1, by omega, by rw [HN.out]; omega, fun i hi => by
        rcases Nat.lt_or_ge i j with h | h
        · exact HA.out i h
        · rw [show i = j by omega]; exact hfj, hY, hB, hS⟩
      obtain ⟨y, hy⟩ := Slots.open_ hS; simp only [fill, Nat.reduceAdd] at hy; subst hy; clear hS
      have hw : IntKind.i64.wrap ((j : Int) + 1) = ((j + 1 : Nat) : Int) := by rw [IntWalk.i64_in _ (by omega)]; norm_cast
      show Exec _ _ (Code.region _ _ _) _ _ _
      refine exec_region_o fun ds => ?_
      gi_wp2
      exact eq_mk (Keep.refl _) (hend _ (by simp only [Slots, Fits, and_self]; simp))
    have HX := Lib.hid hnext
    clear hnext
    have hcall := has71 s j (by omega) (by omega) W
    show Exec _ _ (Code.seq (Code.seq _ _) _) _ _ _
    refine exec_seq (exec_seq (exec_region_o fun ds => ?_))
    gi_wp2_with fail
    refine ⟨trivial, rfl, (callsIn_wide.2 hcall).mono ?_⟩
    rintro e Z ⟨rfl, hz⟩
    have hBZ := hV.trans (hz.mono hV.size)
    have hXZ := hX.keep hz
    have hK := Keep.of_below hz
    clear hcall hz hX hV
    gi_wp2
    refine eq_mk hK ?_
    clear hK
    clear W
    show Exec _ _ (Code.cond _ _ _) _ _ _
    refine exec_cond (b := !s.testBit j) rfl (fun hp => exec_exit ?_) (fun hp => exec_skip ?_)
    · have hsb : s.testBit j = false := by simpa using hp
      show Exec Try.prog none (sub (Try.f111.body.getD .skip) [1, 0, 1, 0, 0, 1, 1]) _ _ _
      refine (HX.out Z hXZ hBZ (by unfold fitJ; rw [hsb]; rfl) _ (by simp [Slots, Fits])).mono ?_
      intro e t W hh
      obtain ⟨rfl, h⟩ := only_normal hh
      exact h
    · have hsb : s.testBit j = true := by simpa using hp
      show Exec _ _ (Code.seq _ (Code.seq _ _)) _ _ _
      refine exec_seq (exec_region_o fun ds => ?_)
      gi_wp2
      refine eq_mk (Keep.refl _) ?_
      show Exec _ _ (Code.seq _ _) _ _ _
      refine exec_seq ((fit_busy (w := w) (a := a) (A := A) (l := l) (c := c) (n := n) (s := s) (j := j) hl hlt (by omega) (hr.below hBZ) (by simp [Slots, Fits])).mono ?_)
      clear x
      intro e t Y hh
      obtain ⟨rfl, hBY, hSl⟩ := only_normal hh
      have hXY := hXZ.keep hBY
      have hVY := hBZ.trans (hBY.mono hBZ.size)
      clear hh hXZ hBZ hBY
      clear Z
      have hbl := busyL_le j l l.length (Nat.le_refl _)
      rw [List.take_length] at hbl
      obtain ⟨v, hv⟩ : ∃ v, busyL l j = v := ⟨_, rfl⟩
      rw [hv] at hSl hbl
      have HV := Lib.hid hv
      clear hv
      obtain ⟨x, hx⟩ := Slots.open_ hSl; simp only [fill, Nat.reduceAdd] at hx; subst hx; clear hSl
      obtain ⟨ad, hA, hcl⟩ := ldc_at hf hXY.at_ hjl
      obtain ⟨lo, hlo⟩ : ∃ lo, a.s3.1.getD j 0 = lo := ⟨_, rfl⟩
      rw [hlo] at hcl
      have HL := Lib.hid hlo
      have HAD := Lib.hid hA
      clear hlo
      obtain ⟨kb, hkb⟩ : ∃ kb, kinB a j n = kb := ⟨_, rfl⟩
      have hcall := kin29 a j n Y hXY.at_
      rw [hkb] at hcall
      have HK := Lib.hid hkb
      clear hkb
      have hh := hXY.heap
      have c0 := cells_get (cs := [_, _, _]) (k := 0) hh rfl
      have c1 := cells_get (cs := [_, _, _]) (k := 1) hh rfl
      have c2 := cells_get (cs := [_, _, _]) (k := 2) hh rfl
      clear hh hA
      have HXY := Lib.hid hXY
      have HVY := Lib.hid hVY
      clear hXY hVY
      show Exec _ _ (Code.seq _ (Code.cond _ _ _)) _ _ _
      refine exec_seq (exec_region_o fun ds => ?_)
      gi_wp2_with fail
      refine ⟨trivial, rfl, (callsIn_wide.2 hcall).mono ?_⟩
      rintro e Z ⟨rfl, hz⟩
      have hBZ := HVY.out.trans (hz.mono HVY.out.size)
      have hXZ := HXY.out.keep hz
      have hK := Keep.of_below hz
      replace hcl := (Grow.of_below (B := 0) hz).cell hcl
      have d0 := (Grow.of_below (B := 0) hz).cell c0
      have hA := HAD.out
      simp only [XP.sL, hA] at d0
      clear hA
      clear hcall hz HXY HVY c0 c1 c2
      cases kb with
      | true =>
        have hfj : fitJ a l n s j = false := by unfold fitJ; rw [hsb, HK.out]; rfl
        clear hcl d0
        gi_wp2
        refine eq_mk hK ?_
        show Exec _ _ (Code.cond _ _ _) _ _ _
        refine exec_cond (b := true) rfl (fun hp => ?_) (fun h => by cases h)
        refine exec_seq (exec_region_o fun ds => ?_)
        gi_wp2
        refine eq_mk (Keep.refl _) ?_
        have hRf : R = false := by rw [← HR.out]; exact fits_no hjl hfj
        exact exec_ret ⟨.inr rfl, fun W' hG => ⟨.bool false, by simp [results, Try.f111, go_sem], by rw [hRf], hBZ.trans (hG.below (Nat.le_refl _) hBZ.size)⟩⟩
      | false =>
        by_cases hlo : v + 1 ≤ lo
        · have hfj : fitJ a l n s j = true := by unfold fitJ; rw [hsb, HK.out, HV.out, HL.out, decide_eq_true hlo]; rfl
          have hno : ¬ (((v + 1 : Nat) : Int) > (lo : Int)) := by omega
          clear hlo
          obtain ⟨v1, hv1⟩ : ∃ v1, v + 1 = v1 := ⟨_, rfl⟩
          rw [hv1] at hno ⊢
          gi_wp2
          refine eq_mk hK ?_
          show Exec _ _ (Code.cond _ _ _) _ _ _
          refine exec_cond (b := false) (by first | rfl | (show Value.bool _ = _; congr 1; exact decide_eq_false (by omega))) (fun h => by cases h) (fun _ => exec_skip ?_)
          show Exec Try.prog none (sub (Try.f111.body.getD .skip) [1, 0, 1, 0, 0, 1, 1]) _ _ _
          refine (HX.out Z hXZ hBZ hfj _ (by simp [Slots, Fits])).mono ?_
          intro e t W hh
          obtain ⟨rfl, h⟩ := only_normal hh
          exact h
        · have hfj : fitJ a l n s j = false := by unfold fitJ; rw [hsb, HK.out, HV.out, HL.out, decide_eq_false hlo]; rfl
          have hno : ((v + 1 : Nat) : Int) > (lo : Int) := by omega
          clear hlo
          obtain ⟨v1, hv1⟩ : ∃ v1, v + 1 = v1 := ⟨_, rfl⟩
          rw [hv1] at hno ⊢
          gi_wp2
          refine eq_mk hK ?_
          show Exec _ _ (Code.cond _ _ _) _ _ _
          refine exec_cond (b := true) (by first | rfl | (show Value.bool _ = _; congr 1; exact decide_eq_true (by omega))) (fun hp => ?_) (fun h => by cases h)
          refine exec_seq (exec_region_o fun ds => ?_)
          gi_wp2
          refine eq_mk (Keep.refl _) ?_
          have hRf : R = false := by rw [← HR.out]; exact fits_no hjl hfj
          exact exec_ret ⟨.inr rfl, fun W' hG => ⟨.bool false, by simp [results, Try.f111, go_sem], by rw [hRf], hBZ.trans (hG.below (Nat.le_refl _) hBZ.size)⟩⟩
  · have hk2 : j = a.L.length := by have := of_decide_eq_false hp; omega
    have hall : ∀ i, i < a.L.length → fitJ a l n s i = true := by rw [← hk2]; exact HA.out
    obtain ⟨ad, hA, _⟩ := ndc_at hf ha hn
    have hck : ∀ Y, Below w.heap.size w Y → Y.cell? (ad.add n) = some (iv (a.s3.2.1.getD n 0)) := fun Y hY => by
      obtain ⟨_, e, h⟩ := ndc_at hf (ha.below hY) hn
      rw [hA] at e
      cases e
      exact h
    have hT : Tr w W W [(w.heap.size, .cells #[a.sL, a.sN, a.sK] 25 (0, 0))] := (Tr.start hV).push hX.heap (Nat.le_refl _) (fun p hp => by cases hp)
    have hRq : decide (pop s = a.s3.2.1.getD n 0) = R := by rw [← HR.out]; exact (fits_yes hall).symm
    show Exec _ _ (Code.seq (sub (Try.f111.body.getD .skip) [1, 1, 0]) Code.ret) _ _ _
    refine exec_seq ((fit_r13 (A := A) (l := l) (c := c) hs hn hA hck hRq hT (by simp [Slots, Fits])).mono ?_)
    clear x
    intro e t Z hh
    obtain ⟨rfl, hb, hSl⟩ := only_normal hh
    have hBZ := hV.trans (hb.mono hV.size)
    obtain ⟨x, hx⟩ := Slots.open_ hSl; simp only [fill, Nat.reduceAdd] at hx; subst hx; clear hSl
    exact exec_ret ⟨.inr rfl, fun W' hG => ⟨.bool R, by simp [results, Try.f111, go_sem], rfl, hBZ.trans (hG.below (Nat.le_refl _) hBZ.size)⟩⟩
end Go.Proofs.Ytbdmmikflkpmpaa
end

section
namespace Go.Proofs.Ytbdmmikflkpmpaa
open Go.RowKit Go.TL Go.Shelf Go.Pn
def seatF (a : XP) (most : Nat) : Nat → List Nat → List (List Nat) → List (List Nat)
  | 0, b, out => if most ≤ out.length then out else out ++ [b]
  | r + 1, b, out => if most ≤ out.length then out else (List.range (2 ^ a.L.length)).foldl (fun o s => if fitsF a b b.length s then seatF a most r (b ++ [s]) o else o) out
def allF (a : XP) : Nat → List Nat → List (List Nat)
  | 0, b => [b]
  | r + 1, b => (List.range (2 ^ a.L.length)).flatMap fun s => if fitsF a b b.length s then allF a r (b ++ [s]) else []
theorem take_app {α : Type} {o X Y : List α} {m : Nat} (h : ¬ m ≤ o.length) : (if m ≤ ((o ++ X).take m).length then (o ++ X).take m else ((o ++ X).take m ++ Y).take m) = (o ++ (X ++ Y)).take m := by
  by_cases hm : m ≤ (o ++ X).length
  · rw [if_pos (by rw [List.length_take]; omega), ← List.append_assoc, List.take_append_of_le_length hm]
  · rw [if_neg (by rw [List.length_take]; omega), List.take_of_length_le (l := o ++ X) (by omega), List.append_assoc]
theorem seatF_eq (a : XP) (most : Nat) : ∀ (r : Nat) (b : List Nat) (out : List (List Nat)), seatF a most r b out = if most ≤ out.length then out else (out ++ allF a r b).take most
  | 0, b, out => by
    unfold seatF allF
    split
    · rfl
    · rw [List.take_of_length_le (by simp; omega)]
  | r + 1, b, out => by
    have key : ∀ (L : List Nat) (o : List (List Nat)), L.foldl (fun o s => if fitsF a b b.length s then seatF a most r (b ++ [s]) o else o) o = if most ≤ o.length then o else (o ++ L.flatMap fun s => if fitsF a b b.length s then allF a r (b ++ [s]) else []).take most := by
      intro L
      induction L with
      | nil =>
        intro o
        split
        · rfl
        · rw [List.flatMap_nil, List.append_nil, List.take_of_length_le (by omega)]
          rfl
      | cons s L ih =>
        intro o
        rw [List.foldl_cons, List.flatMap_cons, ih]
        by_cases hm : most ≤ o.length
        · have e : (if fitsF a b b.length s = true then seatF a most r (b ++ [s]) o else o) = o := by
            split
            · rw [seatF_eq a most r, if_pos hm]
            · rfl
          rw [e, if_pos hm, if_pos hm]
        · rw [if_neg hm]
          by_cases hf : fitsF a b b.length s = true
          · rw [if_pos hf, if_pos hf, seatF_eq a most r, if_neg hm]
            exact take_app hm
          · rw [if_neg hf, if_neg hf, if_neg hm, List.nil_append]
    show (if most ≤ out.length then out else _) = _
    split
    · rfl
    · rename_i hm
      rw [key, if_neg hm]
      rfl
def okFrom (a : XP) : List Nat → List Nat → Bool
  | _, [] => true
  | b, s :: t => fitsF a b b.length s && okFrom a (b ++ [s]) t
theorem allF_eq (a : XP) : ∀ (r : Nat) (b : List Nat), allF a r b = ((seqs a.L.length r).filter (okFrom a b)).map (b ++ ·)
  | 0, b => by
    show [b] = (([[]] : List (List Nat)).filter (okFrom a b)).map (b ++ ·)
    rw [List.filter_cons_of_pos (by simp [okFrom])]
    simp
  | r + 1, b => by
    show ((List.range (2 ^ a.L.length)).flatMap fun s => if fitsF a b b.length s then allF a r (b ++ [s]) else []) = ((((List.range (2 ^ a.L.length)).flatMap fun s => (seqs a.L.length r).map (s :: ·))).filter (okFrom a b)).map (b ++ ·)
    rw [List.filter_flatMap, List.map_flatMap]
    congr 1
    funext s
    rw [List.filter_map, List.map_map]
    cases hf : fitsF a b b.length s with
    | true =>
      rw [if_pos rfl, allF_eq a r]
      have e : (okFrom a b ∘ fun x => s :: x) = okFrom a (b ++ [s]) := by
        funext t
        show (fitsF a b b.length s && okFrom a (b ++ [s]) t) = _
        rw [hf, Bool.true_and]
      rw [e]
      refine List.map_congr_left fun t _ => ?_
      simp
    | false =>
      rw [if_neg (by simp)]
      have e : (seqs a.L.length r).filter (okFrom a b ∘ fun x => s :: x) = [] := by
        rw [List.filter_eq_nil_iff]
        intro t _
        show ¬ (fitsF a b b.length s && okFrom a (b ++ [s]) t) = true
        rw [hf]
        simp
      rw [e]
      rfl
theorem okFrom_iff (a : XP) : ∀ (t b : List Nat), okFrom a b t = true ↔ ∀ i, i < t.length → fitsF a (b ++ t.take i) (b.length + i) (t.getD i 0) = true
  | [], b => by simp [okFrom]
  | s :: t, b => by
    show (fitsF a b b.length s && okFrom a (b ++ [s]) t) = true ↔ _
    rw [Bool.and_eq_true, okFrom_iff a t]
    constructor
    · rintro ⟨h1, h2⟩ i hi
      cases i with
      | zero => simpa using h1
      | succ i =>
        have := h2 i (by simpa using hi)
        simpa [Nat.add_assoc, Nat.add_comm 1 i] using this
    · intro h
      refine ⟨by simpa using h 0 (by simp), fun i hi => ?_⟩
      have := h (i + 1) (by simpa using hi)
      simpa [Nat.add_assoc, Nat.add_comm 1 i] using this
theorem fits_ok {a : XP} {l : List Nat} {i : Nat} : fitsF a (l.take i) i (l.getD i 0) = true ↔ okJ a i (bzL a l i) (l.getD i 0) a.L.length ∧ pop (l.getD i 0) = a.s3.2.1.getD i 0 := by
  unfold fitsF
  rw [Bool.and_eq_true, List.all_eq_true, decide_eq_true_eq]
  refine and_congr ⟨fun h j hj hb => ?_, fun h j hj => ?_⟩ Iff.rfl
  · have := h j (List.mem_range.2 hj)
    unfold fitJ at this
    rw [hb] at this
    rw [bzL_getD hj]
    simpa using this
  · rw [List.mem_range] at hj
    unfold fitJ
    cases hb : (l.getD i 0).testBit j with
    | false => rfl
    | true =>
      have := h j hj hb
      rw [bzL_getD hj] at this
      rw [this.1, decide_eq_true this.2]
      rfl
theorem okT_zero (a : XP) (l : List Nat) : okT a l 0 := ⟨fun p hp => absurd hp (Nat.not_lt_zero _), fun j _ => by simp [busyL]⟩
theorem okFrom_ok {a : XP} (hf : a.Fine) {l : List Nat} (hl : l ∈ seqs a.L.length a.N.length) : okFrom a [] l = okL (nf (toP a.s3)) a.s3.1 l := by
  obtain ⟨hl1, hl2⟩ := (mem_seqs _ _ _).1 hl
  cases hq : okFrom a [] l with
  | true =>
    have h := (okFrom_iff a l []).1 hq
    have hT : ∀ i, i ≤ a.N.length → okT a l i := fun i => by
      induction i with
      | zero => exact fun _ => okT_zero a l
      | succ i ih =>
        intro hi
        have h2 := h i (by omega)
        rw [List.nil_append, List.length_nil, Nat.zero_add] at h2
        obtain ⟨h3, h4⟩ := fits_ok.1 h2
        exact okT_step hf (by omega) hl1 (by rw [getD_lt (by omega)]; exact hl2 _ (List.getElem_mem _)) (ih (by omega)) h4 h3
    exact (okT_end hf hl (hT _ (Nat.le_refl _))).symm
  | false =>
    have h : ¬ ∀ i, i < l.length → fitsF a ([] ++ l.take i) (([] : List Nat).length + i) (l.getD i 0) = true := fun c => by
      rw [(okFrom_iff a l []).2 c] at hq
      cases hq
    obtain ⟨i, hi⟩ := Classical.not_forall.1 h
    obtain ⟨hil, hi⟩ := Classical.not_imp.1 hi
    rw [List.nil_append, List.length_nil, Nat.zero_add] at hi
    refine (okT_bad hf hl (i := i) (by omega) ?_).symm
    by_cases hp : pop (l.getD i 0) = a.s3.2.1.getD i 0
    · exact .inr fun c => hi (fits_ok.2 ⟨c, hp⟩)
    · exact .inl hp
theorem allF_ok {a : XP} (hf : a.Fine) : allF a a.N.length [] = (seqs a.L.length a.N.length).filter (okL (nf (toP a.s3)) a.s3.1) := by
  rw [allF_eq]
  have e : (fun t : List Nat => [] ++ t) = id := by funext t; rfl
  rw [e, List.map_id]
  exact List.filter_congr fun t ht => okFrom_ok hf ht
theorem seqs_len (n : Nat) : ∀ m, (seqs n m).length = (2 ^ n) ^ m
  | 0 => rfl
  | m + 1 => by
    show ((List.range (2 ^ n)).flatMap fun s => (seqs n m).map (s :: ·)).length = _
    rw [List.length_flatMap]
    have e : (List.map (fun s => ((seqs n m).map (s :: ·)).length) (List.range (2 ^ n))) = List.replicate (2 ^ n) ((2 ^ n) ^ m) := by
      refine List.ext_getElem? fun i => ?_
      rw [List.getElem?_map, List.getElem?_replicate]
      by_cases h : i < 2 ^ n
      · rw [List.getElem?_range h, if_pos h]
        simp [seqs_len n m]
      · rw [List.getElem?_eq_none (by simpa using h), if_neg h]
        rfl
    rw [e, List.sum_replicate_nat, Nat.pow_succ, Nat.mul_comm]
theorem allF_len {a : XP} (hf : a.Fine) : (allF a a.N.length []).length ≤ 2 ^ 36 := by
  rw [allF_ok hf]
  refine Nat.le_trans (List.length_filter_le _ _) ?_
  rw [seqs_len, ← Nat.pow_mul]
  have hj := hf.j
  have hp := hf.p
  exact Nat.pow_le_pow_right (by omega) (Nat.mul_le_mul hj hp)
end Go.Proofs.Ytbdmmikflkpmpaa
end

section
namespace Go.Proofs.Ytbdmmikflkpmpaa
open Go.RowKit Go.TL Go.Shelf Go.Pn
end Go.Proofs.Ytbdmmikflkpmpaa
end

section
namespace Go.Proofs.Ytbdmmikflkpmpaa
open Go.RowKit Go.TL Go.Shelf Go.Pn
attribute [local go_sem] Oper.semAt_some
attribute [local go_sem] run_store_func
structure Wid (P Q : Pnl) : Prop where
  jl : Q.loads.length = P.loads.length
  pl : Q.needs.length = P.needs.length
  ld : ∀ j, j < P.loads.length → P.loads.getD j 0 ≤ Q.loads.getD j 0
  ft : ∀ p j, p < P.needs.length → j < P.loads.length → (P.fit.getD p 0).testBit j = true → (Q.fit.getD p 0).testBit j = true
theorem Wid.feas {P Q : Pnl} (h : Wid P Q) {a : Asg} (ha : Feas P a) : Feas Q a := by
  refine ⟨fun p j hp hj hb => ?_, fun j hj => ?_⟩
  · rw [h.pl] at hp
    rw [h.jl] at hj
    exact h.ft p j hp hj (ha.fit p j hp hj hb)
  · rw [h.jl] at hj
    rw [h.pl]
    exact Nat.le_trans (ha.load j hj) (h.ld j hj)
end Go.Proofs.Ytbdmmikflkpmpaa
end

section
namespace Go.Proofs.Ytbdmmikflkpmpaa
open Go.RowKit Go.TL Go.Shelf Go.Pn
structure Tn (a x : S3) (s si t ti : Nat → Nat) : Prop where
  jl : x.1.length = a.1.length
  pl : x.2.1.length = a.2.1.length
  js : Ren a.1.length s si
  ps : Ren a.2.1.length t ti
  ld : ∀ j, j < a.1.length → x.1.getD (s j) 0 = a.1.getD j 0
  nd : ∀ p, p < a.2.1.length → x.2.1.getD (t p) 0 = a.2.1.getD p 0
  kn : ∀ p j, p < a.2.1.length → j < a.1.length → ((s j, t p) ∈ x.2.2 ↔ (j, p) ∈ a.2.2)
section
variable {a x : S3} {s si t ti : Nat → Nat}
theorem Tn.symm (h : Tn a x s si t ti) : Tn x a si s ti t := by
  refine ⟨h.jl.symm, h.pl.symm, by rw [h.jl]; exact h.js.symm, by rw [h.pl]; exact h.ps.symm, fun j hj => ?_, fun p hp => ?_, fun p j hp hj => ?_⟩
  · rw [h.jl] at hj
    rw [← h.ld _ (h.js.ilt j hj), h.js.si j hj]
  · rw [h.pl] at hp
    rw [← h.nd _ (h.ps.ilt p hp), h.ps.si p hp]
  · rw [h.jl] at hj
    rw [h.pl] at hp
    rw [← h.kn _ _ (h.ps.ilt p hp) (h.js.ilt j hj), h.ps.si p hp, h.js.si j hj]
theorem map_min_getD (l : List Nat) (n j : Nat) (hj : j < l.length) : (l.map (min n)).getD j 0 = min n (l.getD j 0) := by
  rw [List.getD_eq_getElem?_getD, List.getElem?_map, List.getElem?_eq_getElem hj, getD_lt hj]
  rfl
theorem Tn.atMost (h : Tn a x s si t ti) (n : Nat) : Tn (a.atMost n) (x.atMost n) s si t ti := by
  have l1 : (a.atMost n).1.length = a.1.length := List.length_map ..
  have l2 : (x.atMost n).1.length = x.1.length := List.length_map ..
  refine ⟨by rw [l1, l2]; exact h.jl, h.pl, by rw [l1]; exact h.js, h.ps, fun j hj => ?_, h.nd, fun p j hp hj => h.kn p j hp (by rwa [l1] at hj)⟩
  rw [l1] at hj
  show (x.1.map (min n)).getD (s j) 0 = (a.1.map (min n)).getD j 0
  rw [map_min_getD _ _ _ (by rw [h.jl]; exact h.js.lt j hj), map_min_getD _ _ _ hj, h.ld j hj]
def onT (ti : Nat → Nat) (n w : Nat) : Nat := mkS (fun p => w.testBit (ti p)) n
theorem Tn.only (h : Tn a x s si t ti) (w : Nat) : Tn (a.only w) (x.only (onT ti a.2.1.length w)) s si t ti := by
  have l1 : (a.only w).2.1.length = a.2.1.length := onlyTo_len _ _ _
  have l2 : (x.only (onT ti a.2.1.length w)).2.1.length = x.2.1.length := onlyTo_len _ _ _
  refine ⟨h.jl, by rw [l1, l2]; exact h.pl, h.js, by rw [l1]; exact h.ps, h.ld, fun p hp => ?_, fun p j hp hj => h.kn p j (by rwa [l1] at hp) hj⟩
  rw [l1] at hp
  have h6 := h.ps.lt p hp
  show (onlyTo _ x.2.1 x.2.1.length).getD (t p) 0 = (onlyTo w a.2.1 a.2.1.length).getD p 0
  rw [onlyTo_get, onlyTo_get, h.nd p hp]
  have e : (onT ti a.2.1.length w).testBit (t p) = w.testBit p := by
    unfold onT
    rw [mkS_bit, decide_eq_true h6, Bool.true_and, h.ps.is p hp]
  rw [e]
  have e2 : (t p < x.2.1.length ∧ w.testBit p = false) = (p < a.2.1.length ∧ w.testBit p = false) := by
    apply propext
    rw [h.pl]
    exact ⟨fun c => ⟨hp, c.2⟩, fun c => ⟨h6, c.2⟩⟩
  simp only [e2]
structure KRev (a x : S3) (s t : Nat → Nat) : Prop where
  len : x.2.2.length = a.2.2.length
  get : ∀ i k, a.2.2[i]? = some k → x.2.2[a.2.2.length - 1 - i]? = some (s k.1, t k.2)
theorem KRev.back (ha : a.Good) (js : Ren a.1.length s si) (ps : Ren a.2.1.length t ti) (h : KRev a x s t) {i j p : Nat} (hj : j < a.1.length) (hp : p < a.2.1.length) (hx : x.2.2[i]? = some (s j, t p)) : i < a.2.2.length ∧ a.2.2[a.2.2.length - 1 - i]? = some (j, p) := by
  have hi := (List.getElem?_eq_some_iff.1 hx).1
  rw [h.len] at hi
  have hk : a.2.2[a.2.2.length - 1 - i]? = some a.2.2[a.2.2.length - 1 - i] := List.getElem?_eq_getElem (by omega)
  have h2 := h.get _ _ hk
  rw [show a.2.2.length - 1 - (a.2.2.length - 1 - i) = i by omega, hx] at h2
  have hm : a.2.2[a.2.2.length - 1 - i] ∈ a.2.2 := List.getElem_mem _
  have b1 := ha.k1 _ hm
  have b2 := ha.k2 _ hm
  generalize a.2.2[a.2.2.length - 1 - i] = k at *
  have h3 := Option.some.inj h2
  refine ⟨hi, ?_⟩
  rw [hk]
  congr 1
  refine Prod.ext ?_ ?_
  · rw [← js.is _ b1, ← (Prod.mk.inj h3).1, js.is _ hj]
  · rw [← ps.is _ b2, ← (Prod.mk.inj h3).2, ps.is _ hp]
theorem KRev.symm (ha : a.Good) (js : Ren a.1.length s si) (ps : Ren a.2.1.length t ti) (h : KRev a x s t) : KRev x a si ti := by
  refine ⟨h.len.symm, fun i k hk => ?_⟩
  have hi := (List.getElem?_eq_some_iff.1 hk).1
  rw [h.len] at hi ⊢
  have hk0 : a.2.2[a.2.2.length - 1 - i]? = some a.2.2[a.2.2.length - 1 - i] := List.getElem?_eq_getElem (by omega)
  have h2 := h.get _ _ hk0
  rw [show a.2.2.length - 1 - (a.2.2.length - 1 - i) = i by omega, hk] at h2
  have hm : a.2.2[a.2.2.length - 1 - i] ∈ a.2.2 := List.getElem_mem _
  have b1 := ha.k1 _ hm
  have b2 := ha.k2 _ hm
  rw [hk0]
  generalize a.2.2[a.2.2.length - 1 - i] = k0 at *
  have h3 := Option.some.inj h2
  rw [h3]
  congr 1
  exact Prod.ext (js.is _ b1).symm (ps.is _ b2).symm
theorem Tn.waive (ha : a.Good) (h : Tn a x s si t ti) (hk : KRev a x s t) (w : Nat) : Tn (a.waive w) (x.waive (onT (fun i => a.2.2.length - 1 - i) a.2.2.length w)) s si t ti := by
  refine ⟨h.jl, h.pl, h.js, h.ps, h.ld, h.nd, fun p j hp hj => ?_⟩
  show _ ∈ waiveK _ x.2.2 ↔ _ ∈ waiveK w a.2.2
  rw [waiveK_mem, waiveK_mem]
  constructor
  · rintro ⟨i, hi, hx⟩
    obtain ⟨h1, h2⟩ := hk.back ha h.js h.ps hj hp hx
    unfold onT at hi
    rw [mkS_bit, decide_eq_true h1, Bool.true_and] at hi
    exact ⟨_, hi, h2⟩
  · rintro ⟨i, hi, hx⟩
    have hil := (List.getElem?_eq_some_iff.1 hx).1
    refine ⟨a.2.2.length - 1 - i, ?_, hk.get _ _ hx⟩
    unfold onT
    rw [mkS_bit, decide_eq_true (by omega), Bool.true_and]
    show w.testBit (a.2.2.length - 1 - (a.2.2.length - 1 - i)) = false
    rw [show a.2.2.length - 1 - (a.2.2.length - 1 - i) = i by omega]
    exact hi
end
/-! ### what is told -/
section
variable {a x : XP} {s si t ti : Nat → Nat}
end
end Go.Proofs.Ytbdmmikflkpmpaa
end

section
namespace Go.Proofs.Ytbdmmikflkpmpaa
open Go.RowKit Go.TL Go.Shelf Go.Pn
end Go.Proofs.Ytbdmmikflkpmpaa
end

section
namespace Go.Proofs.Ytbdmmikflkpmpaa
open Go.RowKit Go.TL Go.Shelf Go.Pn
end Go.Proofs.Ytbdmmikflkpmpaa
end

section
namespace Go.Proofs.Ytbdmmikflkpmpaa
open Go.RowKit Go.TL Go.Shelf Go.Pn
end Go.Proofs.Ytbdmmikflkpmpaa
end

section
namespace Go.Proofs.Ytbdmmikflkpmpaa
open Go.RowKit Go.TL Go.Shelf Go.Pn
end Go.Proofs.Ytbdmmikflkpmpaa
end

section
namespace Go.Proofs.Ytbdmmikflkpmpaa
open Go.RowKit Go.TL Go.Shelf Go.Pn
end Go.Proofs.Ytbdmmikflkpmpaa
end

section
namespace Go.Proofs.Ytbdmmikflkpmpaa
open Go.RowKit Go.TL Go.Shelf Go.Pn
theorem wpListIn_app {F : Fence} {nF : Nat} {P : Program} {ops : Array Oper} {rest : List Oper} {o : Oper} {a : Act} {Q : Exit → Act → World → Prop} {w : World} (hgd : o.guard = none) (s y : Operand) (t : TypeId) (ho : o.op = .call { callee := .builtin .append, args := #[s, y], argTypes := #[t, t] }) {v xv v' : Value} {w' : World} (hs : a.eval s = v) (hx : a.eval y = xv)
    (hr : (Builtin.append_ #[t, t] o.type #[v, xv]).run P w = .ok v' w') (h : wpListIn F nF P ops Q rest (a.put o.dst v') w') : wpListIn F nF P ops Q (o :: rest) a w := by
  refine wpListIn_plain hgd fun K hK => ?_
  unfold Oper.wpIn
  refine ⟨by simp [Oper.about, ho, resolve, Target.leads, Sem.run_pure], ?_⟩
  rw [Oper.semAt_plain F _ _ (by rw [ho]; intro c hc'; cases hc')]
  simp [execOp, ho, resolve, invoke, builtin, hs, hx, hr, Result.andThen]
  exact hK _ _ h
end Go.Proofs.Ytbdmmikflkpmpaa
end

section
namespace Go.Proofs.Ytbdmmikflkpmpaa
open Go.RowKit Go.TL Go.Shelf Go.Pn
end Go.Proofs.Ytbdmmikflkpmpaa
end

section
namespace Go.Proofs.Ytbdmmikflkpmpaa
open Go.RowKit Go.TL Go.Shelf Go.Pn
theorem info22q : ∃ i0, Try.prog.info? 22 = some i0 ∧ i0.zero = some (.slice none 0 0) ∧ i0.size = 1 ∧ i0.bytes = 24 := by
  have h : (Try.prog.info? 22).map (fun i => (i.zero, i.size, i.bytes)) = some (some (.slice none 0 0), 1, 24) := by kernel_rfl
  cases e : Try.prog.info? 22 with
  | none => rw [e] at h; cases h
  | some i0 =>
    rw [e] at h
    have := Option.some.inj h
    simp only [Prod.mk.injEq] at this
    exact ⟨i0, rfl, this.1, this.2.1, this.2.2⟩
def LL (W : World) (base : Nat) (v : Value) (ls : List (List Nat)) : Prop :=
  ∃ vals : List Value, W.ownsRow base 22 1 v ls.length vals ∧ ∀ (i : Nat) (l : List Nat), ls[i]? = some l → ∃ A c, vals[i]? = some (.slice A l.length c) ∧ RowV W A (l.map iv) ∧ ∀ ad, A = some ad → l ≠ [] → v.ownBlock ≠ some ad.block
theorem LL.grow {W W' : World} {n base : Nat} {v : Value} {ls : List (List Nat)} (h : LL W base v ls) (hG : Grow n W W') : LL W' base v ls := by
  obtain ⟨vals, h1, h2⟩ := h
  exact ⟨vals, own_grow h1 hG, fun i l hl => by
    obtain ⟨A, c, e1, e2, e3⟩ := h2 i l hl
    exact ⟨A, c, e1, e2.grow hG, e3⟩⟩
theorem LL.below {W W' : World} {base : Nat} {v : Value} {ls : List (List Nat)} (h : LL W base v ls) (hb : Below W.heap.size W W') : LL W' base v ls := h.grow (Grow.of_below (B := 0) hb)
theorem LL.nil (W : World) (base : Nat) : LL W base (.slice none 0 0) [] := ⟨[], World.ownsRow_nil _ _ _ _, fun i l h => by simp at h⟩
theorem row_far {W W' : World} {A : Option Addr} {vs : List Value} {row : Option Nat} (h : RowV W A vs) (hg : W.grownBy W' row) (hne : ∀ ad, A = some ad → vs ≠ [] → row ≠ some ad.block) : RowV W' A vs := fun i v hv => by
  obtain ⟨ad, e, hc⟩ := h i v hv
  refine ⟨ad, e, hg.cell hc fun c => hne ad e (fun e2 => by rw [e2] at hv; simp at hv) ?_⟩
  rw [← c]
  congr 1
  unfold Addr.add
  split <;> rfl
theorem row_lt {W : World} {A : Option Addr} {vs : List Value} (h : RowV W A vs) (hne : vs ≠ []) {ad : Addr} (e : A = some ad) : ad.block < W.heap.size := by
  cases vs with
  | nil => exact absurd rfl hne
  | cons v vs =>
    obtain ⟨ad', e', hc⟩ := h 0 v rfl
    rw [e] at e'
    cases e'
    have h0 : ad.add 0 = ad := by simp [Addr.add]
    rw [h0] at hc
    unfold World.cell? at hc
    cases ho : W.heap[ad.block]? with
    | none => simp [ho] at hc
    | some o => exact heap_lt ho
theorem gb_below {W W' : World} (row : Option Nat) (h : Below W.heap.size W W') : W.grownBy W' row := ⟨h.os, h.tape, h.output, h.size, fun j hj _ => h.block j hj⟩
theorem gb_trans {w W X : World} {f : Option Nat} (h : w.grownBy W f) (k : W.grownBy X f) : w.grownBy X f :=
  ⟨k.os.trans h.os, k.tape.trans h.tape, k.output.trans h.output, Nat.le_trans h.size k.size, fun j hj hne => (k.block j (Nat.lt_of_lt_of_le hj h.size) hne).trans (h.block j hj hne)⟩
theorem gb_grow {w W W' : World} {row : Option Nat} (h : w.grownBy W row) (hG : Grow w.heap.size W W') : w.grownBy W' row :=
  ⟨hG.os.trans h.os, hG.tape.trans h.tape, hG.output.trans h.output, Nat.le_trans h.size hG.size, fun k hk hne => by
    have h1 := h.block k hk hne
    rw [Array.getElem?_eq_getElem hk] at h1 ⊢
    exact hG.same k _ h1 (.inl hk)⟩
theorem LL.push {W : World} {base : Nat} {v : Value} {ls : List (List Nat)} (h : LL W base v ls) {A : Option Addr} {b : List Nat} {cb : Nat} (hr : RowV W A (b.map iv)) (hne : ∀ ad, A = some ad → b ≠ [] → v.ownBlock ≠ some ad.block) (hl : ls.length ≤ 2 ^ 41) (hb : base ≤ W.heap.size) :
    ∃ v' W', (Builtin.append_ #[85, 85] 85 #[v, .slice (some ⟨W.heap.size, 0, none⟩) 1 1]).run Try.prog (W.alloc (.cells #[.slice A b.length cb] 22)) = .ok v' W' ∧ LL W' base v' (ls ++ [b]) ∧ W.grownBy W' v.ownBlock ∧ (v'.ownBlock = v.ownBlock ∨ ∃ q, v'.ownBlock = some q ∧ W.heap.size ≤ q) ∧ Keep W W' := by
  obtain ⟨i0, hi0, hz0, hz1, hz2⟩ := info22q
  obtain ⟨vals, ho, hrows⟩ := h
  have ha := (Below.refl W.heap.size W).alloc (Nat.le_refl _) (.cells #[.slice A b.length cb] 22)
  obtain ⟨v', W', hrun, hown, hg, _, hat⟩ := run_append_own_at (P := Try.prog) (w := W.alloc (.cells #[.slice A b.length cb] 22)) base 85 85 22 i0 (.slice none 0 0) 1 24 Try.underlying85 hi0 hz0 hz1 hz2 rfl (by decide) v ls.length vals (ho.alloc _) ⟨W.heap.size, 0, none⟩ 1 1 [.slice A b.length cb] rfl (by
    intro j y hj
    match j, hj with
    | 0, hj =>
      cases hj
      exact cells_get (cs := [.slice A b.length cb]) (k := 0) (World.alloc_heap_new _ _) rfl) (by
    intro y hy
    simp at hy
    subst hy
    rfl) (by unfold maxLen; omega) (by omega) (by rw [World.size_alloc]; omega)
  have hvl := ho.1
  rw [Nat.mul_one] at hvl
  have hgW : W.grownBy W' v.ownBlock := gb_trans (gb_below _ ha) hg
  have hvq : v'.ownBlock = v.ownBlock ∨ ∃ q, v'.ownBlock = some q ∧ W.heap.size ≤ q := by
    rcases hat with h | h
    · exact .inl h
    · exact .inr ⟨_, h, ha.size⟩
  refine ⟨v', W', hrun, ⟨vals ++ [.slice A b.length cb], by rw [List.length_append]; exact hown, fun i l hil => ?_⟩, hgW, hvq, ?_⟩
  · rw [List.getElem?_append] at hil
    split at hil
    · rename_i hlt
      obtain ⟨A1, c1, e1, e2, e3⟩ := hrows i l hil
      refine ⟨A1, c1, by rw [List.getElem?_append_left (by omega)]; exact e1, row_far e2 hgW (fun ad e hn => e3 ad e (fun c => hn (by rw [c]; rfl))), fun ad e hn => ?_⟩
      rcases hvq with h | ⟨q, h, hq⟩
      · rw [h]; exact e3 ad e hn
      · rw [h]
        intro c
        have := row_lt e2 (by simpa using hn) e
        have := Option.some.inj c
        omega
    · rename_i hlt
      have hi0 : i = ls.length := by
        have := (List.getElem?_eq_some_iff.1 hil).1
        simp only [List.length_cons, List.length_nil] at this
        omega
      subst hi0
      simp only [Nat.sub_self, List.getElem?_cons_zero, Option.some.injEq] at hil
      subst hil
      refine ⟨A, cb, by rw [List.getElem?_append_right (by omega), hvl, Nat.sub_self]; rfl, row_far hr hgW (fun ad e hn => hne ad e (fun c => hn (by rw [c]; rfl))), fun ad e hn => ?_⟩
      rcases hvq with h | ⟨q, h, hq⟩
      · rw [h]; exact hne ad e hn
      · rw [h]
        intro c
        have := row_lt hr (by simpa using hn) e
        have := Option.some.inj c
        omega
  · refine ((Keep.refl W).alloc _).grown hg fun j o hj ho' => ?_
    rcases ho.2 with ⟨rfl, _⟩ | ⟨g, cap, cur, rfl, _, hg', _⟩
    · simp [Value.ownBlock] at hj
    · simp only [Value.ownBlock, Option.some.injEq] at hj
      subst hj
      rw [(ha.block _ (heap_lt hg')).trans hg'] at ho'
      cases ho'
      rfl
theorem Tr.app_nat {W V X : World} {l : List (Nat × Obj)} (h : Tr W V X l) (i : Nat) {z : Nat} (hi : l[i]? = some (z, .cells #[] 3 (0, 0))) {A : Option Addr} {L : List Nat} {n c : Nat} (hr : RowV X A (L.map iv)) (hl : L.length ≤ 1000) (hn : n = L.length) (ty : TypeId) :
    ∃ (g c' : Nat) (cur : List Value) (Y : World), (Builtin.append_ #[22, 22] ty #[.slice (some ⟨z, 0, none⟩) 0 0, .slice A n c]).run Try.prog X = .ok (.slice (some ⟨g, 0, none⟩) n c') Y ∧ Tr W V Y (l.set i (g, .cells cur.toArray 3 (0, 0))) ∧ Y.ownsRow W.heap.size 3 1 (.slice (some ⟨g, 0, none⟩) n c') n (L.map iv) ∧ Below X.heap.size X Y := by
  subst hn
  obtain ⟨i0, hi0, hz0, hz1, hz2⟩ := info3q
  have hzz := h.get i hi
  have hge := h.ge _ (List.mem_of_getElem? hi)
  cases L with
  | nil =>
    refine ⟨z, 0, [], X, ?_, ?_, ⟨rfl, .inr ⟨z, 0, #[], rfl, hge, hzz, Nat.le_refl _, by unfold maxLen; omega, rfl, rfl⟩⟩, Below.refl _ _⟩
    · have hs : Src Try.prog i0.size 22 (.slice A 0 c) 0 [] X := by
        cases A with
        | none => exact Src.ofNil X Try.underlying22 c
        | some a => exact Src.ofSlice X Try.underlying22 a 0 c [] (by simp) (fun j u hu => by simp at hu) (fun u hu => by cases hu)
      exact run_append_nothing X 22 22 ty 3 i0 Try.underlying22 hi0 (some ⟨z, 0, none⟩) 0 0 (Nat.le_refl _) _ hs
    · have : l.set i (z, .cells [].toArray 3 (0, 0)) = l := by
        refine List.ext_getElem? fun j => ?_
        rw [List.getElem?_set]
        split
        · rename_i e
          subst e
          rw [if_pos (List.getElem?_eq_some_iff.1 hi).1, hi]
        · rfl
      rw [this]
      exact h
  | cons y L =>
    obtain ⟨a, rfl, _⟩ := hr 0 _ rfl
    obtain ⟨v', Y, hrun, hown, hgr⟩ := run_append_arg_grows (P := Try.prog) X 22 ty 3 i0 (.int .i64 0) 1 8 Try.underlying22 hi0 hz0 hz1 hz2 rfl (by decide) ⟨z, 0, none⟩ 0 0 [] rfl (fun j u h => by simp at h) a (y :: L).length c ((y :: L).map iv) (by simp) (fun j u hj => by obtain ⟨_, e, hc⟩ := hr j u hj; cases e; exact hc) (by simp) (by unfold maxLen; omega) (by omega)
    rw [Nat.zero_add, List.nil_append] at hown
    have hown' := hown.mono h.below.size
    rcases hown.2 with ⟨_, h0⟩ | ⟨g, cap, cur, rfl, hge2, hg, hnc, _, hsz, htk⟩
    · simp at h0
    · have hB : Below X.heap.size X Y := (Below.refl _ X).grown hgr (Nat.le_refl _) (fun q e => by cases e)
      have hT := h.step hB
      have hne : ∀ p ∈ l, p.1 ≠ g := fun p hp => by have := h.lt p hp; omega
      exact ⟨g, cap, cur.toList, Y, hrun, hT.put hT.below hT.keep hi (Nat.le_trans h.below.size hge2) (.inr hne) (fun p hp _ => hT.at_ p hp) (by simpa using hg), hown', hB⟩
theorem Tr.app_one {W V X : World} {l : List (Nat × Obj)} {g k1 : Nat} (h : Tr W V X ((g, .cells #[iv k1] 3 (0, 0)) :: l)) {n : Nat} {v : Value} {K : List Nat} (hn : n = K.length) (ho : X.ownsRow W.heap.size 3 1 v n (K.map iv)) (hne : ∀ p ∈ l, v.ownBlock ≠ some p.1) (h1000 : n ≤ 1000) :
    ∃ g2 c2 Y, (Builtin.append_ #[22, 22] 22 #[v, .slice (some ⟨g, 0, none⟩) 1 1]).run Try.prog X = .ok (.slice (some ⟨g2, 0, none⟩) (n + 1) c2) Y ∧ Tr W V Y l ∧ Y.ownsRow W.heap.size 3 1 (.slice (some ⟨g2, 0, none⟩) (n + 1) c2) (n + 1) ((K ++ [k1]).map iv) := by
  subst hn
  obtain ⟨i0, hi0, hz0, hz1, hz2⟩ := info3q
  have hcg := h.get 0 rfl
  obtain ⟨v', Y, hrun, hown, hgr, _, hat⟩ := run_append_own_at (P := Try.prog) (w := X) W.heap.size 22 22 3 i0 (.int .i64 0) 1 8 Try.underlying22 hi0 hz0 hz1 hz2 rfl (by decide) v K.length (K.map iv) ho ⟨g, 0, none⟩ 1 1 [iv k1] rfl (by
    intro j y hj
    match j, hj with
    | 0, hj =>
      cases hj
      exact cells_get (cs := [iv k1]) (k := 0) hcg rfl) (by
    intro y hy
    simp at hy
    subst hy
    rfl) (by unfold maxLen; omega) (by omega) h.below.size
  have hbq : ∀ q, v.ownBlock = some q → W.heap.size ≤ q := fun q e => (ho.lt q e).1
  obtain ⟨g2, c2, rfl⟩ : ∃ g2 c2, v' = .slice (some ⟨g2, 0, none⟩) (K.length + 1) c2 := by
    rcases hown.2 with ⟨_, h0⟩ | ⟨g2, c2, _, e, _⟩
    · omega
    · exact ⟨g2, c2, e⟩
  refine ⟨g2, c2, Y, hrun, ⟨h.below.grown hgr h.below.size fun q e => hbq q e, h.keep.grown hgr fun j o hj ho' => ?_, fun p hp => h.ge p (List.mem_cons_of_mem _ hp), fun p hp => ?_, (List.nodup_cons.1 h.nd).2⟩, ?_⟩
  · rcases ho.2 with ⟨rfl, _⟩ | ⟨g, cap, cur, rfl, _, hg', _⟩
    · simp [Value.ownBlock] at hj
    · simp only [Value.ownBlock, Option.some.injEq] at hj
      subst hj
      rw [hg'] at ho'
      cases ho'
      rfl
  · exact (hgr.block _ (h.lt p (List.mem_cons_of_mem _ hp)) (Ne.symm (hne p hp))).trans (h.at_ p (List.mem_cons_of_mem _ hp))
  · rw [List.map_append]
    exact hown
theorem seatF_len (a : XP) (most r : Nat) (b : List Nat) (out : List (List Nat)) : (seatF a most r b out).length ≤ max most out.length := by
  rw [seatF_eq]
  split
  · exact Nat.le_max_right _ _
  · rw [List.length_take]
    omega
end Go.Proofs.Ytbdmmikflkpmpaa
end

section
namespace Go.Proofs.Ytbdmmikflkpmpaa
open Go.RowKit Go.TL Go.Shelf Go.Pn
def s62_0t : It := ⟨(Op.load 25 (Operand.tmp 4)), some 40, 25, true, none⟩
def s62_2t : It := ⟨(Op.move (Operand.tmp 1)), some 42, 22, true, none⟩
def s62_4t : It := ⟨(Op.move (Operand.tmp 10)), some 44, 3, true, none⟩
def s62_7t : It := ⟨(Op.move (Operand.tmp 2)), some 47, 3, true, none⟩
def s62_8t : It := ⟨(Op.move (Operand.tmp 3)), some 48, 85, true, none⟩
def s62_1 : It := ⟨(Op.buildSlice 22 0 #[]), some 41, 22, false, none⟩
def s62_3 : It := ⟨(Op.call { callee := (Callee.builtin Builtin.append), args := #[(Operand.tmp 41), (Operand.tmp 42)], argTypes := #[22, 22] }), some 43, 22, false, none⟩
def s62_5 : It := ⟨(Op.buildSlice 22 1 #[(0, (Operand.tmp 44))]), some 45, 22, false, none⟩
def s62_6 : It := ⟨(Op.call { callee := (Callee.builtin Builtin.append), args := #[(Operand.tmp 43), (Operand.tmp 45)], argTypes := #[22, 22] }), some 46, 22, false, none⟩
def s62_9 : It := ⟨(Op.call { callee := (Callee.value (Operand.func 62)), args := #[(Operand.tmp 40), (Operand.tmp 46), (Operand.tmp 47), (Operand.tmp 48)], argTypes := #[25, 22, 3, 85] }), some 49, 85, false, none⟩
def s62_10 : It := ⟨(Op.assign (Operand.tmp 49)), some 3, 85, false, none⟩
set_option maxRecDepth 100000 in
set_option maxHeartbeats 4000000 in
theorem seat_r10 {W : World} {a : XP} {A : Option Addr} {l : List Nat} {cb most p s : Nat} {v : Value} {R : Value → World → World → Prop} (hl : l.length ≤ 1000) (hr : RowV W A (l.map iv)) (hc0 : W.cell? ⟨p, 0, none⟩ = some a.sL) (hc1 : W.cell? ⟨p, 1, none⟩ = some a.sN) (hc2 : W.cell? ⟨p, 2, none⟩ = some a.sK)
    (hrec : ∀ (X : World) (g c : Nat), Below W.heap.size W X → W.heap.size ≤ g → RowV X (some ⟨g, 0, none⟩) ((l ++ [s]).map iv) → Calls Try.prog 62 #[.agg #[a.sL, a.sN, a.sK], .slice (some ⟨g, 0, none⟩) (l.length + 1) c, iv most, v] X fun e Z => ∃ v', e = .returned v' ∧ R v' X Z ∧ Keep X Z)
    {t : Array Value} (hSl : Slots (none :: some (.slice A l.length cb) :: some (iv most) :: some (v) :: some (.pointer (some ⟨p, 0, none⟩)) :: o4 (some (iv l.length) :: some (iv s) :: o4 (o4 (o16 (o16 []))))) t) :
    Exec Try.prog none (sub (Try.f62.body.getD .skip) [1, 1, 1, 1, 0, 1, 0, 0, 1, 0, 0, 1, 0]) t W (andThen (fun t' W' => ∃ v2 X, Below W.heap.size W X ∧ R v2 X W' ∧ Slots (none :: some (.slice A l.length cb) :: some (iv most) :: some (v2) :: some (.pointer (some ⟨p, 0, none⟩)) :: o4 (some (iv l.length) :: some (iv s) :: o4 (o4 (o16 (o16 []))))) t') fun _ _ _ => False) := by
  have hu25 := Try.underlying25
  have hu22 := Try.underlying22
  have hT0 : Tr W W W.drew [] := (Tr.start (Below.refl _ _)).drew
  refine region_tree2 (c := (sub (Try.f62.body.getD .skip) [1, 1, 1, 1, 0, 1, 0, 0, 1, 0, 0, 1, 0])) (id := 10) 9 2 (.one 0 true (.one 2 true (.one 4 true (.one 7 true (.one 8 true (.two 1 5 (.two 3 5 (.one 5 false (.one 6 false (.nil))) (.one 3 false (.one 6 false (.nil)))) (.one 1 false (.one 3 false (.one 6 false (.nil)))))))))) (.one 9 false (.one 10 false (.nil))) (Opq ((regOps (sub (Try.f62.body.getD .skip) [1, 1, 1, 1, 0, 1, 0, 0, 1, 0, 0, 1, 0])).toList.take 9).toArray) (Opq (regOps (sub (Try.f62.body.getD .skip) [1, 1, 1, 1, 0, 1, 0, 0, 1, 0, 0, 1, 0]))) rfl rfl rfl (by kernel_rfl) (by kernel_rfl) (by kernel_rfl) (by kernel_rfl) (by kernel_rfl) (by kernel_rfl) (by kernel_rfl) (by kernel_rfl) (by kernel_rfl) (by kernel_rfl) (by kernel_rfl) [0, 0, 0, 6, 0, 16, 40, 0, 0] [0, 0, 0, 6, 0, 16, 40, 0, 0, 449, 1023] (by kernel_rfl) (by kernel_rfl) (by kernel_rfl) (by kernel_rfl) (fun W' => W'.cell? ⟨p, 0, none⟩ = some a.sL ∧ W'.cell? ⟨p, 1, none⟩ = some a.sN ∧ W'.cell? ⟨p, 2, none⟩ = some a.sK) fun ds Q' Qh hQn hQT => ?_
  have F0 : Fr (none :: some (.slice A l.length cb) :: some (iv most) :: some (v) :: some (.pointer (some ⟨p, 0, none⟩)) :: o4 (some (iv l.length) :: some (iv s) :: o4 (o4 (o16 (o16 []))))) ds { tmps := t, defers := ds } := Fr.start hSl
  clear hSl
  generalize ({ tmps := t, defers := ds } : Act) = a0 at *
  generalize W.drew = X0 at *
  refine tr_take s62_0t (.agg #[a.sL, a.sN, a.sK]) (by kernel_rfl) rfl rfl (fun wq hq => ?_) ⟨(Grow.of_below (B := 0) hT0.below).cell hc0, (Grow.of_below (B := 0) hT0.below).cell hc1, (Grow.of_below (B := 0) hT0.below).cell hc2⟩ ?_; (focus (have e4 : a0.eval (.tmp 4) = (.pointer (some ⟨p, 0, none⟩)) := F0.ev 4 (by kernel_rfl); generalize a0.eval = ev at e4 ⊢; simp [go_sem, mkO, s62_0t, e4, hu25, hq.1, hq.2.1, hq.2.2]; done))
  refine F0.next 40 (.agg #[a.sL, a.sN, a.sK]) fun a1 F1 => ?_
  clear F0
  refine tr_take s62_2t (.slice A l.length cb) (by kernel_rfl) rfl rfl (fun wq hq => ?_) ⟨(Grow.of_below (B := 0) hT0.below).cell hc0, (Grow.of_below (B := 0) hT0.below).cell hc1, (Grow.of_below (B := 0) hT0.below).cell hc2⟩ ?_; (focus (have e1 : a1.eval (.tmp 1) = (.slice A l.length cb) := F1.ev 1 (by kernel_rfl); generalize a1.eval = ev at e1 ⊢; simp [go_sem, mkO, s62_2t, e1]; done))
  refine F1.next 42 (.slice A l.length cb) fun a2 F2 => ?_
  clear F1 a1
  refine tr_take s62_4t (iv s) (by kernel_rfl) rfl rfl (fun wq hq => ?_) ⟨(Grow.of_below (B := 0) hT0.below).cell hc0, (Grow.of_below (B := 0) hT0.below).cell hc1, (Grow.of_below (B := 0) hT0.below).cell hc2⟩ ?_; (focus (have e10 : a2.eval (.tmp 10) = (iv s) := F2.ev 10 (by kernel_rfl); generalize a2.eval = ev at e10 ⊢; simp [go_sem, mkO, s62_4t, e10]; done))
  refine F2.next 44 (iv s) fun a3 F3 => ?_
  clear F2 a2
  refine tr_take s62_7t (iv most) (by kernel_rfl) rfl rfl (fun wq hq => ?_) ⟨(Grow.of_below (B := 0) hT0.below).cell hc0, (Grow.of_below (B := 0) hT0.below).cell hc1, (Grow.of_below (B := 0) hT0.below).cell hc2⟩ ?_; (focus (have e2 : a3.eval (.tmp 2) = (iv most) := F3.ev 2 (by kernel_rfl); generalize a3.eval = ev at e2 ⊢; simp [go_sem, mkO, s62_7t, e2]; done))
  refine F3.next 47 (iv most) fun a4 F4 => ?_
  clear F3 a3
  refine tr_take s62_8t (v) (by kernel_rfl) rfl rfl (fun wq hq => ?_) ⟨(Grow.of_below (B := 0) hT0.below).cell hc0, (Grow.of_below (B := 0) hT0.below).cell hc1, (Grow.of_below (B := 0) hT0.below).cell hc2⟩ ?_; (focus (have e3 : a4.eval (.tmp 3) = (v) := F4.ev 3 (by kernel_rfl); generalize a4.eval = ev at e3 ⊢; simp [go_sem, mkO, s62_8t, e3]; done))
  refine F4.next 48 (v) fun a5 F5 => ?_
  clear F4 a4
  refine ⟨?_, ?_⟩
  · have hT1 : Tr W W (X0.alloc (.cells #[] 3)) [(X0.heap.size, .cells #[] 3 (0, 0))] := hT0.alloc (.cells #[] 3)
    refine tr_make s62_1 (.slice (some ⟨X0.heap.size, 0, none⟩) 0 0) (X0.alloc (.cells #[] 3)) (by kernel_rfl) rfl rfl ?_ ⟨(Grow.of_below (B := 0) hT1.below).cell hc0, (Grow.of_below (B := 0) hT1.below).cell hc1, (Grow.of_below (B := 0) hT1.below).cell hc2⟩ ?_; (focus (simp [go_sem, mkO, s62_1, hu22]; done))
    obtain ⟨zC, hgzC⟩ : ∃ b, X0.heap.size = b := ⟨_, rfl⟩
    simp only [hgzC] at hT1 ⊢
    generalize X0.alloc (.cells #[] 3) = X1 at *
    clear hgzC hT0
    clear X0
    refine F5.next 41 (.slice (some ⟨zC, 0, none⟩) 0 0) fun a6 F6 => ?_
    clear F5 a5
    refine ⟨?_, ?_⟩
    · obtain ⟨gC, cC, cuC, X2, hrun, hTa, hoC, hba⟩ := hT1.app_nat 0 rfl (A := A) (L := l) (n := l.length) (c := cb) (hr.below hT1.below) hl rfl 22
      have hT2 : Tr W W X2 [(gC, .cells (cuC).toArray 3 (0, 0))] := hTa
      clear hTa
      refine tr_make s62_3 (.slice (some ⟨gC, 0, none⟩) l.length cC) X2 (by kernel_rfl) rfl rfl (exec_append _ _ 22 rfl (F6.ev 41 (by kernel_rfl)) (F6.ev 42 (by kernel_rfl)) hrun) ⟨(Grow.of_below (B := 0) hT2.below).cell hc0, (Grow.of_below (B := 0) hT2.below).cell hc1, (Grow.of_below (B := 0) hT2.below).cell hc2⟩ ?_
      clear hrun hba hT1
      clear X1
      refine F6.next 43 (.slice (some ⟨gC, 0, none⟩) l.length cC) fun a7 F7 => ?_
      clear F6 a6
      have hT3 : Tr W W (X2.alloc (.cells #[iv s] 3)) [(X2.heap.size, .cells #[iv s] 3 (0, 0)), (gC, .cells (cuC).toArray 3 (0, 0))] := hT2.alloc (.cells #[iv s] 3)
      refine tr_make s62_5 (.slice (some ⟨X2.heap.size, 0, none⟩) 1 1) (X2.alloc (.cells #[iv s] 3)) (by kernel_rfl) rfl rfl ?_ ⟨(Grow.of_below (B := 0) hT3.below).cell hc0, (Grow.of_below (B := 0) hT3.below).cell hc1, (Grow.of_below (B := 0) hT3.below).cell hc2⟩ ?_; (focus (have e44 : a7.eval (.tmp 44) = (iv s) := F7.ev 44 (by kernel_rfl); generalize a7.eval = ev at e44 ⊢; simp [go_sem, mkO, s62_5, e44, hu22]; done))
      replace hoC := World.ownsRow.alloc hoC (.cells #[iv s] 3)
      obtain ⟨gs, hggs⟩ : ∃ b, X2.heap.size = b := ⟨_, rfl⟩
      simp only [hggs] at hT3 ⊢
      generalize X2.alloc (.cells #[iv s] 3) = X3 at *
      clear hggs hT2
      clear X2
      refine F7.next 45 (.slice (some ⟨gs, 0, none⟩) 1 1) fun a8 F8 => ?_
      clear F7 a7
      obtain ⟨gD, cD, X4, hrun, hTa, hoD⟩ := (hT3.drop (m := [(gs, .cells #[iv s] 3 (0, 0))]) (List.Sublist.cons_cons _ (List.nil_sublist _))).app_one rfl hoC (fun p hp => by cases hp) hl
      have hT4 : Tr W W X4 [] := hTa
      have hgD := (hoD.lt gD rfl).1
      obtain ⟨_, _, e, hrD⟩ := row_of_own hoD
      cases e
      clear hTa hoC hoD
      refine tr_make s62_6 (.slice (some ⟨gD, 0, none⟩) (l.length + 1) cD) X4 (by kernel_rfl) rfl rfl (exec_append _ _ 22 rfl (F8.ev 43 (by kernel_rfl)) (F8.ev 45 (by kernel_rfl)) hrun) ⟨(Grow.of_below (B := 0) hT4.below).cell hc0, (Grow.of_below (B := 0) hT4.below).cell hc1, (Grow.of_below (B := 0) hT4.below).cell hc2⟩ ?_
      clear hrun hT3
      clear X3
      refine F8.next 46 (.slice (some ⟨gD, 0, none⟩) (l.length + 1) cD) fun a9 F9 => ?_
      clear F8 a8
      refine hQT _ _ ?_
      refine tr_call s62_9 (f := 62) (args := #[.agg #[a.sL, a.sN, a.sK], .slice (some ⟨gD, 0, none⟩) (l.length + 1) cD, iv most, v]) (by kernel_rfl) rfl rfl ?_ ?_
      · (have e40 : a9.eval (.tmp 40) = (.agg #[a.sL, a.sN, a.sK]) := F9.ev 40 (by kernel_rfl); have e46 : a9.eval (.tmp 46) = (.slice (some ⟨gD, 0, none⟩) (l.length + 1) cD) := F9.ev 46 (by kernel_rfl); have e47 : a9.eval (.tmp 47) = (iv most) := F9.ev 47 (by kernel_rfl); have e48 : a9.eval (.tmp 48) = (v) := F9.ev 48 (by kernel_rfl); have ef : ∀ f, a9.eval (.func f) = .func (.func f) #[] #[] := fun _ => rfl; generalize a9.eval = ev at e40 e46 e47 e48 ef ⊢; simp [go_sem, mkO, s62_9, ef, e40, e46, e47, e48]; done)
      refine (hrec X4 gD cD hT4.below hgD hrD).mono ?_
      rintro e X5 ⟨v2, rfl, hR, hKz⟩
      have hKK := hT4.keep.trans hKz
      have hBX := hT4.below
      refine .inl ⟨_, rfl, trivial, ?_⟩
      refine F9.next 49 (v2) fun a10 F10 => ?_
      clear F9 a9
      refine tr_make s62_10 (v2) X5 (by kernel_rfl) rfl rfl ?_ trivial ?_; (focus (have e49 : a10.eval (.tmp 49) = (v2) := F10.ev 49 (by kernel_rfl); generalize a10.eval = ev at e49 ⊢; simp [go_sem, mkO, s62_10, e49]; done))
      refine F10.next 3 (v2) fun a11 F11 => ?_
      clear F10 a10
      exact F11.out hQn hKK ⟨v2, X4, hBX, hR, F11.fin [40, 41, 42, 43, 44, 45, 46, 47, 48, 49] (by kernel_rfl)⟩
    · have hT2 : Tr W W (X1.alloc (.cells #[iv s] 3)) [(X1.heap.size, .cells #[iv s] 3 (0, 0)), (zC, .cells #[] 3 (0, 0))] := hT1.alloc (.cells #[iv s] 3)
      refine tr_make s62_5 (.slice (some ⟨X1.heap.size, 0, none⟩) 1 1) (X1.alloc (.cells #[iv s] 3)) (by kernel_rfl) rfl rfl ?_ ⟨(Grow.of_below (B := 0) hT2.below).cell hc0, (Grow.of_below (B := 0) hT2.below).cell hc1, (Grow.of_below (B := 0) hT2.below).cell hc2⟩ ?_; (focus (have e44 : a6.eval (.tmp 44) = (iv s) := F6.ev 44 (by kernel_rfl); generalize a6.eval = ev at e44 ⊢; simp [go_sem, mkO, s62_5, e44, hu22]; done))
      obtain ⟨gs, hggs⟩ : ∃ b, X1.heap.size = b := ⟨_, rfl⟩
      simp only [hggs] at hT2 ⊢
      generalize X1.alloc (.cells #[iv s] 3) = X2 at *
      clear hggs hT1
      clear X1
      refine F6.next 45 (.slice (some ⟨gs, 0, none⟩) 1 1) fun a7 F7 => ?_
      clear F6 a6
      obtain ⟨gC, cC, cuC, X3, hrun, hTa, hoC, hba⟩ := hT2.app_nat 1 rfl (A := A) (L := l) (n := l.length) (c := cb) (hr.below hT2.below) hl rfl 22
      have hT3 : Tr W W X3 [(gs, .cells #[iv s] 3 (0, 0)), (gC, .cells (cuC).toArray 3 (0, 0))] := hTa
      clear hTa
      refine tr_make s62_3 (.slice (some ⟨gC, 0, none⟩) l.length cC) X3 (by kernel_rfl) rfl rfl (exec_append _ _ 22 rfl (F7.ev 41 (by kernel_rfl)) (F7.ev 42 (by kernel_rfl)) hrun) ⟨(Grow.of_below (B := 0) hT3.below).cell hc0, (Grow.of_below (B := 0) hT3.below).cell hc1, (Grow.of_below (B := 0) hT3.below).cell hc2⟩ ?_
      clear hrun hba hT2
      clear X2
      refine F7.next 43 (.slice (some ⟨gC, 0, none⟩) l.length cC) fun a8 F8 => ?_
      clear F7 a7
      obtain ⟨gD, cD, X4, hrun, hTa, hoD⟩ := (hT3.drop (m := [(gs, .cells #[iv s] 3 (0, 0))]) (List.Sublist.cons_cons _ (List.nil_sublist _))).app_one rfl hoC (fun p hp => by cases hp) hl
      have hT4 : Tr W W X4 [] := hTa
      have hgD := (hoD.lt gD rfl).1
      obtain ⟨_, _, e, hrD⟩ := row_of_own hoD
      cases e
      clear hTa hoC hoD
      refine tr_make s62_6 (.slice (some ⟨gD, 0, none⟩) (l.length + 1) cD) X4 (by kernel_rfl) rfl rfl (exec_append _ _ 22 rfl (F8.ev 43 (by kernel_rfl)) (F8.ev 45 (by kernel_rfl)) hrun) ⟨(Grow.of_below (B := 0) hT4.below).cell hc0, (Grow.of_below (B := 0) hT4.below).cell hc1, (Grow.of_below (B := 0) hT4.below).cell hc2⟩ ?_
      clear hrun hT3
      clear X3
      refine F8.next 46 (.slice (some ⟨gD, 0, none⟩) (l.length + 1) cD) fun a9 F9 => ?_
      clear F8 a8
      refine hQT _ _ ?_
      refine tr_call s62_9 (f := 62) (args := #[.agg #[a.sL, a.sN, a.sK], .slice (some ⟨gD, 0, none⟩) (l.length + 1) cD, iv most, v]) (by kernel_rfl) rfl rfl ?_ ?_
      · (have e40 : a9.eval (.tmp 40) = (.agg #[a.sL, a.sN, a.sK]) := F9.ev 40 (by kernel_rfl); have e46 : a9.eval (.tmp 46) = (.slice (some ⟨gD, 0, none⟩) (l.length + 1) cD) := F9.ev 46 (by kernel_rfl); have e47 : a9.eval (.tmp 47) = (iv most) := F9.ev 47 (by kernel_rfl); have e48 : a9.eval (.tmp 48) = (v) := F9.ev 48 (by kernel_rfl); have ef : ∀ f, a9.eval (.func f) = .func (.func f) #[] #[] := fun _ => rfl; generalize a9.eval = ev at e40 e46 e47 e48 ef ⊢; simp [go_sem, mkO, s62_9, ef, e40, e46, e47, e48]; done)
      refine (hrec X4 gD cD hT4.below hgD hrD).mono ?_
      rintro e X5 ⟨v2, rfl, hR, hKz⟩
      have hKK := hT4.keep.trans hKz
      have hBX := hT4.below
      refine .inl ⟨_, rfl, trivial, ?_⟩
      refine F9.next 49 (v2) fun a10 F10 => ?_
      clear F9 a9
      refine tr_make s62_10 (v2) X5 (by kernel_rfl) rfl rfl ?_ trivial ?_; (focus (have e49 : a10.eval (.tmp 49) = (v2) := F10.ev 49 (by kernel_rfl); generalize a10.eval = ev at e49 ⊢; simp [go_sem, mkO, s62_10, e49]; done))
      refine F10.next 3 (v2) fun a11 F11 => ?_
      clear F10 a10
      exact F11.out hQn hKK ⟨v2, X4, hBX, hR, F11.fin [40, 41, 42, 43, 44, 45, 46, 47, 48, 49] (by kernel_rfl)⟩
  · have hT1 : Tr W W (X0.alloc (.cells #[iv s] 3)) [(X0.heap.size, .cells #[iv s] 3 (0, 0))] := hT0.alloc (.cells #[iv s] 3)
    refine tr_make s62_5 (.slice (some ⟨X0.heap.size, 0, none⟩) 1 1) (X0.alloc (.cells #[iv s] 3)) (by kernel_rfl) rfl rfl ?_ ⟨(Grow.of_below (B := 0) hT1.below).cell hc0, (Grow.of_below (B := 0) hT1.below).cell hc1, (Grow.of_below (B := 0) hT1.below).cell hc2⟩ ?_; (focus (have e44 : a5.eval (.tmp 44) = (iv s) := F5.ev 44 (by kernel_rfl); generalize a5.eval = ev at e44 ⊢; simp [go_sem, mkO, s62_5, e44, hu22]; done))
    obtain ⟨gs, hggs⟩ : ∃ b, X0.heap.size = b := ⟨_, rfl⟩
    simp only [hggs] at hT1 ⊢
    generalize X0.alloc (.cells #[iv s] 3) = X1 at *
    clear hggs hT0
    clear X0
    refine F5.next 45 (.slice (some ⟨gs, 0, none⟩) 1 1) fun a6 F6 => ?_
    clear F5 a5
    have hT2 : Tr W W (X1.alloc (.cells #[] 3)) [(X1.heap.size, .cells #[] 3 (0, 0)), (gs, .cells #[iv s] 3 (0, 0))] := hT1.alloc (.cells #[] 3)
    refine tr_make s62_1 (.slice (some ⟨X1.heap.size, 0, none⟩) 0 0) (X1.alloc (.cells #[] 3)) (by kernel_rfl) rfl rfl ?_ ⟨(Grow.of_below (B := 0) hT2.below).cell hc0, (Grow.of_below (B := 0) hT2.below).cell hc1, (Grow.of_below (B := 0) hT2.below).cell hc2⟩ ?_; (focus (simp [go_sem, mkO, s62_1, hu22]; done))
    obtain ⟨zC, hgzC⟩ : ∃ b, X1.heap.size = b := ⟨_, rfl⟩
    simp only [hgzC] at hT2 ⊢
    generalize X1.alloc (.cells #[] 3) = X2 at *
    clear hgzC hT1
    clear X1
    refine F6.next 41 (.slice (some ⟨zC, 0, none⟩) 0 0) fun a7 F7 => ?_
    clear F6 a6
    obtain ⟨gC, cC, cuC, X3, hrun, hTa, hoC, hba⟩ := hT2.app_nat 0 rfl (A := A) (L := l) (n := l.length) (c := cb) (hr.below hT2.below) hl rfl 22
    have hT3 : Tr W W X3 [(gC, .cells (cuC).toArray 3 (0, 0)), (gs, .cells #[iv s] 3 (0, 0))] := hTa
    clear hTa
    refine tr_make s62_3 (.slice (some ⟨gC, 0, none⟩) l.length cC) X3 (by kernel_rfl) rfl rfl (exec_append _ _ 22 rfl (F7.ev 41 (by kernel_rfl)) (F7.ev 42 (by kernel_rfl)) hrun) ⟨(Grow.of_below (B := 0) hT3.below).cell hc0, (Grow.of_below (B := 0) hT3.below).cell hc1, (Grow.of_below (B := 0) hT3.below).cell hc2⟩ ?_
    clear hrun hba hT2
    clear X2
    refine F7.next 43 (.slice (some ⟨gC, 0, none⟩) l.length cC) fun a8 F8 => ?_
    clear F7 a7
    obtain ⟨gD, cD, X4, hrun, hTa, hoD⟩ := (hT3.drop (m := [(gs, .cells #[iv s] 3 (0, 0))]) (List.Sublist.cons _ (List.Sublist.refl _))).app_one rfl hoC (fun p hp => by cases hp) hl
    have hT4 : Tr W W X4 [] := hTa
    have hgD := (hoD.lt gD rfl).1
    obtain ⟨_, _, e, hrD⟩ := row_of_own hoD
    cases e
    clear hTa hoC hoD
    refine tr_make s62_6 (.slice (some ⟨gD, 0, none⟩) (l.length + 1) cD) X4 (by kernel_rfl) rfl rfl (exec_append _ _ 22 rfl (F8.ev 43 (by kernel_rfl)) (F8.ev 45 (by kernel_rfl)) hrun) ⟨(Grow.of_below (B := 0) hT4.below).cell hc0, (Grow.of_below (B := 0) hT4.below).cell hc1, (Grow.of_below (B := 0) hT4.below).cell hc2⟩ ?_
    clear hrun hT3
    clear X3
    refine F8.next 46 (.slice (some ⟨gD, 0, none⟩) (l.length + 1) cD) fun a9 F9 => ?_
    clear F8 a8
    refine hQT _ _ ?_
    refine tr_call s62_9 (f := 62) (args := #[.agg #[a.sL, a.sN, a.sK], .slice (some ⟨gD, 0, none⟩) (l.length + 1) cD, iv most, v]) (by kernel_rfl) rfl rfl ?_ ?_
    · (have e40 : a9.eval (.tmp 40) = (.agg #[a.sL, a.sN, a.sK]) := F9.ev 40 (by kernel_rfl); have e46 : a9.eval (.tmp 46) = (.slice (some ⟨gD, 0, none⟩) (l.length + 1) cD) := F9.ev 46 (by kernel_rfl); have e47 : a9.eval (.tmp 47) = (iv most) := F9.ev 47 (by kernel_rfl); have e48 : a9.eval (.tmp 48) = (v) := F9.ev 48 (by kernel_rfl); have ef : ∀ f, a9.eval (.func f) = .func (.func f) #[] #[] := fun _ => rfl; generalize a9.eval = ev at e40 e46 e47 e48 ef ⊢; simp [go_sem, mkO, s62_9, ef, e40, e46, e47, e48]; done)
    refine (hrec X4 gD cD hT4.below hgD hrD).mono ?_
    rintro e X5 ⟨v2, rfl, hR, hKz⟩
    have hKK := hT4.keep.trans hKz
    have hBX := hT4.below
    refine .inl ⟨_, rfl, trivial, ?_⟩
    refine F9.next 49 (v2) fun a10 F10 => ?_
    clear F9 a9
    refine tr_make s62_10 (v2) X5 (by kernel_rfl) rfl rfl ?_ trivial ?_; (focus (have e49 : a10.eval (.tmp 49) = (v2) := F10.ev 49 (by kernel_rfl); generalize a10.eval = ev at e49 ⊢; simp [go_sem, mkO, s62_10, e49]; done))
    refine F10.next 3 (v2) fun a11 F11 => ?_
    clear F10 a10
    exact F11.out hQn hKK ⟨v2, X4, hBX, hR, F11.fin [40, 41, 42, 43, 44, 45, 46, 47, 48, 49] (by kernel_rfl)⟩
end Go.Proofs.Ytbdmmikflkpmpaa
end

section
namespace Go.Proofs.Ytbdmmikflkpmpaa
open Go.RowKit Go.TL Go.Shelf Go.Pn
theorem LL.shape {W : World} {base : Nat} {v : Value} {ls : List (List Nat)} (h : LL W base v ls) : ∃ A c, v = .slice A ls.length c := by
  obtain ⟨vals, ho, _⟩ := h
  rcases ho.2 with ⟨e, e2⟩ | ⟨g, cap, cur, e, _⟩
  · exact ⟨none, 0, by rw [e, e2]⟩
  · exact ⟨_, _, e⟩
theorem LL.lt {W : World} {base : Nat} {v : Value} {ls : List (List Nat)} (h : LL W base v ls) {q : Nat} (e : v.ownBlock = some q) : base ≤ q ∧ q < W.heap.size := by
  obtain ⟨vals, ho, _⟩ := h
  exact ho.lt q e
theorem LL.keep {W W' : World} {base : Nat} {v : Value} {ls : List (List Nat)} (h : LL W base v ls) (hg : W.grownBy W' v.ownBlock) : Keep W W' := by
  obtain ⟨vals, ho, _⟩ := h
  refine (Keep.refl W).grown hg fun j o hj ho' => ?_
  rcases ho.2 with ⟨rfl, _⟩ | ⟨g, cap, cur, rfl, _, hg', _⟩
  · simp [Value.ownBlock] at hj
  · simp only [Value.ownBlock, Option.some.injEq] at hj
    subst hj
    rw [hg'] at ho'
    cases ho'
    rfl
def OwnR (w : World) (v v' : Value) : Prop := v'.ownBlock = v.ownBlock ∨ ∃ q, v'.ownBlock = some q ∧ w.heap.size ≤ q
theorem gb_via {w Y Z : World} {v v' : Value} (h : w.grownBy Y v.ownBlock) (hv : OwnR w v v') (k : Y.grownBy Z v'.ownBlock) : w.grownBy Z v.ownBlock :=
  ⟨k.os.trans h.os, k.tape.trans h.tape, k.output.trans h.output, Nat.le_trans h.size k.size, fun j hj hne => (k.block j (Nat.lt_of_lt_of_le hj h.size) (fun c => by
    rcases hv with e | ⟨q, e, hq⟩
    · exact hne (c.trans e)
    · rw [e] at c
      have := Option.some.inj c
      omega)).trans (h.block j hj hne)⟩
def SR (w0 : World) (a : XP) (most r : Nat) (l : List Nat) (out : List (List Nat)) (v : Value) (w : World) (v' : Value) (W' : World) : Prop :=
  LL W' w0.heap.size v' (seatF a most r l out) ∧ w.grownBy W' v.ownBlock ∧ OwnR w v v'
def upTo (a : XP) (most r : Nat) (l : List Nat) (out : List (List Nat)) (s : Nat) : List (List Nat) := (List.range s).foldl (fun o s => if fitsF a l l.length s then seatF a most r (l ++ [s]) o else o) out
theorem upTo_succ (a : XP) (most r : Nat) (l : List Nat) (out : List (List Nat)) (s : Nat) : upTo a most r l out (s + 1) = if fitsF a l l.length s then seatF a most r (l ++ [s]) (upTo a most r l out s) else upTo a most r l out s := by
  unfold upTo
  rw [List.range_succ, List.foldl_append]
  rfl
theorem upTo_len (a : XP) (most r : Nat) (l : List Nat) (out : List (List Nat)) : ∀ s, (upTo a most r l out s).length ≤ max most out.length
  | 0 => Nat.le_max_right _ _
  | s + 1 => by
    have ih := upTo_len a most r l out s
    rw [upTo_succ]
    split
    · have := seatF_len a most r (l ++ [s]) (upTo a most r l out s)
      omega
    · exact ih
def SeL (w0 w : World) (a : XP) (most r : Nat) (l : List Nat) (out : List (List Nat)) (v : Value) (o : List (List Nat)) (vs : Value) (Y : World) : Prop :=
  LL Y w0.heap.size vs o ∧ w.grownBy Y v.ownBlock ∧ OwnR w v vs ∧ vs.ownBlock ≠ some w.heap.size ∧ Y.heap[w.heap.size]? = some (.cells #[a.sL, a.sN, a.sK] 25 (0, 0))
theorem SeL.below {w0 w : World} {a : XP} {most r : Nat} {l : List Nat} {out o : List (List Nat)} {v vs : Value} {Y Z : World} (h : SeL w0 w a most r l out v o vs Y) (hb : Below Y.heap.size Y Z) : SeL w0 w a most r l out v o vs Z :=
  ⟨h.1.below hb, gb_trans h.2.1 (gb_below _ hb), h.2.2.1, h.2.2.2.1, (hb.block _ (heap_lt h.2.2.2.2)).trans h.2.2.2.2⟩
def SeLI (w0 w : World) (a : XP) (most r : Nat) (l : List Nat) (out : List (List Nat)) (v : Value) (A : Option Addr) (cb : Nat) (m : Nat) (t : Array Value) (Y : World) : Prop :=
  ∃ (s : Nat) (vs : Value), s ≤ 2 ^ a.L.length ∧ m = 2 ^ a.L.length - s ∧ SeL w0 w a most r l out v (upTo a most r l out s) vs Y ∧ Slots (none :: some (.slice A l.length cb) :: some (vi most) :: some (vs) :: some (.pointer (some ⟨w.heap.size, 0, none⟩)) :: o4 (some (iv l.length) :: some (iv s) :: o4 (o4 (o16 (o16 []))))) t
theorem w_below {w0 w Z : World} {row : Option Nat} (hw : Below w0.heap.size w0 w) (h : ∀ q, row = some q → w0.heap.size ≤ q) (hg : w.grownBy Z row) : Below w0.heap.size w0 Z :=
  hw.grown hg hw.size h
set_option maxRecDepth 100000 in
set_option maxHeartbeats 4000000 in
theorem seat62 {w0 : World} {a : XP} (hf : a.Fine) (ha0 : a.At w0) (most : Nat) (hm : most ≤ 2 ^ 40) : ∀ (r : Nat) (l : List Nat), l.length + r = a.N.length → (∀ x ∈ l, x < 2 ^ a.L.length) → ∀ (out : List (List Nat)) (w : World) (v : Value) (A : Option Addr) (cb : Nat), Below w0.heap.size w0 w → LL w w0.heap.size v out → out.length ≤ 2 ^ 40 → RowV w A (l.map iv) → (∀ ad, A = some ad → l ≠ [] → v.ownBlock ≠ some ad.block) →
    Calls Try.prog 62 #[a.val, .slice A l.length cb, vi most, v] w fun e W' => ∃ v', e = .returned v' ∧ SR w0 a most r l out v w v' W' := by
  intro r
  induction r with
  | zero =>
    intro l hlr hlx out w v A cb hw hL hol hr hne
    have hu25 := Try.underlying25
    have hu22 := Try.underlying22
    have hu85 := Try.underlying85
    have hj6 := hf.j
    have hp6 := hf.p
    have hl6 : l.length ≤ 6 := by omega
    obtain ⟨Ao, co, rfl⟩ := hL.shape
    have hvp : (Value.slice Ao out.length co).ownBlock ≠ some w.heap.size := fun c => by have := (hL.lt c).2; omega
    have hvb : ∀ q, (Value.slice Ao out.length co).ownBlock = some q → w0.heap.size ≤ q := fun q c => (hL.lt c).1
    refine calls_of_exec Try.func62 rfl ?_
    simp only [Try.ntmps62, List.size_toArray, List.length_cons, List.length_nil, Nat.reduceAdd, Nat.reduceSub, Array.replicate_succ, Array.replicate_zero, List.push_toArray, List.append_toArray, List.nil_append, List.cons_append]
    simp only [XP.val]
    refine exec_seq (exec_region_o fun ds => ?_)
    gi_wp2
    refine eq_mk ((Keep.refl w).alloc _) ?_
    show Exec _ _ (Code.seq _ _) _ (w.alloc (.cells #[a.sL, a.sN, a.sK] 25)) _
    have hB := (Below.refl w.heap.size w).alloc (Nat.le_refl _) (.cells #[a.sL, a.sN, a.sK] 25)
    have hX : (w.alloc (.cells #[a.sL, a.sN, a.sK] 25)).heap[w.heap.size]? = some (.cells #[a.sL, a.sN, a.sK] 25 (0, 0)) := World.alloc_heap_new _ _
    have hLX := hL.below hB
    generalize w.alloc (.cells #[a.sL, a.sN, a.sK] 25) = X at *
    have HNE := Lib.hid hne
    have HVB := Lib.hid hvb
    have HLX := Lib.hid hlx
    clear hne hvb hlx
    refine exec_seq (exec_region_o fun ds => ?_)
    gi_wp2
    refine eq_mk (Keep.refl _) ?_
    show Exec _ _ (Code.seq (Code.seq _ _) _) _ _ _
    refine exec_seq (exec_seq (exec_region_o fun ds => ?_))
    gi_wp2
    refine eq_mk (Keep.refl _) ?_
    show Exec _ _ (Code.cond _ _ _) _ _ _
    refine exec_cond (b := decide (most ≤ out.length)) (by first | rfl | (show Value.bool _ = _; congr 1; exact decide_eq_decide.2 (by omega))) (fun hp => ?_) (fun hp => exec_skip ?_)
    · have hmo := of_decide_eq_true hp
      refine exec_seq (exec_region_o fun ds => ?_)
      gi_wp2
      refine eq_mk (Keep.refl _) ?_
      exact exec_ret ⟨.inr rfl, fun W' hG => ⟨.slice Ao out.length co, by simp [results, Try.f62, go_sem], ⟨_, rfl, by
        show LL _ _ _ _ ∧ _ ∧ _
        rw [seatF_eq, if_pos hmo]
        exact ⟨hLX.grow hG, gb_grow (gb_below _ hB) hG, .inl rfl⟩⟩⟩⟩
    have hmo : ¬ most ≤ out.length := of_decide_eq_false hp
    clear hp
    have hh := hX
    simp only [XP.sN] at hh
    have c1 := cells_get (cs := [_, _, _]) (k := 1) hh rfl
    clear hh
    show Exec _ _ (Code.seq (Code.seq _ _) _) _ _ _
    refine exec_seq (exec_seq (exec_region_o fun ds => ?_))
    gi_wp2
    refine eq_mk (Keep.refl _) ?_
    show Exec _ _ (Code.cond _ _ _) _ _ _
    clear c1
    refine exec_cond (b := true) (by first | rfl | (show Value.bool _ = _; congr 1; first | exact decide_eq_true (by omega) | (simp; omega))) (fun hp => ?_) (fun h => by cases h)
    obtain ⟨v', X', hrun, hLY, hgY, hoY, hK⟩ := hLX.push (cb := cb) (hr.below hB) HNE.out (by omega) (Nat.le_trans hw.size hB.size)
    refine exec_seq (exec_region_o fun ds => ?_)
    show (Code.region _ _ _).wpIn _ _ _ _ _ _
    gi_wp2_with (gi_at_builtin; refine wpListIn_app rfl _ _ 85 rfl rfl rfl hrun ?_)
    refine eq_mk hK ?_
    exact exec_ret ⟨.inr rfl, fun W' hG => ⟨v', by simp [results, Try.f62, go_sem], by
      show LL _ _ _ _ ∧ _ ∧ _
      unfold seatF
      rw [if_neg hmo]
      refine ⟨hLY.grow hG, gb_grow (gb_trans (gb_below _ hB) hgY) hG, ?_⟩
      rcases hoY with h | ⟨q, h, hq⟩
      · exact .inl h
      · exact .inr ⟨q, h, Nat.le_trans hB.size hq⟩⟩⟩
  | succ r ih =>
    intro l hlr hlx out w v A cb hw hL hol hr hne
    have hu25 := Try.underlying25
    have hu22 := Try.underlying22
    have hu85 := Try.underlying85
    have hj6 := hf.j
    have hp6 := hf.p
    have hl6 : l.length ≤ 6 := by omega
    obtain ⟨Ao, co, rfl⟩ := hL.shape
    have hvp : (Value.slice Ao out.length co).ownBlock ≠ some w.heap.size := fun c => by have := (hL.lt c).2; omega
    have hvb : ∀ q, (Value.slice Ao out.length co).ownBlock = some q → w0.heap.size ≤ q := fun q c => (hL.lt c).1
    refine calls_of_exec Try.func62 rfl ?_
    simp only [Try.ntmps62, List.size_toArray, List.length_cons, List.length_nil, Nat.reduceAdd, Nat.reduceSub, Array.replicate_succ, Array.replicate_zero, List.push_toArray, List.append_toArray, List.nil_append, List.cons_append]
    simp only [XP.val]
    refine exec_seq (exec_region_o fun ds => ?_)
    gi_wp2
    refine eq_mk ((Keep.refl w).alloc _) ?_
    show Exec _ _ (Code.seq _ _) _ (w.alloc (.cells #[a.sL, a.sN, a.sK] 25)) _
    have hB := (Below.refl w.heap.size w).alloc (Nat.le_refl _) (.cells #[a.sL, a.sN, a.sK] 25)
    have hX : (w.alloc (.cells #[a.sL, a.sN, a.sK] 25)).heap[w.heap.size]? = some (.cells #[a.sL, a.sN, a.sK] 25 (0, 0)) := World.alloc_heap_new _ _
    have hLX := hL.below hB
    generalize w.alloc (.cells #[a.sL, a.sN, a.sK] 25) = X at *
    have HNE := Lib.hid hne
    have HVB := Lib.hid hvb
    have HLX := Lib.hid hlx
    clear hne hvb hlx
    refine exec_seq (exec_region_o fun ds => ?_)
    gi_wp2
    refine eq_mk (Keep.refl _) ?_
    show Exec _ _ (Code.seq (Code.seq _ _) _) _ _ _
    refine exec_seq (exec_seq (exec_region_o fun ds => ?_))
    gi_wp2
    refine eq_mk (Keep.refl _) ?_
    show Exec _ _ (Code.cond _ _ _) _ _ _
    refine exec_cond (b := decide (most ≤ out.length)) (by first | rfl | (show Value.bool _ = _; congr 1; exact decide_eq_decide.2 (by omega))) (fun hp => ?_) (fun hp => exec_skip ?_)
    · have hmo := of_decide_eq_true hp
      refine exec_seq (exec_region_o fun ds => ?_)
      gi_wp2
      refine eq_mk (Keep.refl _) ?_
      exact exec_ret ⟨.inr rfl, fun W' hG => ⟨.slice Ao out.length co, by simp [results, Try.f62, go_sem], ⟨_, rfl, by
        show LL _ _ _ _ ∧ _ ∧ _
        rw [seatF_eq, if_pos hmo]
        exact ⟨hLX.grow hG, gb_grow (gb_below _ hB) hG, .inl rfl⟩⟩⟩⟩
    have hmo : ¬ most ≤ out.length := of_decide_eq_false hp
    clear hp
    have hh := hX
    simp only [XP.sN] at hh
    have c1 := cells_get (cs := [_, _, _]) (k := 1) hh rfl
    clear hh
    show Exec _ _ (Code.seq (Code.seq _ _) _) _ _ _
    refine exec_seq (exec_seq (exec_region_o fun ds => ?_))
    gi_wp2
    refine eq_mk (Keep.refl _) ?_
    show Exec _ _ (Code.cond _ _ _) _ _ _
    clear c1
    refine exec_cond (b := false) (by first | rfl | (show Value.bool _ = _; congr 1; first | exact decide_eq_false (by omega) | (simp; omega))) (fun h => by cases h) (fun _ => exec_skip ?_)
    show Exec _ _ (Code.seq (Code.seq _ _) _) _ _ _
    refine exec_seq (exec_seq (exec_region_o fun ds => ?_))
    gi_wp2
    refine eq_mk (Keep.refl _) ?_
    show Exec _ _ (Code.block _ _) _ _ _
    refine exec_block ?_
    refine exec_loop (SeLI w0 w a most r l out (.slice Ao out.length co) A cb) (2 ^ a.L.length) ⟨0, .slice Ao out.length co, Nat.zero_le _, rfl, ⟨hLX, gb_below _ hB, .inl rfl, hvp, hX⟩, by simp [Slots, Fits]⟩ ?_
    rintro m t Y ⟨s, vs, hs, hm, hSe, hSl⟩
    obtain ⟨o, ho⟩ : ∃ o, upTo a most r l out s = o := ⟨_, rfl⟩
    have hon := upTo_len a most r l out s
    have hsu := upTo_succ a most r l out s
    rw [ho] at hSe hon hsu
    have HO := Lib.hid ho
    have HN := Lib.hid hm
    have HSU := Lib.hid hsu
    have HIH := Lib.hid ih
    clear ho hm hsu ih
    obtain ⟨As, cs, rfl⟩ := hSe.1.shape
    have hXb := hSe.2.2.2.2
    have hcall := power99 a.L.length (by omega) Y
    have hP10 : 2 ^ a.L.length ≤ 2 ^ 10 := Nat.pow_le_pow_right (by omega) (by omega)
    have HLX : RowKit.Hid (∀ x ∈ l, x < 2 ^ a.L.length) := HLX
    obtain ⟨P, hP⟩ : ∃ P, 2 ^ a.L.length = P := ⟨_, rfl⟩
    rw [hP] at hs hcall hP10 HN HLX
    have HP := Lib.hid hP
    clear hP
    have HSE := Lib.hid hSe
    clear hSe
    obtain ⟨x, hx⟩ := Slots.open_ hSl; simp only [fill, Nat.reduceAdd] at hx; subst hx; clear hSl
    have hh := hXb
    simp only [XP.sL] at hh
    have c0 := cells_get (cs := [_, _, _]) (k := 0) hh rfl
    clear hh
    show Exec _ _ (Code.seq (Code.seq _ _) (Code.seq _ _)) _ _ _
    refine exec_seq (exec_seq (exec_region_o fun ds => ?_))
    gi_wp2_with fail
    refine ⟨trivial, rfl, (callsIn_wide.2 hcall).mono ?_⟩
    rintro e Z ⟨rfl, hz⟩
    have hSeZ := Lib.hid (HSE.out.below hz)
    clear hcall c0
    gi_wp2
    refine eq_mk (Keep.of_below hz) ?_
    show Exec _ _ (Code.cond _ _ _) _ _ _
    refine exec_cond (b := decide (s < P)) (by first | rfl | (show Value.bool _ = _; congr 1; exact decide_eq_decide.2 (by omega))) (fun hp => exec_skip ?_) (fun hp => exec_exit ?_)
    · have hsP := of_decide_eq_true hp
      clear hp
      have hwZ := w_below hw HVB.out hSeZ.out.2.1
      have hrZ := row_far hr hSeZ.out.2.1 (fun ad e hn => HNE.out ad e (by simpa using hn))
      have hcall := fits111 a hf l hl6 (fun x hx => Nat.lt_of_lt_of_le (HLX.out x hx) (by omega)) A cb l.length s (by omega) (by omega) Z (ha0.below hwZ) hrZ
      have hXZ := hSeZ.out.2.2.2.2
      obtain ⟨q, hq⟩ : ∃ q, fitsF a l l.length s = q := ⟨_, rfl⟩
      rw [hq] at hcall
      have HQ := Lib.hid hq
      have HWZ := Lib.hid hwZ
      have HRZ := Lib.hid hrZ
      clear hq hwZ hrZ
      have HEND : RowKit.Hid (∀ (v2 : Value) (Z2 : World), SeL w0 w a most r l out (.slice Ao out.length co) (upTo a most r l out (s + 1)) v2 Z2 → ∀ t, Slots (none :: some (.slice A l.length cb) :: some (vi most) :: some (v2) :: some (.pointer (some ⟨w.heap.size, 0, none⟩)) :: o4 (some (iv l.length) :: some (iv s) :: o4 (o4 (o16 (o16 []))))) t → Exec Try.prog none (sub (Try.f62.body.getD .skip) [1, 1, 1, 1, 0, 1, 0, 0, 1, 1]) t Z2 (fun e t' W' => e = .normal ∧ ∃ m', m' < m ∧ SeLI w0 w a most r l out (.slice Ao out.length co) A cb m' t' W')) := Lib.hid (by
        intro v2 Z2 hS2 t hSl
        have hw : IntKind.i64.wrap ((s : Int) + 1) = ((s + 1 : Nat) : Int) := by rw [IntWalk.i64_in _ (by omega)]; norm_cast
        have HS2 := Lib.hid hS2
        clear hS2 hcall
        obtain ⟨x, hx⟩ := Slots.open_ hSl; simp only [fill, Nat.reduceAdd] at hx; subst hx; clear hSl
        show Exec _ _ (Code.region _ _ _) _ _ _
        refine exec_region_o fun ds => ?_
        gi_wp2
        refine eq_mk (Keep.refl _) ?_
        exact ⟨rfl, m - 1, by have := HN.out; omega, s + 1, v2, by rw [HP.out]; omega, by rw [HP.out]; have := HN.out; omega, HS2.out, by simp [Slots, Fits]; try omega⟩)
      have c0 := cells_get (cs := [_, _, _]) (k := 0) hXZ rfl
      have c1 := cells_get (cs := [_, _, _]) (k := 1) hXZ rfl
      have c2 := cells_get (cs := [_, _, _]) (k := 2) hXZ rfl
      show Exec _ _ (Code.seq (Code.block _ _) _) _ _ _
      refine exec_seq (exec_block (exec_seq (exec_region_o fun ds => ?_)))
      gi_wp2_with fail
      refine ⟨trivial, rfl, (callsIn_wide.2 hcall).mono ?_⟩
      rintro e Z2 ⟨rfl, hz2⟩
      have hSe2 := Lib.hid (hSeZ.out.below hz2)
      have HW2 := Lib.hid (HWZ.out.trans (hz2.mono HWZ.out.size))
      have HR2 := Lib.hid (HRZ.out.below hz2)
      clear hcall c0 c1 c2
      gi_wp2
      refine eq_mk (Keep.of_below hz2) ?_
      show Exec _ _ (Code.cond _ _ _) _ _ _
      cases q with
      | false =>
        refine exec_cond (b := false) rfl (fun h => by cases h) (fun _ => exec_skip ?_)
        show Exec Try.prog none (sub (Try.f62.body.getD .skip) [1, 1, 1, 1, 0, 1, 0, 0, 1, 1]) _ _ _
        refine (HEND.out _ Z2 (by rw [HSU.out, HQ.out]; exact hSe2.out) _ (by simp [Slots, Fits])).mono ?_
        rintro e t W ⟨rfl, h⟩
        exact h
      | true =>
        refine exec_cond (b := true) rfl (fun _ => ?_) (fun h => by cases h)
        have hX2 := hSe2.out.2.2.2.2
        have d0 := cells_get (cs := [_, _, _]) (k := 0) hX2 rfl
        have d1 := cells_get (cs := [_, _, _]) (k := 1) hX2 rfl
        have d2 := cells_get (cs := [_, _, _]) (k := 2) hX2 rfl
        show Exec Try.prog none (sub (Try.f62.body.getD .skip) [1, 1, 1, 1, 0, 1, 0, 0, 1, 0, 0, 1, 0]) _ _ _
        refine (seat_r10 (W := Z2) (a := a) (A := A) (l := l) (cb := cb) (most := most) (p := w.heap.size) (s := s) (v := .slice As o.length cs) (R := fun v' X Z => SR w0 a most r (l ++ [s]) o (.slice As o.length cs) X v' Z) (by omega) HR2.out d0 d1 d2 (fun X g c hbX hg hrow => ?_) (by simp [Slots, Fits])).mono ?_
        · have hLX2 := hSe2.out.1.below hbX
          have hi := HIH.out (l ++ [s]) (by rw [List.length_append]; simp only [List.length_cons, List.length_nil]; omega) (fun x hx => by
            rw [HP.out]
            rcases List.mem_append.1 hx with h | h
            · exact HLX.out x h
            · rw [List.mem_singleton.1 h]; exact hsP) o X (.slice As o.length cs) (some ⟨g, 0, none⟩) c (HW2.out.trans (hbX.mono HW2.out.size)) hLX2 (by omega) hrow (fun ad e _ h => by
            cases e
            have := (hSe2.out.1.lt h).2
            simp only at this
            omega)
          rw [List.length_append] at hi
          refine hi.mono ?_
          rintro e Z3 ⟨v', rfl, hS⟩
          exact ⟨v', rfl, hS, hLX2.keep hS.2.1⟩
        · intro e t W hh
          obtain ⟨rfl, v2, X3, hb3, hS3, hSl⟩ := only_normal hh
          have h2 := hSe2.out
          refine (HEND.out v2 W (by
            rw [HSU.out, HQ.out, if_pos rfl]
            refine ⟨hS3.1, gb_via (gb_trans h2.2.1 (gb_below _ hb3)) h2.2.2.1 hS3.2.1, ?_, ?_, ?_⟩
            · rcases hS3.2.2 with e | ⟨q, e, hq⟩
              · rcases h2.2.2.1 with e2 | ⟨q2, e2, hq2⟩
                · exact .inl (e.trans e2)
                · exact .inr ⟨q2, e.trans e2, hq2⟩
              · exact .inr ⟨q, e, Nat.le_trans (Nat.le_trans h2.2.1.size hb3.size) hq⟩
            · rcases hS3.2.2 with e | ⟨q, e, hq⟩
              · rw [e]; exact h2.2.2.2.1
              · rw [e]
                intro c
                have := Option.some.inj c
                have := heap_lt h2.2.2.2.2
                have := hb3.size
                omega
            · have hlt := heap_lt h2.2.2.2.2
              exact (hS3.2.1.block _ (Nat.lt_of_lt_of_le hlt hb3.size) (fun e => h2.2.2.2.1 e.symm)).trans ((hb3.block _ hlt).trans h2.2.2.2.2)) t hSl).mono ?_
          rintro e t W ⟨rfl, h⟩
          exact h
    · have hsP : s = P := by have := of_decide_eq_false hp; omega
      show Exec _ _ (Code.seq _ _) _ _ _
      refine exec_seq (exec_region_o fun ds => ?_)
      gi_wp2
      refine eq_mk (Keep.refl _) ?_
      exact exec_ret ⟨.inr rfl, fun W' hG => ⟨.slice As o.length cs, by simp [results, Try.f62, go_sem], by
        show LL _ _ _ _ ∧ _ ∧ _
        have he : seatF a most (r + 1) l out = o := by
          unfold seatF
          rw [if_neg hmo]
          have := HO.out
          rw [hsP, ← HP.out] at this
          exact this
        rw [he]
        exact ⟨hSeZ.out.1.grow hG, gb_grow hSeZ.out.2.1 hG, hSeZ.out.2.2.1⟩⟩⟩
end Go.Proofs.Ytbdmmikflkpmpaa
end

section
namespace Go.Proofs.Ytbdmmikflkpmpaa
open Go.RowKit Go.TL Go.Shelf Go.Pn
def LLr (W : World) (w : World) (v : Value) (ls : List (List Nat)) : Prop := ∃ base, w.heap.size ≤ base ∧ LL W base v ls
theorem LLr.below {W W' w : World} {v : Value} {ls : List (List Nat)} (h : LLr W w v ls) (hb : Below W.heap.size W W') : LLr W' w v ls := by
  obtain ⟨b, h1, h2⟩ := h
  exact ⟨b, h1, h2.below hb⟩
theorem LLr.grow {W W' w : World} {n : Nat} {v : Value} {ls : List (List Nat)} (h : LLr W w v ls) (hG : Grow n W W') : LLr W' w v ls := by
  obtain ⟨b, h1, h2⟩ := h
  exact ⟨b, h1, h2.grow hG⟩
theorem LLr.mono {W w X : World} {v : Value} {ls : List (List Nat)} (h : LLr W X v ls) (hs : w.heap.size ≤ X.heap.size) : LLr W w v ls := by
  obtain ⟨b, h1, h2⟩ := h
  exact ⟨b, Nat.le_trans hs h1, h2⟩
theorem LLr.shape {W w : World} {v : Value} {ls : List (List Nat)} (h : LLr W w v ls) : ∃ A c, v = .slice A ls.length c := by
  obtain ⟨b, h1, h2⟩ := h
  exact h2.shape
theorem LLr.at {W w : World} {A : Option Addr} {n c : Nat} {ls : List (List Nat)} (h : LLr W w (.slice A n c) ls) {i : Nat} {l : List Nat} (hi : ls[i]? = some l) : ∃ ad B d, A = some ad ∧ W.cell? (ad.add i) = some (.slice B l.length d) ∧ RowV W B (l.map iv) := by
  obtain ⟨b, _, vals, ho, hr⟩ := h
  obtain ⟨B, d, e1, e2, _⟩ := hr i l hi
  obtain ⟨A', c', e, hR⟩ := row_of_own ho
  cases e
  obtain ⟨ad, e, hc⟩ := hR i _ e1
  exact ⟨ad, B, d, e, hc, e2⟩
theorem seatK {w : World} {a : XP} (hf : a.Fine) (ha : a.At w) (most : Nat) (hm : most ≤ 2 ^ 40) (hm0 : 0 < most) : Calls Try.prog 62 #[a.val, .slice none 0 0, vi most, .slice none 0 0] w fun e W' => ∃ v', (e = .returned v' ∧ LLr W' w v' ((allF a a.N.length []).take most)) ∧ Below w.heap.size w W' := by
  refine (seat62 hf ha most hm a.N.length [] (by simp) (fun x hx => by cases hx) [] w (.slice none 0 0) none 0 (Below.refl _ _) (LL.nil _ _) (by simp) (fun i v h => by simp at h) (fun ad e _ => by cases e)).mono ?_
  rintro e W' ⟨v', rfl, h1, h2, _⟩
  rw [seatF_eq, if_neg (by simp; omega), List.nil_append] at h1
  exact ⟨v', ⟨rfl, _, Nat.le_refl _, h1⟩, h2.os, h2.tape, h2.output, h2.size, fun j hj => h2.block j hj (fun c => by cases c)⟩
set_option maxRecDepth 100000 in
set_option maxHeartbeats 1000000 in
theorem all65 (a : XP) (hf : a.Fine) (w : World) (ha : a.At w) : Calls Try.prog 65 #[a.val] w fun e W' => ∃ v, (e = .returned v ∧ LLr W' w v (allF a a.N.length [])) ∧ Below w.heap.size w W' := by
  have hu25 := Try.underlying25
  refine calls_of_exec Try.func65 rfl ?_
  simp only [Try.ntmps65, List.size_toArray, List.length_cons, List.length_nil, Nat.reduceAdd, Nat.reduceSub, Array.replicate_succ, Array.replicate_zero, List.push_toArray, List.append_toArray, List.nil_append, List.cons_append]
  simp only [XP.val]
  refine exec_seq (exec_region_o fun ds => ?_)
  gi_wp2
  refine eq_mk ((Keep.refl w).alloc _) ?_
  show Exec _ _ (Code.seq _ _) _ (w.alloc (.cells #[a.sL, a.sN, a.sK] 25)) _
  have hB := (Below.refl w.heap.size w).alloc (Nat.le_refl _) (.cells #[a.sL, a.sN, a.sK] 25)
  have hX : (w.alloc (.cells #[a.sL, a.sN, a.sK] 25)).heap[w.heap.size]? = some (.cells #[a.sL, a.sN, a.sK] 25 (0, 0)) := World.alloc_heap_new _ _
  generalize w.alloc (.cells #[a.sL, a.sN, a.sK] 25) = X at *
  have haX := ha.below hB
  have c0 := cells_get (cs := [_, _, _]) (k := 0) hX rfl
  have c1 := cells_get (cs := [_, _, _]) (k := 1) hX rfl
  have c2 := cells_get (cs := [_, _, _]) (k := 2) hX rfl
  have hcall := seatK hf haX (2 ^ 40) (Nat.le_refl _) (by omega)
  rw [List.take_of_length_le (Nat.le_trans (allF_len hf) (by omega))] at hcall
  obtain ⟨ls, hls⟩ : ∃ ls, allF a a.N.length [] = ls := ⟨_, rfl⟩
  rw [hls] at hcall ⊢
  clear hls
  refine exec_seq (exec_region_o fun ds => ?_)
  gi_wp2_with fail
  refine ⟨trivial, rfl, (callsIn_wide.2 hcall).mono ?_⟩
  rintro e Z ⟨v, ⟨rfl, hv⟩, hz⟩
  obtain ⟨A, c, rfl⟩ := hv.shape
  have HV := Lib.hid hv
  clear hcall hv c0 c1 c2
  gi_wp2
  refine eq_mk (Keep.of_below hz) ?_
  have hBZ := hB.trans (hz.mono hB.size)
  exact exec_ret ⟨.inr rfl, fun W' hG => ⟨.slice A ls.length c, by simp [results, Try.f65, go_sem], _, ⟨rfl, (HV.out.grow hG).mono hB.size⟩, hBZ.trans (hG.below (Nat.le_refl _) hBZ.size)⟩⟩
end Go.Proofs.Ytbdmmikflkpmpaa
end

section
namespace Go.Proofs.Ytbdmmikflkpmpaa
open Go.RowKit Go.TL Go.Shelf Go.Pn
theorem all_head {a : XP} (hf : a.Fine) (h : canV (toP a.s3) = true) : (allF a a.N.length []).head? = some (sitFold a a.N.length).1 := by
  have hF := toP_Fit (XP.good hf)
  have hnl : (toP a.s3).needs.length = a.N.length := by simp [toP, XP.s3]
  have hnf : (nf (toP a.s3)).length = a.N.length := by rw [nf_len hF, hnl]
  obtain ⟨_, h2⟩ := sit_tie hf h a.N.length (Nat.le_refl _)
  obtain ⟨h0, _⟩ := sit_tie hf h 0 (Nat.zero_le _)
  rw [List.drop_of_length_le (by omega)] at h2
  have h3 : (sitFold a a.N.length).1 = sitG a.L.length (nf (toP a.s3)) a.s3.1 := by
    rw [← h2]
    simp [sitG]
  have h4 := sitG_is a.L.length (nf (toP a.s3)) a.s3.1 h0
  rw [← h3, hnf] at h4
  rw [allF_ok hf, List.head?_filter]
  exact h4
theorem all_none {a : XP} (hf : a.Fine) (h : canV (toP a.s3) = false) : allF a a.N.length [] = [] := by
  rw [allF_ok hf, List.filter_eq_nil_iff]
  intro t ht
  rw [(no_seating hf h).2 t ht]
  simp
def SitP (w : World) (R : List Nat × Int) (e : Ending) (w' : World) : Prop := ∃ A c, e = .returned (.tuple #[.slice A R.1.length c, vi R.2]) ∧ RowV w' A (R.1.map iv) ∧ Below w.heap.size w w'
theorem all_count {a : XP} (hf : a.Fine) : (allF a a.N.length []).length = countF a := by rw [allF_ok hf, count_is hf]
set_option maxRecDepth 100000 in
set_option maxHeartbeats 1000000 in
theorem count18 (a : XP) (w : World) (ha : a.At w) : Calls Try.prog 18 #[a.val] w fun e w' => e = .returned (.tuple #[vi (countA a).1, vi (countA a).2]) ∧ Below w.heap.size w w' := by
  have hu25 := Try.underlying25
  have hu85 := Try.underlying85
  have hu22 := Try.underlying22
  obtain ⟨R, hR⟩ : ∃ R, countA a = R := ⟨_, rfl⟩
  rw [hR]
  have HR := Lib.hid hR
  clear hR
  refine calls_of_exec Try.func18 rfl ?_
  simp only [Try.ntmps18, List.size_toArray, List.length_cons, List.length_nil, Nat.reduceAdd, Nat.reduceSub, Array.replicate_succ, Array.replicate_zero, List.push_toArray, List.append_toArray, List.nil_append, List.cons_append]
  simp only [XP.val]
  refine exec_seq (exec_region_o fun ds => ?_)
  gi_wp2
  refine eq_mk ((Keep.refl w).alloc _) ?_
  show Exec _ _ (Code.seq _ _) _ (w.alloc (.cells #[a.sL, a.sN, a.sK] 25)) _
  have hB := (Below.refl w.heap.size w).alloc (Nat.le_refl _) (.cells #[a.sL, a.sN, a.sK] 25)
  have hX : (w.alloc (.cells #[a.sL, a.sN, a.sK] 25)).heap[w.heap.size]? = some (.cells #[a.sL, a.sN, a.sK] 25 (0, 0)) := World.alloc_heap_new _ _
  generalize w.alloc (.cells #[a.sL, a.sN, a.sK] 25) = X at *
  have haX := ha.below hB
  have c0 := cells_get (cs := [_, _, _]) (k := 0) hX rfl
  have c1 := cells_get (cs := [_, _, _]) (k := 1) hX rfl
  have c2 := cells_get (cs := [_, _, _]) (k := 2) hX rfl
  have hcall := panels22 a X haX
  obtain ⟨q, hq⟩ : ∃ q, a.isP = q := ⟨_, rfl⟩
  rw [hq] at hcall
  have HQ := Lib.hid hq
  have HX := Lib.hid hX
  clear hq hX
  refine exec_seq (exec_seq (exec_region_o fun ds => ?_))
  gi_wp2_with fail
  refine ⟨trivial, rfl, (callsIn_wide.2 hcall).mono ?_⟩
  rintro e Y ⟨rfl, hy⟩
  have haY := haX.below hy
  have hBY := hB.trans (hy.mono hB.size)
  have hXY := (hy.block _ (heap_lt HX.out)).trans HX.out
  clear hcall c0 c1 c2
  have HXY := Lib.hid hXY
  clear hXY
  gi_wp2
  refine eq_mk (Keep.of_below hy) ?_
  show Exec _ _ (Code.cond _ _ _) _ _ _
  cases q with
  | false =>
    refine exec_cond (b := true) rfl (fun _ => ?_) (fun h => by cases h)
    show Exec _ _ (Code.seq _ _) _ _ _
    refine exec_seq (exec_region_o fun ds => ?_)
    gi_wp2
    refine eq_mk (Keep.refl _) ?_
    have hr : R = (0, 1) := by rw [← HR.out]; unfold countA; rw [HQ.out]; rfl
    exact exec_ret ⟨.inr rfl, fun W' hG => ⟨.tuple #[vi 0, vi 1], by simp [results, Try.f18, go_sem], by rw [hr]; exact ⟨rfl, hBY.trans (hG.below (Nat.le_refl _) hBY.size)⟩⟩⟩
  | true =>
    have hf := a.fine HQ.out
    refine exec_cond (b := false) rfl (fun h => by cases h) (fun _ => exec_skip ?_)
    have c0 := cells_get (cs := [_, _, _]) (k := 0) HXY.out rfl
    have c1 := cells_get (cs := [_, _, _]) (k := 1) HXY.out rfl
    have c2 := cells_get (cs := [_, _, _]) (k := 2) HXY.out rfl
    have hcall := all65 a hf Y haY
    have hcn := all_count hf
    obtain ⟨ls, hls⟩ : ∃ ls, allF a a.N.length [] = ls := ⟨_, rfl⟩
    rw [hls] at hcall hcn
    clear hls
    have HCN := Lib.hid hcn
    clear hcn
    show Exec _ _ (Code.seq _ _) _ _ _
    refine exec_seq (exec_region_o fun ds => ?_)
    gi_wp2_with fail
    refine ⟨trivial, rfl, (callsIn_wide.2 hcall).mono ?_⟩
    rintro e Z ⟨v, ⟨rfl, hv⟩, hz⟩
    obtain ⟨A, c, rfl⟩ := hv.shape
    clear hcall hv c0 c1 c2
    gi_wp2
    refine eq_mk (Keep.of_below hz) ?_
    have hBZ := hBY.trans (hz.mono hBY.size)
    have hr : R = (((ls.length : Nat) : Int), 0) := by rw [← HR.out]; unfold countA; rw [HQ.out, if_pos rfl, HCN.out]
    exact exec_ret ⟨.inr rfl, fun W' hG => ⟨.tuple #[iv ls.length, vi 0], by simp [results, Try.f18, go_sem], by rw [hr], hBZ.trans (hG.below (Nat.le_refl _) hBZ.size)⟩⟩
set_option maxRecDepth 100000 in
set_option maxHeartbeats 1000000 in
theorem sit16 (a : XP) (w : World) (ha : a.At w) : Calls Try.prog 16 #[a.val] w (SitP w (sitA a)) := by
  have hu25 := Try.underlying25
  have hu85 := Try.underlying85
  have hu22 := Try.underlying22
  obtain ⟨R, hR⟩ : ∃ R, sitA a = R := ⟨_, rfl⟩
  rw [hR]
  have HR := Lib.hid hR
  clear hR
  refine calls_of_exec Try.func16 rfl ?_
  simp only [Try.ntmps16, List.size_toArray, List.length_cons, List.length_nil, Nat.reduceAdd, Nat.reduceSub, Array.replicate_succ, Array.replicate_zero, List.push_toArray, List.append_toArray, List.nil_append, List.cons_append]
  simp only [XP.val]
  refine exec_seq (exec_region_o fun ds => ?_)
  gi_wp2
  refine eq_mk ((Keep.refl w).alloc _) ?_
  show Exec _ _ (Code.seq _ _) _ (w.alloc (.cells #[a.sL, a.sN, a.sK] 25)) _
  have hB := (Below.refl w.heap.size w).alloc (Nat.le_refl _) (.cells #[a.sL, a.sN, a.sK] 25)
  have hX : (w.alloc (.cells #[a.sL, a.sN, a.sK] 25)).heap[w.heap.size]? = some (.cells #[a.sL, a.sN, a.sK] 25 (0, 0)) := World.alloc_heap_new _ _
  generalize w.alloc (.cells #[a.sL, a.sN, a.sK] 25) = X at *
  have haX := ha.below hB
  have c0 := cells_get (cs := [_, _, _]) (k := 0) hX rfl
  have c1 := cells_get (cs := [_, _, _]) (k := 1) hX rfl
  have c2 := cells_get (cs := [_, _, _]) (k := 2) hX rfl
  have hcall := panels22 a X haX
  obtain ⟨q, hq⟩ : ∃ q, a.isP = q := ⟨_, rfl⟩
  rw [hq] at hcall
  have HQ := Lib.hid hq
  have HX := Lib.hid hX
  clear hq hX
  refine exec_seq (exec_seq (exec_region_o fun ds => ?_))
  gi_wp2_with fail
  refine ⟨trivial, rfl, (callsIn_wide.2 hcall).mono ?_⟩
  rintro e Y ⟨rfl, hy⟩
  have haY := haX.below hy
  have hBY := hB.trans (hy.mono hB.size)
  have hXY := (hy.block _ (heap_lt HX.out)).trans HX.out
  clear hcall c0 c1 c2
  have HXY := Lib.hid hXY
  clear hXY
  gi_wp2
  refine eq_mk (Keep.of_below hy) ?_
  show Exec _ _ (Code.cond _ _ _) _ _ _
  cases q with
  | false =>
    refine exec_cond (b := true) rfl (fun _ => ?_) (fun h => by cases h)
    show Exec _ _ (Code.seq _ _) _ _ _
    refine exec_seq (exec_region_o fun ds => ?_)
    gi_wp2
    refine eq_mk (Keep.refl _) ?_
    have hr : R = ([], 1) := by rw [← HR.out]; unfold sitA; rw [HQ.out]; rfl
    exact exec_ret ⟨.inr rfl, fun W' hG => ⟨.tuple #[.slice none 0 0, vi 1], by simp [results, Try.f16, go_sem], by rw [hr]; exact ⟨none, 0, rfl, fun i v h => by simp at h, hBY.trans (hG.below (Nat.le_refl _) hBY.size)⟩⟩⟩
  | true =>
    have hf := a.fine HQ.out
    refine exec_cond (b := false) rfl (fun h => by cases h) (fun _ => exec_skip ?_)
    have c0 := cells_get (cs := [_, _, _]) (k := 0) HXY.out rfl
    have c1 := cells_get (cs := [_, _, _]) (k := 1) HXY.out rfl
    have c2 := cells_get (cs := [_, _, _]) (k := 2) HXY.out rfl
    have hcall := seatK hf haY 1 (by omega) (by omega)
    have hhd := fun h => all_head (a := a) hf h
    have hno := fun h => all_none (a := a) hf h
    obtain ⟨ls, hls⟩ : ∃ ls, allF a a.N.length [] = ls := ⟨_, rfl⟩
    rw [hls] at hcall
    simp only [hls] at hhd hno
    clear hls
    have HHD := Lib.hid hhd
    have HNO := Lib.hid hno
    obtain ⟨l1, hl1⟩ : ∃ l1, ls.take 1 = l1 := ⟨_, rfl⟩
    rw [hl1] at hcall
    have HL1 := Lib.hid hl1
    clear hhd hno hl1
    show Exec _ _ (Code.seq _ _) _ _ _
    refine exec_seq (exec_region_o fun ds => ?_)
    gi_wp2_with fail
    refine ⟨trivial, rfl, (callsIn_wide.2 hcall).mono ?_⟩
    rintro e Z ⟨v, ⟨rfl, hv⟩, hz⟩
    obtain ⟨A, c, rfl⟩ := hv.shape
    have HV := Lib.hid hv
    clear hcall hv c0 c1 c2
    gi_wp2
    refine eq_mk (Keep.of_below hz) ?_
    have hBZ := hBY.trans (hz.mono hBY.size)
    show Exec _ _ (Code.seq (Code.seq _ _) _) _ _ _
    cases hc : canV (toP a.s3) with
    | false =>
      have h0 : l1.length = 0 := by rw [← HL1.out, HNO.out hc]; rfl
      rw [h0]
      refine exec_seq (exec_seq (exec_region_o fun ds => ?_))
      gi_wp2
      refine eq_mk (Keep.refl _) ?_
      show Exec _ _ (Code.cond _ _ _) _ _ _
      refine exec_cond (b := true) rfl (fun _ => ?_) (fun h => by cases h)
      show Exec _ _ (Code.seq _ _) _ _ _
      refine exec_seq (exec_region_o fun ds => ?_)
      gi_wp2
      refine eq_mk (Keep.refl _) ?_
      have hr : R = ([], 4) := by rw [← HR.out]; unfold sitA; rw [HQ.out, hc]; rfl
      exact exec_ret ⟨.inr rfl, fun W' hG => ⟨.tuple #[.slice none 0 0, vi 4], by simp [results, Try.f16, go_sem], by rw [hr]; exact ⟨none, 0, rfl, fun i v h => by simp at h, hBZ.trans (hG.below (Nat.le_refl _) hBZ.size)⟩⟩⟩
    | true =>
      have h1 := HHD.out hc
      have hr : R = ((sitFold a a.N.length).1, 0) := by rw [← HR.out]; unfold sitA; rw [HQ.out, hc]; rfl
      obtain ⟨l, hl⟩ : ∃ l, (sitFold a a.N.length).1 = l := ⟨_, rfl⟩
      rw [hl] at h1 hr
      clear hl
      have h0 : l1.length = 1 := by
        rw [← HL1.out]
        cases ls with
        | nil => cases h1
        | cons x y => simp
      have h2 : l1[0]? = some l := by
        rw [← HL1.out]
        cases ls with
        | nil => cases h1
        | cons x y => simpa using h1
      obtain ⟨ad, B, d, rfl, hcl, hrow⟩ := HV.out.at h2
      clear h2 h1
      rw [h0]
      have h00 : ad.add 0 = ad := by simp [Addr.add]
      rw [h00] at hcl
      have HROW := Lib.hid hrow
      have HRR := Lib.hid hr
      clear hrow hr h00
      refine exec_seq (exec_seq (exec_region_o fun ds => ?_))
      gi_wp2
      refine eq_mk (Keep.refl _) ?_
      show Exec _ _ (Code.cond _ _ _) _ _ _
      refine exec_cond (b := false) rfl (fun h => by cases h) (fun _ => exec_skip ?_)
      show Exec _ _ (Code.seq _ _) _ _ _
      refine exec_seq (exec_region_o fun ds => ?_)
      gi_wp2
      refine eq_mk (Keep.refl _) ?_
      exact exec_ret ⟨.inr rfl, fun W' hG => ⟨.tuple #[.slice B l.length d, vi 0], by simp [results, Try.f16, go_sem], by rw [HRR.out]; exact ⟨B, d, rfl, HROW.out.grow hG, hBZ.trans (hG.below (Nat.le_refl _) hBZ.size)⟩⟩⟩
end Go.Proofs.Ytbdmmikflkpmpaa
end

section
namespace Go.Proofs.Ytbdmmikflkpmpaa
open Go.RowKit Go.TL Go.Shelf Go.Pn
theorem some_not {P : Pnl} (hP : PFit P) {p j : Nat} (hp : p < P.needs.length) (hj : j < P.loads.length) (h : pairV P p j ≠ 2) : ∃ g, Seating P g ∧ g p j = false := by
  have hj6 := hP.ok.j
  have hl := hP.len
  have hc : canV (pairP1 P p j) = true := by
    cases c : canV (pairP1 P p j) with
    | true => rfl
    | false => exact absurd (by unfold pairV; rw [c]; rfl) h
  obtain ⟨g, hs⟩ := (can_is (P := pairP1 P p j) ⟨hP.ok.j, hP.ok.p⟩).1 hc
  have hfit : ∀ q i, q < P.needs.length → i < P.loads.length → g q i = true → ((P.fit.set p (clrB (P.fit.getD p 0) j)).getD q 0).testBit i = true := fun q i hq hi hg => hs.feas.fit q i hq hi hg
  refine ⟨g, ⟨⟨fun q i hq hi hg => ?_, hs.feas.load⟩, hs.eq⟩, ?_⟩
  · have hb := hfit q i hq hi hg
    rw [getD_set] at hb
    split at hb
    · rename_i hpq
      obtain ⟨rfl, _⟩ := hpq
      rw [clrB_bit _ _ _ (hP.lt p) (by omega), Bool.and_eq_true] at hb
      exact hb.1
    · exact hb
  · cases hg : g p j with
    | false => rfl
    | true =>
      have hb := hfit p j hp hj hg
      rw [getD_set, if_pos ⟨rfl, by omega⟩, clrB_bit _ _ _ (hP.lt p) (by omega)] at hb
      simp at hb
theorem some_yes {P : Pnl} (hP : PFit P) (hcan : canV P = true) {p j : Nat} (hp : p < P.needs.length) (hj : j < P.loads.length) (h : pairV P p j ≠ 0) : ∃ g, Seating P g ∧ g p j = true := by
  have hj6 := hP.ok.j
  have hl := hP.len
  by_cases h2 : pairV P p j = 2
  · obtain ⟨g, hs⟩ := (can_is hP.ok).1 hcan
    refine ⟨g, hs, ?_⟩
    cases hg : g p j with
    | true => rfl
    | false => exact absurd h2 (pair_must hP hs hp hj hg)
  have hc : canV (pairP1 P p j) = true := by
    cases c : canV (pairP1 P p j) with
    | true => rfl
    | false => exact absurd (by unfold pairV; rw [c]; rfl) h2
  have hB : (pairB P p j && canV (pairP2 P p j)) = true := by
    cases c : (pairB P p j && canV (pairP2 P p j)) with
    | true => rfl
    | false => exact absurd (by unfold pairV; rw [hc, c]; rfl) h
  rw [Bool.and_eq_true] at hB
  obtain ⟨hB, hc2⟩ := hB
  unfold pairB at hB
  rw [Bool.and_eq_true, Bool.and_eq_true, decide_eq_true_eq, decide_eq_true_eq] at hB
  obtain ⟨⟨hbit, hld⟩, hnd⟩ := hB
  have hll : (P.loads.set j (P.loads.getD j 0 - 1)).length = P.loads.length := List.length_set
  have hnl : (P.needs.set p (P.needs.getD p 0 - 1)).length = P.needs.length := List.length_set
  obtain ⟨g, hs⟩ := (can_is (P := pairP2 P p j) ⟨by show (P.loads.set _ _).length ≤ 6; rw [hll]; exact hP.ok.j, by show (P.needs.set _ _).length ≤ 6; rw [hnl]; exact hP.ok.p⟩).1 hc2
  have hfit : ∀ q i, q < P.needs.length → i < P.loads.length → g q i = true → ((P.fit.set p (clrB (P.fit.getD p 0) j)).getD q 0).testBit i = true := fun q i hq hi hg => hs.feas.fit q i (by show q < (P.needs.set _ _).length; rw [hnl]; exact hq) (by show i < (P.loads.set _ _).length; rw [hll]; exact hi) hg
  have hload : ∀ i, i < P.loads.length → sumN (fun q => b1 (g q i)) P.needs.length ≤ (P.loads.set j (P.loads.getD j 0 - 1)).getD i 0 := fun i hi => by
    have := hs.feas.load i (by show i < (P.loads.set _ _).length; rw [hll]; exact hi)
    have h2 : sumN (fun q => b1 (g q i)) (P.needs.set p (P.needs.getD p 0 - 1)).length ≤ (P.loads.set j (P.loads.getD j 0 - 1)).getD i 0 := this
    rwa [hnl] at h2
  have heq : ∀ q, q < P.needs.length → sumN (fun i => b1 (g q i)) P.loads.length = (P.needs.set p (P.needs.getD p 0 - 1)).getD q 0 := fun q hq => by
    have := hs.eq q (by show q < (P.needs.set _ _).length; rw [hnl]; exact hq)
    have h2 : sumN (fun i => b1 (g q i)) (P.loads.set j (P.loads.getD j 0 - 1)).length = (P.needs.set p (P.needs.getD p 0 - 1)).getD q 0 := this
    rwa [hll] at h2
  have hno : g p j = false := by
    cases hg : g p j with
    | false => rfl
    | true =>
      have hb := hfit p j hp hj hg
      rw [getD_set, if_pos ⟨rfl, by omega⟩, clrB_bit _ _ _ (hP.lt p) (by omega)] at hb
      simp at hb
  refine ⟨fun q i => g q i || (decide (q = p) && decide (i = j)), ⟨⟨fun q i hq hi hg => ?_, fun i hi => ?_⟩, fun q hq => ?_⟩, by simp⟩
  · rw [Bool.or_eq_true] at hg
    rcases hg with hg | hg
    · have hb := hfit q i hq hi hg
      rw [getD_set] at hb
      split at hb
      · rename_i hpq
        obtain ⟨rfl, _⟩ := hpq
        rw [clrB_bit _ _ _ (hP.lt p) (by omega), Bool.and_eq_true] at hb
        exact hb.1
      · exact hb
    · rw [Bool.and_eq_true, decide_eq_true_eq, decide_eq_true_eq] at hg
      rw [hg.1, hg.2]
      exact hbit
  · show sumN (fun q => b1 (g q i || (decide (q = p) && decide (i = j)))) P.needs.length ≤ P.loads.getD i 0
    have h1 := hload i hi
    rw [getD_set] at h1
    by_cases e : j = i
    · subst e
      rw [if_pos ⟨rfl, hj⟩] at h1
      have := sumN_upd (fun q => b1 (g q j)) (fun q => b1 (g q j || (decide (q = p) && decide (j = j)))) p 1 P.needs.length (fun q _ hne => by simp [hne]) (fun _ => by simp [hno, b1])
      rw [if_pos hp] at this
      omega
    · rw [if_neg fun c => e c.1] at h1
      refine Nat.le_trans (Nat.le_of_eq (sumN_congr _ fun q _ => ?_)) h1
      simp [show ¬ i = j from fun c => e c.symm]
  · show sumN (fun i => b1 (g q i || (decide (q = p) && decide (i = j)))) P.loads.length = P.needs.getD q 0
    have h1 := heq q hq
    rw [getD_set] at h1
    by_cases e : p = q
    · subst e
      rw [if_pos ⟨rfl, hp⟩] at h1
      have := sumN_upd (fun i => b1 (g p i)) (fun i => b1 (g p i || (decide (p = p) && decide (i = j)))) j 1 P.loads.length (fun i _ hne => by simp [hne]) (fun _ => by simp [hno, b1])
      rw [if_pos hj] at this
      omega
    · rw [if_neg fun c => e c.1] at h1
      rw [← h1]
      refine sumN_congr _ fun i _ => ?_
      simp [show ¬ q = p from fun c => e c.symm]
theorem pairV_le (P : Pnl) (p j : Nat) : pairV P p j ≤ 2 := by
  unfold pairV
  split
  · omega
  · split <;> omega
def holds (ls : List (List Nat)) (p j : Nat) : Nat := (ls.filter fun t => (t.getD p 0).testBit j).length
theorem pair_is {a : XP} (hf : a.Fine) (hc : canV (toP a.s3) = true) {p j : Nat} (hp : p < a.N.length) (hj : j < a.L.length) : pairV (toP a.s3) p j = if holds (allF a a.N.length []) p j = (allF a a.N.length []).length then 2 else if holds (allF a a.N.length []) p j = 0 then 0 else 1 := by
  have hF := toP_Fit (XP.good hf)
  have hnl : (toP a.s3).needs.length = a.N.length := by simp [toP, XP.s3]
  have hL : (toP a.s3).loads.length = a.L.length := by simp [toP, XP.s3]
  have hin : ∀ g, Seating (toP a.s3) g → setsOf (toP a.s3) g ∈ allF a a.N.length [] := fun g hg => by
    rw [allF_ok hf, List.mem_filter]
    have hm := setsOf_mem (toP a.s3) g
    refine ⟨by rw [hL, hnl] at hm; exact hm, ?_⟩
    exact (seat_iff hF hm).2 (seating_congr hg fun p j hp hj => setsOf_at _ g hp hj)
  have hat : ∀ g, ((setsOf (toP a.s3) g).getD p 0).testBit j = g p j := fun g => setsOf_at _ g (by omega) (by omega)
  have hbits : ∀ t ∈ allF a a.N.length [], (pairV (toP a.s3) p j = 2 → (t.getD p 0).testBit j = true) ∧ (pairV (toP a.s3) p j = 0 → (t.getD p 0).testBit j = false) := fun t ht => by
    rw [allF_ok hf, List.mem_filter] at ht
    exact pair_bits hf ht.1 ht.2 hp hj
  generalize allF a a.N.length [] = ls at *
  have h2 := pairV_le (toP a.s3) p j
  unfold holds
  split
  · rename_i h
    rw [List.length_filter_eq_length_iff] at h
    by_cases e : pairV (toP a.s3) p j = 2
    · exact e
    · obtain ⟨g, hg, hgf⟩ := some_not hF (by omega) (by omega) e
      have := h _ (hin g hg)
      rw [hat, hgf] at this
      cases this
  · rename_i h
    have hn2 : pairV (toP a.s3) p j ≠ 2 := fun e => h (List.length_filter_eq_length_iff.2 fun t ht => (hbits t ht).1 e)
    split
    · rename_i h0
      rw [List.length_eq_zero_iff, List.filter_eq_nil_iff] at h0
      by_cases e : pairV (toP a.s3) p j = 0
      · exact e
      · obtain ⟨g, hg, hgt⟩ := some_yes hF hc (by omega) (by omega) e
        exact absurd (by rw [hat, hgt]) (h0 _ (hin g hg))
    · rename_i h0
      have hn0 : pairV (toP a.s3) p j ≠ 0 := fun e => h0 (by
        rw [List.length_eq_zero_iff, List.filter_eq_nil_iff]
        intro t ht
        rw [(hbits t ht).2 e]
        simp)
      omega
end Go.Proofs.Ytbdmmikflkpmpaa
end
