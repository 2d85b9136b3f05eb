/- PanelNames returns true -/
import Derived.Test.YtbdmmikflkpmpaaProg
import Derived.Test.YtbdmmikflkpmpaaNA1
import Derived.Test.YtbdmmikflkpmpaaNA3
import Derived.Maps.AppendAt
import Derived.Test.YtbdmmikflkpmpaaNA2
import Derived.WalkKit
import Derived.WalkSpells
import Derived.WalkLawsBesides
import Derived.Outline
import Derived.OwnWalkIn
import Derived.TacticsInMore
import Derived.LoopNIn
import Derived.LoopIn
import Derived.Shelf.RegionOpen
import Derived.Deep.QuietTactic
import Derived.BigQuiet
import Derived.Lib.Hide
import Derived.Test.YtbdmmikflkpmpaaRows
import Derived.ProofKit
import Derived.OpenShut
import Derived.ShutString
import Derived.ChangeOld
import Derived.Below
import Derived.SizedLaws
section
set_option linter.unusedVariables false
set_option linter.unusedSimpArgs false
namespace Go.Proofs.Ytbdmmikflkpmpaa
open Go.RowKit Go.TL Go.Shelf Go.Pn
attribute [local go_sem] Oper.semAt_some
attribute [local go_sem] run_store_func
open Go.ChangeMaps (setBlock heap_setBlock_same heap_setBlock_other modify_eq_set)
section
variable {κ : Type} {P : Program} {k t e : TypeId} {enc : κ → Value} {ok : κ → Prop} {W : World} {b : Nat} {l : List (κ × Value)}
theorem mapR_block {W W' : World} {o : Obj} (h : MapR enc ok W b l) (h1 : W.heap[b]? = some o) (h2 : W'.heap[b]? = some o) : MapR enc ok W' b l := h.kept (h2.trans h1.symm)
theorem gb_block {W : World} {o o' : Obj} (hb : W.heap[b]? = some o') : W.grownBy (setBlock W b o) (some b) := ⟨rfl, rfl, rfl, by simp [setBlock], fun i _ hi => heap_setBlock_any _ _ _ _ (fun e => hi (by rw [e]))⟩
theorem entry_new [DecidableEq κ] {es : Array MapEntry} {clock : Nat} (hb : W.heap[b]? = some (.map es clock)) (R : EntR enc ok es clock l) (E : KeyEnc P k enc ok) (ht : P.underlying t = some (.map k e)) {x : κ} (hx : ok x) (h1 : ∀ w, (Instr.findKey k (enc x) es.toList).run P w = .ok none w) (v : Value) :
    MapR enc ok (setBlock W b (.map (es.push ⟨enc x, v, clock⟩) (clock + 1))) b (put l x v) := by
  obtain ⟨lx, hlx⟩ := E.lit x hx
  obtain ⟨W', hrun, hm, _⟩ := MapR.update (P := P) ⟨es, clock, hb, R⟩ E ht hx v
  have hr : (Instr.mapUpdate t (.map (some b)) (enc x) v).run P W = .ok () (setBlock W b (.map (es.push ⟨enc x, v, clock⟩) (clock + 1))) := by
    simp [Instr.mapUpdate, run_underlying ht, MapKept.run_getObj_map hb, E.keyed.check W false hlx, h1, MapKept.run_setObj_map _ hb, Result.andThen, setBlock]
  rw [hr] at hrun
  cases hrun
  exact hm
theorem entry_old [DecidableEq κ] {es : Array MapEntry} {clock j : Nat} {e0 : MapEntry} (hb : W.heap[b]? = some (.map es clock)) (R : EntR enc ok es clock l) (E : KeyEnc P k enc ok) (ht : P.underlying t = some (.map k e)) {x : κ} (hx : ok x) (h1 : ∀ w, (Instr.findKey k (enc x) es.toList).run P w = .ok (some (j, e0.val)) w) (h3 : es[j]? = some e0) (h4 : e0.key = enc x) (v : Value) :
    MapR enc ok (setBlock W b (.map (es.modify j fun e' => { e' with key := enc x, val := v }) clock)) b (put l x v) := by
  obtain ⟨lx, hlx⟩ := E.lit x hx
  obtain ⟨W', hrun, hm, _⟩ := MapR.update (P := P) ⟨es, clock, hb, R⟩ E ht hx v
  have hr : (Instr.mapUpdate t (.map (some b)) (enc x) v).run P W = .ok () (setBlock W b (.map (es.modify j fun e' => { e' with key := enc x, val := v }) clock)) := by
    simp [Instr.mapUpdate, run_underlying ht, MapKept.run_getObj_map hb, E.keyed.check W false hlx, h1, h3, h4, E.keyed.stays W hlx, MapKept.run_setObj_map _ hb, Result.andThen, setBlock]
  rw [hr] at hrun
  cases hrun
  exact hm
theorem modify_same {es : Array MapEntry} {j : Nat} {e0 : MapEntry} (h3 : es[j]? = some e0) (f : MapEntry → MapEntry) (hf : f e0 = e0) : es.modify j f = es := by
  apply Array.ext'
  have h3' : es.toList[j]? = some e0 := by simpa using h3
  rw [Array.toList_modify, modify_eq_set _ _ _ _ h3', hf]
  refine List.ext_getElem? fun i => ?_
  rw [List.getElem?_set]
  split
  · rename_i hji
    subst hji
    split
    · exact h3'.symm
    · rename_i hl
      rw [List.getElem?_eq_none (by omega)]
  · rfl
theorem modify_eq {es : Array MapEntry} {j : Nat} {e0 : MapEntry} (h3 : es[j]? = some e0) (f g : MapEntry → MapEntry) (hf : f e0 = g e0) : es.modify j f = es.modify j g := by
  apply Array.ext'
  have h3' : es.toList[j]? = some e0 := by simpa using h3
  rw [Array.toList_modify, Array.toList_modify, modify_eq_set _ _ _ _ h3', modify_eq_set _ _ _ _ h3', hf]
theorem born_idx {es : Array MapEntry} {j : Nat} {e0 : MapEntry} (hn : (es.toList.map (·.born)).Nodup) (h3 : es[j]? = some e0) : es.findIdx? (fun e => (e.born : Int) == (e0.born : Int)) = some j := by
  rw [Array.findIdx?_eq_some_iff_getElem]
  obtain ⟨hj, he⟩ := Array.getElem?_eq_some_iff.1 h3
  refine ⟨hj, by rw [he]; simp, fun i hi => ?_⟩
  have hp := List.pairwise_iff_getElem.1 hn i j (by simp; omega) (by simp; exact hj) hi
  simp only [List.getElem_map, Array.getElem_toList] at hp
  rw [he] at hp
  simp only [beq_iff_eq, Int.natCast_inj]
  exact hp
theorem born_push {es : Array MapEntry} {clock : Nat} {x : Value} (ho : ∀ e ∈ es.toList, e.born < clock) (z : Value) : (es.push ⟨x, z, clock⟩).findIdx? (fun e => (e.born : Int) == (clock : Int)) = some es.size := by
  rw [Array.findIdx?_eq_some_iff_getElem]
  refine ⟨by simp, by simp, fun i hi => ?_⟩
  rw [Array.getElem_push_lt hi]
  have := ho es[i] (by simp)
  simp only [beq_iff_eq, Int.natCast_inj]
  omega
theorem push_modify {es : Array MapEntry} (x z v : Value) (c : Nat) : (es.push ⟨x, z, c⟩).modify es.size (fun e => { e with val := v }) = es.push ⟨x, v, c⟩ := by
  apply Array.ext'
  have h3' : (es.push ⟨x, z, c⟩).toList[es.size]? = some ⟨x, z, c⟩ := by simp
  rw [Array.toList_modify, modify_eq_set _ _ _ _ h3']
  simp
/-- An entry is looked at, and stored. -/
theorem mapR_entry [DecidableEq κ] (h : MapR enc ok W b l) (E : KeyEnc P k enc ok) (ht : P.underlying t = some (.map k e)) {z : Value} (hz : (zeroValue e).run P W = .ok z W) {x : κ} (hx : ok x) :
    ∃ (W1 : World) (st : Nat), (Instr.mapEntry t (.map (some b)) (enc x)).run P W = .ok (.tuple #[(at? l x).getD z, goInt st]) W1 ∧ W.grownBy W1 (some b) ∧ MapR enc ok W1 b (put l x ((at? l x).getD z)) ∧
      ∀ W2 : World, W2.heap[b]? = W1.heap[b]? → ∀ v, ∃ W3, (Instr.entryStore t (.map (some b)) (goInt st) v).run P W2 = .ok () W3 ∧ MapR enc ok W3 b (put l x v) ∧ W2.grownBy W3 (some b) := by
  obtain ⟨es, clock, hb, R⟩ := h
  obtain ⟨lx, hlx⟩ := E.lit x hx
  rcases entR_find E R W hx with ⟨h1, h2⟩ | ⟨j, v0, e0, h1, h2, h3, h4, h5⟩
  · have h1' : ∀ w, (Instr.findKey k (enc x) es.toList).run P w = .ok none w := fun w => by
      rcases entR_find E R w hx with ⟨h, _⟩ | ⟨j, v, e1, _, hl, _⟩
      · exact h
      · exact absurd (List.mem_map.2 ⟨_, List.mem_of_getElem? hl, rfl⟩) h2
    rw [at_none h2]
    refine ⟨setBlock W b (.map (es.push ⟨enc x, z, clock⟩) (clock + 1)), clock, ?_, gb_block hb, entry_new hb R E ht hx h1' z, fun W2 hW2 v => ?_⟩
    · simp [Instr.mapEntry, run_underlying ht, MapKept.run_getObj_map hb, E.keyed.check W false hlx, h1, hz, MapKept.run_setObj_map _ hb, Result.andThen, setBlock]
    · have hb2 : W2.heap[b]? = some (.map (es.push ⟨enc x, z, clock⟩) (clock + 1)) := hW2.trans (heap_setBlock_same hb _)
      refine ⟨setBlock W2 b (.map (es.push ⟨enc x, v, clock⟩) (clock + 1)), ?_, mapR_block (entry_new hb R E ht hx h1' v) (heap_setBlock_same hb _) (heap_setBlock_same hb2 _), gb_block hb2⟩
      simp [Instr.entryStore, MapKept.run_getObj_map hb2, asInt, asIntOf, goInt, Result.andThen, born_push R.old z, push_modify, MapKept.run_setObj_map _ hb2, setBlock]
  · subst h5
    have h1' : ∀ w, (Instr.findKey k (enc x) es.toList).run P w = .ok (some (j, e0.val)) w := fun w => by
      rcases entR_find E R w hx with ⟨_, h⟩ | ⟨j', v', e1, hh, hl, hj, hk, hv⟩
      · exact absurd (List.mem_map.2 ⟨_, List.mem_of_getElem? h2, rfl⟩) h
      · have e1 := at_some R.nodup h2
        have e2 := at_some R.nodup hl
        have hjj : j' = j := by
          obtain ⟨hjl, hje⟩ := List.getElem?_eq_some_iff.1 h2
          obtain ⟨hil, hie⟩ := List.getElem?_eq_some_iff.1 hl
          have n := List.pairwise_iff_getElem.1 (show (l.map (·.1)).Pairwise (· ≠ ·) from R.nodup)
          rcases Nat.lt_trichotomy j' j with hlt | heq | hlt
          · exact (n j' j (by simpa using hil) (by simpa using hjl) hlt (by simp [hie, hje])).elim
          · exact heq
          · exact (n j j' (by simpa using hjl) (by simpa using hil) hlt (by simp [hie, hje])).elim
        rw [hh, hjj]
        rw [e1] at e2
        rw [← Option.some.inj e2]
    have hj : es[j]? = some e0 := by simpa using h3
    rw [at_some R.nodup h2]
    have hsame : es.modify j (fun e' => { e' with key := enc x }) = es := modify_same hj _ (by rw [← h4])
    have hput : MapR enc ok W b (put l x e0.val) := by
      have := entry_old hb R E ht hx h1' hj h4 e0.val
      rw [modify_same hj _ (by rw [← h4])] at this
      exact mapR_block this (heap_setBlock_same hb _) hb
    refine ⟨setBlock W b (.map es clock), e0.born, ?_, gb_block hb, mapR_block hput hb (heap_setBlock_same hb _), fun W2 hW2 v => ?_⟩
    · simp [Instr.mapEntry, run_underlying ht, MapKept.run_getObj_map hb, E.keyed.check W false hlx, h1, hj, h4, E.keyed.stays W hlx, hsame, MapKept.run_setObj_map _ hb, Result.andThen, setBlock]
    · have hb2 : W2.heap[b]? = some (.map es clock) := hW2.trans (heap_setBlock_same hb _)
      refine ⟨setBlock W2 b (.map (es.modify j fun e' => { e' with key := enc x, val := v }) clock), ?_, mapR_block (entry_old hb R E ht hx h1' hj h4 v) (heap_setBlock_same hb _) (heap_setBlock_same hb2 _), gb_block hb2⟩
      have hm : es.modify j (fun e' => { e' with val := v }) = es.modify j (fun e' => { e' with key := enc x, val := v }) := modify_eq hj _ _ (by rw [← h4])
      simp [Instr.entryStore, MapKept.run_getObj_map hb2, asInt, asIntOf, goInt, Result.andThen, born_idx R.born hj, hm, MapKept.run_setObj_map _ hb2, setBlock]
end
end Go.Proofs.Ytbdmmikflkpmpaa
end

section
set_option linter.unusedVariables false
set_option linter.unusedSimpArgs false
namespace Go.Proofs.Ytbdmmikflkpmpaa
open Go.RowKit Go.TL Go.Shelf Go.Pn
attribute [local go_sem] Oper.semAt_some
attribute [local go_sem] run_store_func
abbrev LW := List (A6 × Nat)
def lwV (lw : LW) : List (A6 × Value) := lw.map fun p => (p.1, iv p.2)
def keysW (lw : LW) : List A6 := lw.map (·.1)
theorem lwV_keys (lw : LW) : (lwV lw).map (·.1) = keysW lw := by simp [lwV, keysW]
def getN (lw : LW) (x : A6) : Nat := ((lw.find? fun p => decide (p.1 = x)).map (·.2)).getD 0
def addN (lw : LW) (x : A6) (m : Nat) : LW := if x ∈ keysW lw then lw.map (fun p => if p.1 = x then (x, p.2 + m) else p) else lw ++ [(x, m)]
def wsum (F : A6 → Nat) (lw : LW) : Nat := (lw.map fun p => F p.1 * p.2).sum
theorem at_lw (lw : LW) (x : A6) : (at? (lwV lw) x).getD (iv 0) = iv (getN lw x) := by
  unfold at? getN lwV
  rw [List.find?_map]
  have e : ((fun p : A6 × Value => decide (p.1 = x)) ∘ fun p : A6 × Nat => (p.1, iv p.2)) = fun p => decide (p.1 = x) := rfl
  rw [e]
  cases lw.find? (fun p => decide (p.1 = x)) <;> rfl
theorem getN_in {lw : LW} (hn : (keysW lw).Nodup) {p : A6 × Nat} (hp : p ∈ lw) : getN lw p.1 = p.2 := by
  unfold getN
  cases hf : lw.find? (fun q => decide (q.1 = p.1)) with
  | none =>
    have := List.find?_eq_none.1 hf p hp
    simp at this
  | some q =>
    have hq := List.find?_some hf
    have hqm := List.mem_of_find?_eq_some hf
    simp at hq
    have : q = p := by
      clear hf
      induction lw with
      | nil => simp at hp
      | cons a r ih =>
        simp only [keysW, List.map_cons, List.nodup_cons] at hn
        rcases List.mem_cons.1 hp with rfl | hp'
        · rcases List.mem_cons.1 hqm with h' | h'
          · exact h'
          · exact absurd (List.mem_map.2 ⟨q, h', hq⟩) hn.1
        · rcases List.mem_cons.1 hqm with h' | h'
          · subst h'
            exact absurd (List.mem_map.2 ⟨p, hp', hq.symm⟩) hn.1
          · exact ih hn.2 hp' h'
    rw [this]
    rfl
theorem put_lw {lw : LW} (hn : (keysW lw).Nodup) (x : A6) (m : Nat) : put (lwV lw) x (iv (getN lw x + m)) = lwV (addN lw x m) := by
  unfold put addN
  rw [lwV_keys]
  split
  · unfold lwV
    rw [List.map_map, List.map_map]
    refine List.map_congr_left fun p hp => ?_
    simp only [Function.comp]
    split
    · rename_i h
      have := getN_in hn hp
      rw [h] at this
      rw [this]
    · rfl
  · rename_i h
    have h0 : getN lw x = 0 := by
      unfold getN
      rw [List.find?_eq_none.2]
      · rfl
      · intro p hp he
        exact h (List.mem_map.2 ⟨p, hp, by simpa using he⟩)
    rw [h0, Nat.zero_add]
    simp [lwV]
theorem addN_keys {lw : LW} {x : A6} {m : Nat} : keysW (addN lw x m) = if x ∈ keysW lw then keysW lw else keysW lw ++ [x] := by
  unfold addN
  split
  · unfold keysW
    rw [List.map_map]
    refine List.map_congr_left fun p hp => ?_
    simp only [Function.comp]
    split
    · rename_i h; exact h.symm
    · rfl
  · simp [keysW]
theorem addN_nodup {lw : LW} (hn : (keysW lw).Nodup) (x : A6) (m : Nat) : (keysW (addN lw x m)).Nodup := by
  rw [addN_keys]
  split
  · exact hn
  · rename_i h
    rw [List.nodup_append]
    exact ⟨hn, by simp, fun a ha y hy e => by simp at hy; subst hy; subst e; exact h ha⟩
theorem getN_add0 {lw : LW} (hn : (keysW lw).Nodup) (x : A6) : getN (addN lw x 0) x = getN lw x := by
  by_cases h : x ∈ keysW lw
  · obtain ⟨p, hp, rfl⟩ := List.mem_map.1 h
    have hm : p ∈ addN lw p.1 0 := by
      unfold addN
      rw [if_pos h]
      exact List.mem_map.2 ⟨p, hp, by simp⟩
    rw [getN_in (addN_nodup hn _ _) hm, getN_in hn hp]
  · have h0 : getN lw x = 0 := by
      unfold getN
      rw [List.find?_eq_none.2]
      · rfl
      · intro p hp he
        exact h (List.mem_map.2 ⟨p, hp, by simpa using he⟩)
    have hm : (x, 0) ∈ addN lw x 0 := by
      unfold addN
      rw [if_neg h]
      simp
    rw [h0]
    exact getN_in (addN_nodup hn x 0) hm
theorem wsum_add (F : A6 → Nat) {lw : LW} (hn : (keysW lw).Nodup) (x : A6) (m : Nat) : wsum F (addN lw x m) = wsum F lw + F x * m := by
  unfold addN
  split
  · rename_i h
    induction lw with
    | nil => simp [keysW] at h
    | cons a r ih =>
      have hn' := hn
      simp only [keysW, List.map_cons, List.nodup_cons] at hn'
      unfold wsum
      rw [List.map_cons, List.map_cons, List.sum_cons, List.map_cons, List.sum_cons]
      by_cases e : a.1 = x
      · rw [if_pos e]
        have hr : (r.map fun p => if p.1 = x then (x, p.2 + m) else p) = r := by
          conv => rhs; rw [← List.map_id r]
          refine List.map_congr_left fun p hp => ?_
          rw [if_neg fun c => hn'.1 (by rw [e, ← c]; exact List.mem_map.2 ⟨p, hp, rfl⟩)]
          rfl
        rw [hr, e, Nat.mul_add]
        show F x * a.2 + F x * m + _ = F x * a.2 + _ + F x * m
        omega
      · rw [if_neg e]
        have hx : x ∈ keysW r := by
          simp only [keysW, List.map_cons, List.mem_cons] at h
          rcases h with h | h
          · exact absurd h.symm e
          · exact h
        have := ih hn'.2 hx
        unfold wsum at this
        rw [this]
        omega
  · unfold wsum
    rw [List.map_append, List.sum_append]
    simp
theorem wsum_split (F : A6 → Nat) (pre post : LW) (p : A6 × Nat) : wsum F (pre ++ p :: post) = wsum F (pre ++ post) + F p.1 * p.2 := by
  unfold wsum
  simp only [List.map_append, List.map_cons, List.sum_append, List.sum_cons]
  omega
theorem wsum_mem (F : A6 → Nat) {lw : LW} {p : A6 × Nat} (h : p ∈ lw) : F p.1 * p.2 ≤ wsum F lw := by
  obtain ⟨a, b, rfl⟩ := List.append_of_mem h
  rw [wsum_split]
  omega
/-- Behind the first sets. -/
def setsTo (k f : Nat) (x : A6) (m : Nat) (ln : LW) : Nat → LW
  | 0 => ln
  | s + 1 => if okS k f s && canL x.1 s then addN (setsTo k f x m ln s) (sub6 x s) m else setsTo k f x m ln s
theorem setsTo_nodup {k f : Nat} {x : A6} {m : Nat} {ln : LW} (hn : (keysW ln).Nodup) : ∀ s, (keysW (setsTo k f x m ln s)).Nodup
  | 0 => hn
  | s + 1 => by
    unfold setsTo
    split
    · exact addN_nodup (setsTo_nodup hn s) _ _
    · exact setsTo_nodup hn s
theorem setsTo_sum (F : A6 → Nat) {k f : Nat} {x : A6} {m : Nat} {ln : LW} (hn : (keysW ln).Nodup) : ∀ s, wsum F (setsTo k f x m ln s) = wsum F ln + ((List.range s).map fun s => if okS k f s && canL x.1 s then F (sub6 x s) else 0).sum * m
  | 0 => by simp [setsTo]
  | s + 1 => by
    rw [List.range_succ, List.map_append, List.sum_append]
    unfold setsTo
    have ih := setsTo_sum F (k := k) (f := f) (x := x) (m := m) hn s
    by_cases h : (okS k f s && canL x.1 s) = true
    · rw [if_pos h, wsum_add F (setsTo_nodup hn s), ih]
      simp only [List.map_cons, List.map_nil, List.sum_cons, List.sum_nil, if_pos h, Nat.add_mul]
      omega
    · rw [if_neg h, ih]
      simp only [List.map_cons, List.map_nil, List.sum_cons, List.sum_nil, if_neg h]
      simp
theorem sum_le_range (g : Nat → Nat) (h : ∀ s, g s ≤ 1) : ∀ n, ((List.range n).map g).sum ≤ n
  | 0 => by simp
  | n + 1 => by
    rw [List.range_succ, List.map_append, List.sum_append]
    have := sum_le_range g h n
    have := h n
    simp only [List.map_cons, List.map_nil, List.sum_cons, List.sum_nil]
    omega
/-- No more than all sets. -/
theorem setsTo_le {k f : Nat} {x : A6} {m : Nat} {ln : LW} (hn : (keysW ln).Nodup) (s : Nat) : wsum (fun _ => 1) (setsTo k f x m ln s) ≤ wsum (fun _ => 1) ln + s * m := by
  rw [setsTo_sum _ hn]
  have := Nat.mul_le_mul_right m (sum_le_range (fun s => if okS k f s && canL x.1 s then 1 else 0) (fun s => by split <;> omega) s)
  omega
theorem setsTo_ways {n k f : Nat} {r : List (Nat × Nat)} {x : A6} {m : Nat} {ln : LW} (hn : (keysW ln).Nodup) : wsum (fun y => ways n r y.1) (setsTo k f x m ln (2 ^ n)) = wsum (fun y => ways n r y.1) ln + ways n ((k, f) :: r) x.1 * m := by
  rw [setsTo_sum _ hn]
  rfl
theorem okA_sub {x : A6} (h : okA x) (s : Nat) : okA (sub6 x s) := subL_le h
end Go.Proofs.Ytbdmmikflkpmpaa
end

section
set_option linter.unusedVariables false
set_option linter.unusedSimpArgs false
namespace Go.Proofs.Ytbdmmikflkpmpaa
open Go.RowKit Go.TL Go.Shelf Go.Pn
attribute [local go_sem] Oper.semAt_some
attribute [local go_sem] run_store_func
noncomputable abbrev ccode : Code := Try.f17.body.getD .skip
noncomputable abbrev cround : Code := sub ccode [1, 1, 1, 1, 1, 1, 1, 0, 1, 0, 0, 1, 1, 0, 0, 1, 1, 0, 1, 0, 0, 1, 1, 0, 1, 1, 0, 0, 1, 1, 0, 0]
theorem map_book {W : World} {b : Nat} {l : List (A6 × Value)} (h : MapR encA okA W b l) : ∀ j o, some b = some j → W.heap[j]? = some o → book o = false := by
  intro j o e ho
  obtain ⟨es, c, hb, _⟩ := h
  cases e
  rw [hb] at ho
  cases ho
  rfl
theorem six_get {W : World} {b : Nat} {a c d e f g : Nat} (h : W.heap[b]? = some (.cells #[iv a, iv c, iv d, iv e, iv f, iv g] 88 (0, 0))) : W.cell? ⟨b, 0, none⟩ = some (iv a) ∧ W.cell? ⟨b, 1, none⟩ = some (iv c) ∧ W.cell? ⟨b, 2, none⟩ = some (iv d) ∧ W.cell? ⟨b, 3, none⟩ = some (iv e) ∧ W.cell? ⟨b, 4, none⟩ = some (iv f) ∧ W.cell? ⟨b, 5, none⟩ = some (iv g) :=
  ⟨cells_get (cs := [_, _, _, _, _, _]) (k := 0) h rfl, cells_get (cs := [_, _, _, _, _, _]) (k := 1) h rfl, cells_get (cs := [_, _, _, _, _, _]) (k := 2) h rfl, cells_get (cs := [_, _, _, _, _, _]) (k := 3) h rfl, cells_get (cs := [_, _, _, _, _, _]) (k := 4) h rfl, cells_get (cs := [_, _, _, _, _, _]) (k := 5) h rfl⟩
def SixAt (W : World) (b : Nat) (a c d e f g : Nat) : Prop := W.cell? ⟨b, 0, none⟩ = some (iv a) ∧ W.cell? ⟨b, 1, none⟩ = some (iv c) ∧ W.cell? ⟨b, 2, none⟩ = some (iv d) ∧ W.cell? ⟨b, 3, none⟩ = some (iv e) ∧ W.cell? ⟨b, 4, none⟩ = some (iv f) ∧ W.cell? ⟨b, 5, none⟩ = some (iv g)
/-- Behind a set. -/
def CtE (bn : Nat) (W0 : World) (ln : LW) (t : Array Value) (W : World) (pp b10 i kd m N s : Nat) (u1 u2 u3 u6 u30 u31 u39 : Value) : Prop :=
  W0.grownBy W (some bn) ∧ MapR encA okA W bn (lwV ln) ∧ Slots (none :: some (u1) :: some (u2) :: some (u3) :: some (.pointer (some ⟨pp, 0, none⟩)) :: none :: some (u6) :: some (iv i) :: some (iv kd) :: some (.map (some bn)) :: some (.pointer (some ⟨b10, 0, none⟩)) :: some (iv m) :: none :: none :: o16 (some (u30) :: some (u31) :: some (iv i) :: none :: none :: o4 (some (u39) :: o4 (o4 (some (u64 N) :: some (u64 s) :: none :: o4 (o4 (o4 (o16 (o16 []))))))))) t
set_option maxRecDepth 100000 in
set_option maxHeartbeats 2000000 in
/-- More ways to these loads. -/
theorem cnt_add {W : World} {x : A6} {bn b13 m : Nat} {ln : LW} (hn : (keysW ln).Nodup) (hx : okA x) (hM : MapR encA okA W bn (lwV ln)) (h13 : W.heap[b13]? = some (.cells (x.1.map iv).toArray 88 (0, 0))) (hne : b13 ≠ bn) (hg : getN ln x + m < 2 ^ 60) {pp b10 i kd N s : Nat} {u1 u2 u3 u6 u30 u31 u39 : Value} {t : Array Value} (hSl : Slots (none :: some (u1) :: some (u2) :: some (u3) :: some (.pointer (some ⟨pp, 0, none⟩)) :: none :: some (u6) :: some (iv i) :: some (iv kd) :: some (.map (some bn)) :: some (.pointer (some ⟨b10, 0, none⟩)) :: some (iv m) :: none :: some (.pointer (some ⟨b13, 0, none⟩)) :: o16 (some (u30) :: some (u31) :: some (iv i) :: none :: none :: o4 (some (u39) :: o4 (o4 (some (u64 N) :: some (u64 s) :: none :: o4 (o4 (o4 (o16 (o16 []))))))))) t) {Q : Exit → Array Value → World → Prop}
    (hR : ∀ t W', W.grownBy W' (some bn) → MapR encA okA W' bn (lwV (addN ln x m)) → Slots (none :: some (u1) :: some (u2) :: some (u3) :: some (.pointer (some ⟨pp, 0, none⟩)) :: none :: some (u6) :: some (iv i) :: some (iv kd) :: some (.map (some bn)) :: some (.pointer (some ⟨b10, 0, none⟩)) :: some (iv m) :: none :: none :: o16 (some (u30) :: some (u31) :: some (iv i) :: none :: none :: o4 (some (u39) :: o4 (o4 (some (u64 N) :: some (u64 s) :: none :: o4 (o4 (o4 (o16 (o16 []))))))))) t → Q .normal t W') :
    Exec Try.prog none (sub cround [1, 1, 1, 1, 0]) t W Q := by
  have hu88 := Try.underlying88
  have hu89 := Try.underlying89
  obtain ⟨l, hl⟩ := x
  obtain ⟨y0, y1, y2, y3, y4, y5, rfl⟩ := six hl
  obtain ⟨X6, hX6⟩ : ∃ X6 : A6, X6 = ⟨[y0, y1, y2, y3, y4, y5], hl⟩ := ⟨_, rfl⟩
  rw [← hX6] at hx hg hR
  have henc : encA X6 = .agg #[iv y0, iv y1, iv y2, iv y3, iv y4, iv y5] := by rw [hX6]; rfl
  have hput := put_lw hn X6 m
  have hat := at_lw ln X6
  generalize getN ln X6 = g at *
  have hlook : ∀ Z, (∃ l', MapR encA okA Z bn l' ∧ (at? l' X6).getD (iv 0) = iv g) → (Instr.lookup 89 (.map (some bn)) (.agg #[iv y0, iv y1, iv y2, iv y3, iv y4, iv y5]) false).run Try.prog Z = .ok (iv g) Z := fun Z ⟨l', h1, h2⟩ => by
    have := MapR.lookup (P := Try.prog) h1 keyA hu89 (z := .int .i64 0) (e := 3) rfl hx false
    rw [henc] at this
    rw [this]
    show Result.ok ((at? l' X6).getD (iv 0)) Z = _
    rw [h2]
  have hSix : SixAt W b13 y0 y1 y2 y3 y4 y5 := six_get h13
  obtain ⟨x, hx⟩ := Slots.open_ hSl; simp only [fill, Nat.reduceAdd] at hx; subst hx; clear hSl
  show Exec _ _ (Code.region _ _ true) _ _ _
  refine region_of_tail 7 (by kernel_rfl) (by kernel_rfl) (by kernel_rfl) (fun Z => SixAt Z b13 y0 y1 y2 y3 y4 y5 ∧ ∃ l', MapR encA okA Z bn l' ∧ (at? l' X6).getD (iv 0) = iv g) (fun _ _ _ => False) (fun _ _ _ h => h.elim) fun ds => ?_
  have hd : Below W.heap.size W W.drew := (Below.refl _ W).drew
  have hMd : MapR encA okA W.drew bn (lwV ln) := hM.kept (hd.block _ hM.lt)
  have h13d : W.drew.heap[b13]? = some (.cells #[iv y0, iv y1, iv y2, iv y3, iv y4, iv y5] 88 (0, 0)) := (hd.block _ (heap_lt h13)).trans h13
  have hS : SixAt W.drew b13 y0 y1 y2 y3 y4 y5 ∧ ∃ l', MapR encA okA W.drew bn l' ∧ (at? l' X6).getD (iv 0) = iv g := ⟨six_get h13d, _, hMd, hat⟩
  have hw : IntKind.i64.wrap ((g : Int) + m) = ((g + m : Nat) : Int) := by rw [IntWalk.i64_in _ (by omega)]; norm_cast
  refine held_take 0 (.map (some bn)) rfl (by kernel_rfl) (by kernel_rfl) (by kernel_rfl) (by intro _ _ _ h; first | exact h | (simpa [behind, Act.put] using h)) rfl (by first | exact hS | assumption) (fun wq hq => ?_) ?_; (focus (first | rfl | (simp [go_sem]; done))); simp only [Act.put, Array.getInternal_eq_getElem, List.take_succ_cons, List.take_zero, List.take_nil, List.getElem_toArray, List.getElem_cons_succ, List.getElem_cons_zero, List.setIfInBounds_toArray, List.set_cons_succ, List.set_cons_zero]
  refine held_take 1 (.agg #[iv y0, iv y1, iv y2, iv y3, iv y4, iv y5]) rfl (by kernel_rfl) (by kernel_rfl) (by kernel_rfl) (by intro _ _ _ h; first | exact h | (simpa [behind, Act.put] using h)) rfl (by first | exact hS | assumption) (fun wq hq => ?_) ?_; (focus (simp [go_sem, hu88, hq.1.1, hq.1.2.1, hq.1.2.2.1, hq.1.2.2.2.1, hq.1.2.2.2.2.1, hq.1.2.2.2.2.2]; done)); simp only [Act.put, Array.getInternal_eq_getElem, List.take_succ_cons, List.take_zero, List.take_nil, List.getElem_toArray, List.getElem_cons_succ, List.getElem_cons_zero, List.setIfInBounds_toArray, List.set_cons_succ, List.set_cons_zero]
  refine held_take 2 (iv g) rfl (by kernel_rfl) (by kernel_rfl) (by kernel_rfl) (by intro _ _ _ h; first | exact h | (simpa [behind, Act.put] using h)) rfl (by first | exact hS | assumption) (fun wq hq => ?_) ?_; (focus (simp [go_sem, hlook wq hq.2]; done)); simp only [Act.put, Array.getInternal_eq_getElem, List.take_succ_cons, List.take_zero, List.take_nil, List.getElem_toArray, List.getElem_cons_succ, List.getElem_cons_zero, List.setIfInBounds_toArray, List.set_cons_succ, List.set_cons_zero]
  refine held_take 3 (iv m) rfl (by kernel_rfl) (by kernel_rfl) (by kernel_rfl) (by intro _ _ _ h; first | exact h | (simpa [behind, Act.put] using h)) rfl (by first | exact hS | assumption) (fun wq hq => ?_) ?_; (focus (first | rfl | (simp [go_sem]; done))); simp only [Act.put, Array.getInternal_eq_getElem, List.take_succ_cons, List.take_zero, List.take_nil, List.getElem_toArray, List.getElem_cons_succ, List.getElem_cons_zero, List.setIfInBounds_toArray, List.set_cons_succ, List.set_cons_zero]
  refine held_take 4 (iv (g + m)) rfl (by kernel_rfl) (by kernel_rfl) (by kernel_rfl) (by intro _ _ _ h; first | exact h | (simpa [behind, Act.put] using h)) rfl (by first | exact hS | assumption) (fun wq hq => ?_) ?_; (focus (simp [go_sem, hw]; done)); simp only [Act.put, Array.getInternal_eq_getElem, List.take_succ_cons, List.take_zero, List.take_nil, List.getElem_toArray, List.getElem_cons_succ, List.getElem_cons_zero, List.setIfInBounds_toArray, List.set_cons_succ, List.set_cons_zero]
  obtain ⟨W1, st, hrun, hg1, hM1, hst⟩ := mapR_entry (P := Try.prog) hMd keyA hu89 (z := .int .i64 0) rfl hx
  have hat' : (at? (lwV ln) X6).getD (.int .i64 0) = iv g := hat
  rw [henc, hat'] at hrun
  rw [hat'] at hM1
  have hp0 : put (lwV ln) X6 (iv g) = lwV (addN ln X6 0) := by
    have := put_lw hn X6 0
    have hgg := at_lw ln X6
    rw [hat] at hgg
    simp only [Value.int.injEq, Int.natCast_inj, true_and] at hgg
    rw [← hgg] at this
    exact this
  have hat0 : (at? (lwV (addN ln X6 0)) X6).getD (iv 0) = iv g := by
    rw [at_lw, getN_add0 hn, ← at_lw]
    exact hat
  rw [hp0] at hM1
  have h131 : W1.heap[b13]? = some (.cells #[iv y0, iv y1, iv y2, iv y3, iv y4, iv y5] 88 (0, 0)) := (hg1.block _ (heap_lt h13d) (fun e => hne (Option.some.inj e))).trans h13d
  have hS1 : SixAt W1 b13 y0 y1 y2 y3 y4 y5 ∧ ∃ l', MapR encA okA W1 bn l' ∧ (at? l' X6).getD (iv 0) = iv g := ⟨six_get h131, _, hM1, hat0⟩
  refine held_mk 5 (.tuple #[iv g, .int .i64 st]) W1 rfl (by kernel_rfl) rfl (by simp [go_sem, hrun]) hS1 ?_
  simp only [Act.put, Array.getInternal_eq_getElem, List.take_succ_cons, List.take_zero, List.take_nil, List.getElem_toArray, List.getElem_cons_succ, List.getElem_cons_zero, List.setIfInBounds_toArray, List.set_cons_succ, List.set_cons_zero]
  refine held_take 6 (.int .i64 st) rfl (by kernel_rfl) (by kernel_rfl) (by kernel_rfl) (by intro _ _ _ h; first | exact h | (simpa [behind, Act.put] using h)) rfl (by first | exact hS | assumption) (fun wq hq => ?_) ?_; (focus (simp [go_sem]; done)); simp only [Act.put, Array.getInternal_eq_getElem, List.take_succ_cons, List.take_zero, List.take_nil, List.getElem_toArray, List.getElem_cons_succ, List.getElem_cons_zero, List.setIfInBounds_toArray, List.set_cons_succ, List.set_cons_zero]
  refine held_done (by kernel_rfl) ?_
  refine behind_normal 1 (by kernel_rfl) ?_
  obtain ⟨W3, hrun3, hM3, hg3⟩ := hst W1 rfl (iv (g + m))
  have hrun3' : (Instr.entryStore 89 (.map (some bn)) (.int .i64 st) (iv (g + m))).run Try.prog W1 = .ok () W3 := hrun3
  refine any_skip 7 (W3) rfl (by kernel_rfl) rfl (by simp [go_sem, hrun3']) ?_; simp only [Act.put, Array.getInternal_eq_getElem, List.take_succ_cons, List.take_zero, List.take_nil, List.getElem_toArray, List.getElem_cons_succ, List.getElem_cons_zero, List.setIfInBounds_toArray, List.set_cons_succ, List.set_cons_zero]
  have hgd : W.grownBy W.drew (some bn) := ⟨rfl, rfl, rfl, Nat.le_refl _, fun _ _ _ => rfl⟩
  have hgA := (hgd.trans hg1).trans hg3
  refine any_done (by kernel_rfl) ⟨rfl, (Keep.refl W).grown hgA (map_book hM), ?_⟩
  refine hR _ W3 hgA ?_ (by simp [Slots, Fits])
  rw [hput] at hM3
  exact hM3
end Go.Proofs.Ytbdmmikflkpmpaa
end

section
set_option linter.unusedVariables false
set_option linter.unusedSimpArgs false
namespace Go.Proofs.Ytbdmmikflkpmpaa
open Go.RowKit Go.TL Go.Shelf Go.Pn
attribute [local go_sem] Oper.semAt_some
attribute [local go_sem] run_store_func
theorem getN_le (ln : LW) (x : A6) : getN ln x ≤ wsum (fun _ => 1) ln := by
  unfold getN
  cases hf : ln.find? (fun p => decide (p.1 = x)) with
  | none => exact Nat.zero_le _
  | some p =>
    have := wsum_mem (fun _ => 1) (List.mem_of_find?_eq_some hf)
    simpa using this
theorem map_nodup {W : World} {b : Nat} {ln : LW} (h : MapR encA okA W b (lwV ln)) : (keysW ln).Nodup := by
  obtain ⟨es, c, _, R⟩ := h
  have := R.nodup
  rwa [lwV_keys] at this
theorem grownBy_below {W W' : World} {g : Option Nat} (h : Below W.heap.size W W') : W.grownBy W' g := ⟨h.os, h.tape, h.output, h.size, fun i hi _ => h.block i hi⟩
def cntS (k f : Nat) (x : A6) (m : Nat) (ln : LW) (s : Nat) : LW := if okS k f s && canL x.1 s then addN ln (sub6 x s) m else ln
set_option maxRecDepth 100000 in
set_option maxHeartbeats 2000000 in
theorem cnt_round {V0 : World} {pp : Nat} {P : Pnl} {mm : PM} (hP : PnlAt V0 pp P mm) {W : World} (hV : Below V0.heap.size V0 W) {bn b10 : Nat} (hbn : V0.heap.size ≤ bn) {x : A6} (hx : okA x) (h10 : W.heap[b10]? = some (.cells (x.1.map iv).toArray 88 (0, 0))) (hne : b10 ≠ bn) {ln : LW} (hM : MapR encA okA W bn (lwV ln)) {i kd m N s : Nat} (hi : i < P.needs.length) (hs : s < 64) (hb : wsum (fun _ => 1) ln + m < 2 ^ 59)
    {u1 u2 u3 u6 u30 u31 u39 : Value} {t : Array Value} (hSl : Slots (none :: some (u1) :: some (u2) :: some (u3) :: some (.pointer (some ⟨pp, 0, none⟩)) :: none :: some (u6) :: some (iv i) :: some (iv kd) :: some (.map (some bn)) :: some (.pointer (some ⟨b10, 0, none⟩)) :: some (iv m) :: none :: none :: o16 (some (u30) :: some (u31) :: some (iv i) :: none :: none :: o4 (some (u39) :: o4 (o4 (some (u64 N) :: some (u64 s) :: none :: o4 (o4 (o4 (o16 (o16 []))))))))) t) {Q : Exit → Array Value → World → Prop}
    (hR : ∀ e t W', e = .normal ∨ e = .exit 5 → W.grownBy W' (some bn) → MapR encA okA W' bn (lwV (cntS kd (P.fit.getD i 0) x m ln s)) → Slots (none :: some (u1) :: some (u2) :: some (u3) :: some (.pointer (some ⟨pp, 0, none⟩)) :: none :: some (u6) :: some (iv i) :: some (iv kd) :: some (.map (some bn)) :: some (.pointer (some ⟨b10, 0, none⟩)) :: some (iv m) :: none :: none :: o16 (some (u30) :: some (u31) :: some (iv i) :: none :: none :: o4 (some (u39) :: o4 (o4 (some (u64 N) :: some (u64 s) :: none :: o4 (o4 (o4 (o16 (o16 []))))))))) t → Q e t W') :
    Exec Try.prog none cround t W Q := by
  have hu88 := Try.underlying88
  have hu75 := Try.underlying75
  have hu73 := Try.underlying73
  have hiI : (i : Int) < P.needs.length := by omega
  have hifl : i < P.fit.length := by rw [hP.fl]; exact hi
  obtain ⟨f, hfe⟩ : ∃ f, P.fit.getD i 0 = f := ⟨_, rfl⟩
  have hflt : f < 2 ^ 64 := by rw [← hfe]; exact hP.fb _ (mem_getD hifl)
  obtain ⟨ad, hA, hcf⟩ := row_u64 hP.rf hifl
  have he3 := cells_get (cs := [_, _, _, _]) (k := 3) hP.heap rfl
  rw [hfe] at hcf hR
  rw [hA] at he3
  clear hfe hA
  obtain ⟨LN, hLN⟩ : ∃ LN, cntS kd f x m ln s = LN := ⟨_, rfl⟩
  rw [hLN] at hR
  have HLN := Lib.hid hLN
  clear hLN
  obtain ⟨l, hl⟩ := x
  obtain ⟨x0, x1, x2, x3, x4, x5, rfl⟩ := six hl
  obtain ⟨x, hx⟩ := Slots.open_ hSl; simp only [fill, Nat.reduceAdd] at hx; subst hx; clear hSl
  show Exec _ _ (Code.seq _ _) _ _ _
  refine exec_seq (exec_region_o fun ds => ?_)
  gi_wp2
  refine eq_mk (Keep.refl _) ?_
  show Exec _ _ (Code.seq (Code.seq _ _) _) _ _ _
  refine exec_seq (exec_seq (exec_region_o fun ds => ?_))
  gi_wp2_with fail
  refine ⟨trivial, rfl, (callsIn_wide.2 (size55 s (by omega) W)).mono ?_⟩
  rintro e X ⟨rfl, hwx⟩
  have hVX := hV.trans (hwx.mono hV.size)
  have hMX : MapR encA okA X bn (lwV ln) := hM.kept (hwx.block _ hM.lt)
  have h10X : X.heap[b10]? = some (.cells #[iv x0, iv x1, iv x2, iv x3, iv x4, iv x5] 88 (0, 0)) := (hwx.block _ (heap_lt h10)).trans h10
  have hgX : W.grownBy X (some bn) := grownBy_below hwx
  have g3 := (Grow.of_below (B := 0) hVX).cell he3
  have gf := (Grow.of_below (B := 0) hVX).cell hcf
  have hKX := Keep.of_below hwx
  clear hM h10 hV he3 hcf hwx
  obtain ⟨z, hz⟩ : ∃ z, pop s = z := ⟨_, rfl⟩
  have hok : okS kd f s = (decide (z = kd) && ((s &&& (2 ^ 64 - 1 - f)) == 0)) := by
    rw [← hz]
    unfold okS
    congr 1
  simp only [hz]
  clear hz
  have han : bits .andNot .u64 (s : Int) (f : Int) = ((s &&& (2 ^ 64 - 1 - f) : Nat) : Int) := andNot_nat s f (by omega) hflt
  obtain ⟨q, hq⟩ : ∃ q, s &&& (2 ^ 64 - 1 - f) = q := ⟨_, rfl⟩
  rw [hq] at han hok
  clear hq
  have HOK := Lib.hid hok
  clear hok
  have hno : okS kd f s = false → LN = ln := fun h => by
    rw [← HLN.out]
    unfold cntS
    rw [h]
    rfl
  have HNO := Lib.hid hno
  clear hno
  by_cases hpk : z = kd
  · subst hpk
    gi_wp2
    refine eq_mk hKX ?_
    show Exec _ _ (Code.cond _ _ _) _ _ _
    cases hqz : (q == 0) with
    | false =>
      have hq0 : q ≠ 0 := by simpa using hqz
      refine exec_cond (b := true) (by first | (show Value.bool (decide _) = _; simp [hq0]; done) | (show Value.bool (!decide _) = _; simp [hq0]; done) | (show Value.bool (!(_ == _)) = _; simp [hq0]; done)) (fun _ => exec_exit ?_) (fun h => by cases h)
      refine hR _ _ X (.inr rfl) hgX ?_ (by simp [Slots, Fits])
      rw [HNO.out (by rw [HOK.out, hqz]; simp)]
      exact hMX
    | true =>
      have hq0 : q = 0 := by simpa using hqz
      subst hq0
      have hok1 : okS z f s = true := by rw [HOK.out]; simp
      refine exec_cond (b := false) rfl (fun h => by cases h) (fun _ => exec_skip ?_)
      clear g3 gf HOK HNO hKX han
      show Exec _ _ (Code.seq _ _) _ _ _
      obtain ⟨e0, e1, e2, e3, e4, e5⟩ := six_get h10X
      have hless := less64 [x0, x1, x2, x3, x4, x5] rfl s (by omega) hx X
      refine exec_seq (exec_region_o fun ds => ?_)
      gi_wp2_with fail
      refine ⟨trivial, rfl, (callsIn_wide.2 hless).mono ?_⟩
      rintro e Y ⟨⟨y, rfl, hy⟩, hxy⟩
      have hMY : MapR encA okA Y bn (lwV ln) := hMX.kept (hxy.block _ hMX.lt)
      have hgY := hgX.trans (grownBy_below hxy)
      have hKY := Keep.of_below hxy
      clear hless e0 e1 e2 e3 e4 e5 hMX hgX h10X
      obtain ⟨ly, hly⟩ := y
      obtain ⟨y0, y1, y2, y3, y4, y5, rfl⟩ := six hly
      obtain ⟨c, hc⟩ : ∃ c, canL [x0, x1, x2, x3, x4, x5] s = c := ⟨_, rfl⟩
      rw [hc] at hy ⊢
      have HC := Lib.hid hc
      have HY := Lib.hid hy
      clear hc hy
      simp only [encA, List.map_cons, List.map_nil]
      gi_wp2
      refine eq_mk (hKY.alloc _) ?_
      show Exec _ _ (Code.seq _ _) _ (Y.alloc (.cells #[iv y0, iv y1, iv y2, iv y3, iv y4, iv y5] 88)) _
      have hal := (Below.refl Y.heap.size Y).alloc (Nat.le_refl _) (.cells #[iv y0, iv y1, iv y2, iv y3, iv y4, iv y5] 88)
      have h13 : (Y.alloc (.cells #[iv y0, iv y1, iv y2, iv y3, iv y4, iv y5] 88)).heap[Y.heap.size]? = some (.cells #[iv y0, iv y1, iv y2, iv y3, iv y4, iv y5] 88 (0, 0)) := World.alloc_heap_new _ _
      have hMZ : MapR encA okA (Y.alloc (.cells #[iv y0, iv y1, iv y2, iv y3, iv y4, iv y5] 88)) bn (lwV ln) := hMY.kept (hal.block _ hMY.lt)
      have hgZ := hgY.trans (grownBy_below (g := some bn) hal)
      have hbY := hMY.lt
      clear hal hMY hgY hKY
      generalize Y.alloc (.cells #[iv y0, iv y1, iv y2, iv y3, iv y4, iv y5] 88) = Z at *
      generalize Y.heap.size = b13 at *
      refine exec_seq (exec_region_o fun ds => ?_)
      gi_wp2
      refine eq_mk (Keep.refl _) ?_
      show Exec _ _ (Code.cond _ _ _) _ _ _
      cases c with
      | false =>
        refine exec_cond (b := false) rfl (fun h => by cases h) (fun _ => exec_skip ?_)
        refine hR _ _ Z (.inl rfl) hgZ ?_ (by simp [Slots, Fits])
        have : LN = ln := by
          rw [← HLN.out]
          unfold cntS
          rw [hok1, show canL (⟨[x0, x1, x2, x3, x4, x5], hl⟩ : A6).1 s = false from HC.out]
          rfl
        rw [this]
        exact hMZ
      | true =>
        have hsub : (⟨[y0, y1, y2, y3, y4, y5], hly⟩ : A6) = sub6 ⟨[x0, x1, x2, x3, x4, x5], hl⟩ s := Subtype.ext (HY.out rfl)
        have hLN : LN = addN ln ⟨[y0, y1, y2, y3, y4, y5], hly⟩ m := by
          rw [← HLN.out]
          unfold cntS
          rw [hok1, show canL (⟨[x0, x1, x2, x3, x4, x5], hl⟩ : A6).1 s = true from HC.out, hsub]
          rfl
        have hoy : okA ⟨[y0, y1, y2, y3, y4, y5], hly⟩ := by
          rw [hsub]
          exact okA_sub hx s
        refine exec_cond (b := true) rfl (fun _ => ?_) (fun h => by cases h)
        have hgl := getN_le ln ⟨[y0, y1, y2, y3, y4, y5], hly⟩
        refine cnt_add (b13 := b13) (m := m) (kd := z) (i := i) (N := N) (s := s) (pp := pp) (b10 := b10) (u1 := u1) (u2 := u2) (u3 := u3) (u6 := u6) (u30 := u30) (u31 := u31) (u39 := u39) (map_nodup hMZ) hoy hMZ h13 (by omega) (by omega) (by simp [Slots, Fits]) ?_
        intro t W' hg' hM' hSl'
        rw [hLN] at hR
        exact hR _ _ W' (.inl rfl) (hgZ.trans hg') hM' hSl'
  · have hok0 : okS kd f s = false := by rw [HOK.out]; simp [hpk]
    clear HOK han
    have hpkI : ¬ ((z : Int) = kd) := by omega
    gi_wp2
    refine eq_mk hKX ?_
    show Exec _ _ (Code.cond _ _ _) _ _ _
    refine exec_cond (b := true) rfl (fun _ => exec_exit ?_) (fun h => by cases h)
    refine hR _ _ X (.inr rfl) hgX ?_ (by simp [Slots, Fits])
    rw [HNO.out hok0]
    exact hMX
end Go.Proofs.Ytbdmmikflkpmpaa
end

section
set_option linter.unusedVariables false
set_option linter.unusedSimpArgs false
namespace Go.Proofs.Ytbdmmikflkpmpaa
open Go.RowKit Go.TL Go.Shelf Go.Pn
attribute [local go_sem] Oper.semAt_some
attribute [local go_sem] run_store_func
noncomputable abbrev centry : Code := sub ccode [1, 1, 1, 1, 1, 1, 1, 0, 1, 0, 0, 1, 1, 0, 0, 1, 1, 0, 1, 0, 0, 1, 1, 0]
theorem grown_iter {W W' : World} {it bw bn : Nat} {l : List (A6 × Value)} (h : IterR encA W it bw l) (hg : W.grownBy W' (some bn)) (h1 : it ≠ bn) (h2 : bw ≠ bn) : IterR encA W' it bw l := by
  obtain ⟨es, clock, since, seen, c0, a, b, _⟩ := id h
  exact h.kept (hg.block _ (heap_lt a) (fun e => h2 (Option.some.inj e))) (hg.block _ (heap_lt b) (fun e => h1 (Option.some.inj e)))
theorem grown_map {W W' : World} {bw bn : Nat} {l : List (A6 × Value)} (h : MapR encA okA W bw l) (hg : W.grownBy W' (some bn)) (h2 : bw ≠ bn) : MapR encA okA W' bw l := h.kept (hg.block _ h.lt (fun e => h2 (Option.some.inj e)))
def CsI (V2 : World) (bn : Nat) (kdf f : Nat) (x : A6) (ln : LW) (pp b10 i kd m N : Nat) (u1 u2 u3 u6 u30 u31 u39 : Value) (n : Nat) (t : Array Value) (W : World) : Prop :=
  ∃ s : Nat, s ≤ N ∧ n = N - s ∧ V2.grownBy W (some bn) ∧ MapR encA okA W bn (lwV (setsTo kd f x m ln s)) ∧ Slots (none :: some (u1) :: some (u2) :: some (u3) :: some (.pointer (some ⟨pp, 0, none⟩)) :: none :: some (u6) :: some (iv i) :: some (iv kd) :: some (.map (some bn)) :: some (.pointer (some ⟨b10, 0, none⟩)) :: some (iv m) :: none :: none :: o16 (some (u30) :: some (u31) :: some (iv i) :: none :: none :: o4 (some (u39) :: o4 (o4 (some (u64 N) :: some (u64 s) :: none :: o4 (o4 (o4 (o16 (o16 []))))))))) t
def CsE (V2 : World) (bn : Nat) (f : Nat) (x : A6) (ln : LW) (pp i kd m N : Nat) (u1 u2 u3 u6 u30 u31 u39 : Value) (t : Array Value) (W : World) : Prop :=
  V2.grownBy W (some bn) ∧ MapR encA okA W bn (lwV (setsTo kd f x m ln N)) ∧ Slots (none :: some (u1) :: some (u2) :: some (u3) :: some (.pointer (some ⟨pp, 0, none⟩)) :: none :: some (u6) :: some (iv i) :: some (iv kd) :: some (.map (some bn)) :: o4 (o16 (some (u30) :: some (u31) :: some (iv i) :: none :: none :: o4 (some (u39) :: none :: none :: none :: o4 (o16 (o16 (o16 []))))))) t
set_option maxRecDepth 100000 in
set_option maxHeartbeats 2000000 in
theorem cnt_sets {V0 : World} {pp : Nat} {P : Pnl} {mm : PM} (hP : PnlAt V0 pp P mm) {V2 : World} (hV : Below V0.heap.size V0 V2) {bn b10 : Nat} (hbn : V0.heap.size ≤ bn) {xk : A6} (hx : okA xk) (h10 : V2.heap[b10]? = some (.cells (xk.1.map iv).toArray 88 (0, 0))) (hne : b10 ≠ bn) {ln : LW} (hM : MapR encA okA V2 bn (lwV ln)) {i kd m N : Nat} (hi : i < P.needs.length) (hN : N ≤ 64) (hb : wsum (fun _ => 1) ln + 65 * m < 2 ^ 59)
    {u1 u2 u3 u6 u30 u31 u39 : Value} {t : Array Value} {s : Nat} (hs0 : s = 0) (hSl : Slots (none :: some (u1) :: some (u2) :: some (u3) :: some (.pointer (some ⟨pp, 0, none⟩)) :: none :: some (u6) :: some (iv i) :: some (iv kd) :: some (.map (some bn)) :: some (.pointer (some ⟨b10, 0, none⟩)) :: some (iv m) :: none :: none :: o16 (some (u30) :: some (u31) :: some (iv i) :: none :: none :: o4 (some (u39) :: o4 (o4 (some (u64 N) :: some (u64 s) :: none :: o4 (o4 (o4 (o16 (o16 []))))))))) t) :
    Exec Try.prog none (sub centry [1, 1]) t V2 (andThen (CsE V2 bn (P.fit.getD i 0) xk ln pp i kd m N u1 u2 u3 u6 u30 u31 u39) fun _ _ _ => False) := by
  subst hs0
  obtain ⟨f, hfe⟩ : ∃ f, P.fit.getD i 0 = f := ⟨_, rfl⟩
  rw [hfe]
  have hn := map_nodup hM
  show Exec _ _ (Code.block _ _) _ _ _
  refine exec_block ?_
  refine exec_loop (CsI V2 bn kd f xk ln pp b10 i kd m N u1 u2 u3 u6 u30 u31 u39) N ⟨0, by omega, rfl, ⟨rfl, rfl, rfl, Nat.le_refl _, fun _ _ _ => rfl⟩, hM, hSl⟩ ?_
  clear hSl hM t
  rintro n t W ⟨s, hsN, hnn, hg, hM, hSl⟩
  have hle := setsTo_le (k := kd) (f := f) (x := xk) (m := m) hn s
  have hsm : s * m ≤ 64 * m := Nat.mul_le_mul_right m (by omega)
  have hsucc : setsTo kd f xk m ln (s + 1) = cntS kd f xk m (setsTo kd f xk m ln s) s := rfl
  have hend : s = N → setsTo kd f xk m ln s = setsTo kd f xk m ln N := fun e => by rw [e]
  have hbe : Below V0.heap.size V0 W := hV.grown hg hV.size (fun q e => by cases e; exact hbn)
  have h10W : W.heap[b10]? = some (.cells (xk.1.map iv).toArray 88 (0, 0)) := (hg.block _ (heap_lt h10) (fun e => hne (Option.some.inj e))).trans h10
  obtain ⟨x, hx⟩ := Slots.open_ hSl; simp only [fill, Nat.reduceAdd] at hx; subst hx; clear hSl
  show Exec _ _ (Code.seq _ (Code.seq _ _)) _ _ _
  refine exec_seq (exec_region_o fun ds => ?_)
  gi_wp2
  refine eq_mk (Keep.refl _) ?_
  show Exec _ _ (Code.seq (Code.cond _ _ _) _) _ _ _
  refine exec_seq (exec_cond (b := decide (s < N)) (by first | rfl | (show Value.bool _ = _; congr 1; exact decide_eq_decide.2 (by omega))) (fun hp => exec_skip ?_) (fun hp => exec_exit ?_))
  · have hsl : s < N := by have := of_decide_eq_true hp; omega
    show Exec _ _ (Code.seq (Code.block _ _) _) _ _ _
    refine exec_seq (exec_block ?_)
    show Exec _ _ cround _ _ _
    refine cnt_round (x := xk) (b10 := b10) (ln := setsTo kd f xk m ln s) (m := m) (kd := kd) (N := N) (s := s) (i := i) (u1 := u1) (u2 := u2) (u3 := u3) (u6 := u6) (u30 := u30) (u31 := u31) (u39 := u39) hP hbe hbn hx h10W hne hM hi (by omega) (by omega) (by simp [Slots, Fits]) ?_
    rintro e t W' he hg' hM' hSl'
    rw [hfe, ← hsucc] at hM'
    have hgA := hg.trans hg'
    have hfin : ∀ t' : Array Value, Slots (none :: some (u1) :: some (u2) :: some (u3) :: some (.pointer (some ⟨pp, 0, none⟩)) :: none :: some (u6) :: some (iv i) :: some (iv kd) :: some (.map (some bn)) :: some (.pointer (some ⟨b10, 0, none⟩)) :: some (iv m) :: none :: none :: o16 (some (u30) :: some (u31) :: some (iv i) :: none :: none :: o4 (some (u39) :: o4 (o4 (some (u64 N) :: some (u64 s) :: none :: o4 (o4 (o4 (o16 (o16 []))))))))) t' → Exec Try.prog none (sub ccode [1, 1, 1, 1, 1, 1, 1, 0, 1, 0, 0, 1, 1, 0, 0, 1, 1, 0, 1, 0, 0, 1, 1, 0, 1, 1, 0, 0, 1, 1, 1]) t' W' (andThen (fun t' W' => ∃ m_1, m_1 < N - s ∧ CsI V2 bn kd f xk ln pp b10 i kd m N u1 u2 u3 u6 u30 u31 u39 m_1 t' W') (inBlk 4 (andThen (CsE V2 bn f xk ln pp i kd m N u1 u2 u3 u6 u30 u31 u39) fun _ _ _ => False))) := fun t' hS' => by
      have hH := Lib.hid hM'
      clear hM' hM hsucc hend hle
      obtain ⟨x, hx⟩ := Slots.open_ hS'; simp only [fill, Nat.reduceAdd] at hx; subst hx; clear hS'
      have hw : IntKind.u64.wrap ((s : Int) + 1) = ((s + 1 : Nat) : Int) := by rw [wrapu _ (by omega) (by omega)]; norm_cast
      show Exec _ _ (Code.region _ _ _) _ _ _
      refine exec_region_o fun ds => ?_
      gi_wp2
      exact eq_mk (Keep.refl _) ⟨N - s - 1, by omega, s + 1, by omega, by omega, hgA, hH.out, by simp only [Slots, Fits, and_self]; simp⟩
    rcases he with rfl | rfl
    · exact hfin _ hSl'
    · exact hfin _ hSl'
  · have hsl : s = N := by have := of_decide_eq_false hp; omega
    rw [hend hsl] at hM
    exact ⟨hg, hM, by simp [Slots, Fits]⟩
end Go.Proofs.Ytbdmmikflkpmpaa
end

section
set_option linter.unusedVariables false
set_option linter.unusedSimpArgs false
namespace Go.Proofs.Ytbdmmikflkpmpaa
open Go.RowKit Go.TL Go.Shelf Go.Pn
attribute [local go_sem] Oper.semAt_some
attribute [local go_sem] run_store_func
set_option maxRecDepth 100000 in
set_option maxHeartbeats 2000000 in
theorem cnt_entry {V0 : World} {pp : Nat} {P : Pnl} {mm : PM} (hP : PnlAt V0 pp P mm) {W : World} (hV : Below V0.heap.size V0 W) {bn it b nL cL : Nat} {AL : Option Addr} (hbn : V0.heap.size ≤ bn) (hcL : W.cell? ⟨b, 0, none⟩ = some (.slice AL nL cL)) (hnL : nL ≤ 6) {xk : A6} (hx : okA xk) {ln : LW} (hM : MapR encA okA W bn (lwV ln)) {i kd m : Nat} (hi : i < P.needs.length) (hb : wsum (fun _ => 1) ln + 65 * m < 2 ^ 59)
    (hen : (Instr.entry (.pointer (some ⟨it, 0, none⟩))).run Try.prog W = .ok (.tuple #[encA xk, iv m]) W) {u2 u3 u6 u30 u31 : Value} {t : Array Value} (hSl : Slots (none :: some (.pointer (some ⟨b, 0, none⟩)) :: some (u2) :: some (u3) :: some (.pointer (some ⟨pp, 0, none⟩)) :: none :: some (u6) :: some (iv i) :: some (iv kd) :: some (.map (some bn)) :: o4 (o16 (some (u30) :: some (u31) :: some (iv i) :: none :: none :: o4 (some (.pointer (some ⟨it, 0, none⟩)) :: none :: none :: none :: o4 (o16 (o16 (o16 []))))))) t) :
    Exec Try.prog none centry t W (andThen (CsE W bn (P.fit.getD i 0) xk ln pp i kd m (2 ^ nL) (.pointer (some ⟨b, 0, none⟩)) u2 u3 u6 u30 u31 (.pointer (some ⟨it, 0, none⟩))) fun _ _ _ => False) := by
  have hu25 := Try.underlying25
  have hu88 := Try.underlying88
  obtain ⟨l, hl⟩ := xk
  obtain ⟨x0, x1, x2, x3, x4, x5, rfl⟩ := six hl
  obtain ⟨X6, hX6⟩ : ∃ X6 : A6, X6 = ⟨[x0, x1, x2, x3, x4, x5], hl⟩ := ⟨_, rfl⟩
  have hval : X6.1 = [x0, x1, x2, x3, x4, x5] := by rw [hX6]
  rw [← hX6] at hx ⊢
  replace hen : (Instr.entry (.pointer (some ⟨it, 0, none⟩))).run Try.prog W = .ok (.tuple #[.agg #[iv x0, iv x1, iv x2, iv x3, iv x4, iv x5], iv m]) W := hen
  clear hX6
  obtain ⟨f, hfe⟩ : ∃ f, P.fit.getD i 0 = f := ⟨_, rfl⟩
  obtain ⟨Q, hQ⟩ : ∃ Q, (andThen (CsE W bn (P.fit.getD i 0) X6 ln pp i kd m (2 ^ nL) (.pointer (some ⟨b, 0, none⟩)) u2 u3 u6 u30 u31 (.pointer (some ⟨it, 0, none⟩))) fun _ _ _ => False) = Q := ⟨_, rfl⟩
  rw [hQ]
  have HQ := Lib.hid hQ
  clear hQ hfe
  obtain ⟨x, hx⟩ := Slots.open_ hSl; simp only [fill, Nat.reduceAdd] at hx; subst hx; clear hSl
  show Exec _ _ (Code.seq _ (Code.seq _ _)) _ _ _
  refine exec_seq (exec_region_o fun ds => ?_)
  gi_wp2
  refine eq_mk ((Keep.refl _).alloc _) ?_
  show Exec _ _ (Code.seq _ _) _ (W.alloc (.cells #[iv x0, iv x1, iv x2, iv x3, iv x4, iv x5] 88)) _
  have hal := (Below.refl W.heap.size W).alloc (Nat.le_refl _) (.cells #[iv x0, iv x1, iv x2, iv x3, iv x4, iv x5] 88)
  have h10 : (W.alloc (.cells #[iv x0, iv x1, iv x2, iv x3, iv x4, iv x5] 88)).heap[W.heap.size]? = some (.cells #[iv x0, iv x1, iv x2, iv x3, iv x4, iv x5] 88 (0, 0)) := World.alloc_heap_new _ _
  have hMX : MapR encA okA (W.alloc (.cells #[iv x0, iv x1, iv x2, iv x3, iv x4, iv x5] 88)) bn (lwV ln) := hM.kept (hal.block _ hM.lt)
  have hVX := hV.trans (hal.mono hV.size)
  have hcX := (Grow.of_below (B := 0) hal).cell hcL
  have hgX : W.grownBy (W.alloc (.cells #[iv x0, iv x1, iv x2, iv x3, iv x4, iv x5] 88)) (some bn) := grownBy_below hal
  have hbl := hM.lt
  clear hal hM hcL hen hV
  generalize W.alloc (.cells #[iv x0, iv x1, iv x2, iv x3, iv x4, iv x5] 88) = X at *
  have hsh := shl_u nL (by omega)
  obtain ⟨N, hN⟩ : ∃ N, 2 ^ nL = N := ⟨_, rfl⟩
  have hN64 : N ≤ 64 := by rw [← hN]; exact Nat.pow_le_pow_right (n := 2) (by omega) hnL
  refine exec_seq (exec_region_o fun ds => ?_)
  gi_wp2
  refine eq_mk (Keep.refl _) ?_
  show Exec _ _ (sub centry [1, 1]) _ _ _
  have hNI : (2 : Int) ^ nL = (N : Int) := by rw [pow_cast, hN]
  refine (cnt_sets (b10 := W.heap.size) (ln := ln) (m := m) (i := i) (kd := kd) (N := N) (s := 0) (u1 := .pointer (some ⟨b, 0, none⟩)) (u2 := u2) (u3 := u3) (u6 := u6) (u30 := u30) (u31 := u31) (u39 := .pointer (some ⟨it, 0, none⟩)) hP hVX hbn hx (by rw [hval]; exact h10) (by omega) hMX hi hN64 hb rfl (by simp [Slots, Fits, hNI])).mono ?_
  intro e t Z hh
  obtain ⟨rfl, hg, hM', hSl'⟩ := only_normal hh
  rw [← HQ.out, hN]
  exact ⟨hgX.trans hg, hM', hSl'⟩
def CrE (V0 : World) (bn : Nat) (G G' : A6 → Nat) (lw : LW) (pp b i kd bw : Nat) (u2 u3 u30 u31 : Value) (t : Array Value) (W : World) : Prop :=
  ∃ ln, Below V0.heap.size V0 W ∧ MapR encA okA W bn (lwV ln) ∧ wsum G' ln = wsum G lw ∧ wsum (fun _ => 1) ln ≤ 64 * wsum (fun _ => 1) lw ∧ Slots (none :: some (.pointer (some ⟨b, 0, none⟩)) :: some (u2) :: some (u3) :: some (.pointer (some ⟨pp, 0, none⟩)) :: none :: some (.map (some bw)) :: some (iv i) :: some (iv kd) :: some (.map (some bn)) :: o4 (o16 (some (u30) :: some (u31) :: some (iv i) :: none :: none :: o4 (o4 (o4 (o16 (o16 (o16 [])))))))) t
def CrI (V0 : World) (bn it : Nat) (G G' : A6 → Nat) (lw : LW) (pp b i kd bw : Nat) (u2 u3 u30 u31 : Value) (n : Nat) (t : Array Value) (W : World) : Prop :=
  ∃ rem ln, n = rem.length ∧ Below V0.heap.size V0 W ∧ MapR encA okA W bn (lwV ln) ∧ IterR encA W it bw (lwV rem) ∧ (∀ p ∈ rem, okA p.1) ∧ wsum G' ln + wsum G rem = wsum G lw ∧ wsum (fun _ => 1) ln + 64 * wsum (fun _ => 1) rem ≤ 64 * wsum (fun _ => 1) lw ∧ Slots (none :: some (.pointer (some ⟨b, 0, none⟩)) :: some (u2) :: some (u3) :: some (.pointer (some ⟨pp, 0, none⟩)) :: none :: some (.map (some bw)) :: some (iv i) :: some (iv kd) :: some (.map (some bn)) :: o4 (o16 (some (u30) :: some (u31) :: some (iv i) :: none :: none :: o4 (some (.pointer (some ⟨it, 0, none⟩)) :: none :: none :: none :: o4 (o16 (o16 (o16 []))))))) t
set_option maxRecDepth 100000 in
set_option maxHeartbeats 2000000 in
theorem cnt_range {V0 : World} {pp : Nat} {P : Pnl} {mm : PM} (hP : PnlAt V0 pp P mm) {W : World} (hV : Below V0.heap.size V0 W) {bn bw b nL cL : Nat} {AL : Option Addr} (hbn : V0.heap.size ≤ bn) (hb0 : ∀ X, Below V0.heap.size V0 X → X.cell? ⟨b, 0, none⟩ = some (.slice AL nL cL)) (hnL : nL ≤ 6) {lw : LW} (hw : MapR encA okA W bw (lwV lw)) (hM : MapR encA okA W bn (lwV [])) (hne : bw ≠ bn) {i kd : Nat} {r : List (Nat × Nat)} (hi : i < P.needs.length) (hb : wsum (fun _ => 1) lw ≤ 2 ^ 40)
    {u2 u3 u30 u31 : Value} {t : Array Value} (hSl : Slots (none :: some (.pointer (some ⟨b, 0, none⟩)) :: some (u2) :: some (u3) :: some (.pointer (some ⟨pp, 0, none⟩)) :: none :: some (.map (some bw)) :: some (iv i) :: some (iv kd) :: some (.map (some bn)) :: o4 (o16 (some (u30) :: some (u31) :: some (iv i) :: none :: none :: o4 (o4 (o4 (o16 (o16 (o16 [])))))))) t) :
    Exec Try.prog none (sub ccode [1, 1, 1, 1, 1, 1, 1, 0, 1, 0, 0, 1, 1, 0, 0, 1, 1, 0]) t W (andThen (CrE V0 bn (fun y => ways nL ((kd, P.fit.getD i 0) :: r) y.1) (fun y => ways nL r y.1) lw pp b i kd bw u2 u3 u30 u31) fun _ _ _ => False) := by
  obtain ⟨G, hG⟩ : ∃ G : A6 → Nat, (fun y : A6 => ways nL ((kd, P.fit.getD i 0) :: r) y.1) = G := ⟨_, rfl⟩
  obtain ⟨G', hG'⟩ : ∃ G' : A6 → Nat, (fun y : A6 => ways nL r y.1) = G' := ⟨_, rfl⟩
  have hstep : ∀ (x : A6) (m : Nat) (ln : LW), (keysW ln).Nodup → wsum G' (setsTo kd (P.fit.getD i 0) x m ln (2 ^ nL)) = wsum G' ln + G x * m := fun x m ln hn => by
    rw [← hG, ← hG']
    exact setsTo_ways hn
  rw [hG, hG']
  have HG := Lib.hid hstep
  clear hG hG' hstep
  have hok : ∀ p ∈ lw, okA p.1 := by
    obtain ⟨es, c, _, R⟩ := hw
    intro p hp
    exact R.ok (p.1, iv p.2) (List.mem_map.2 ⟨p, hp, rfl⟩)
  obtain ⟨x, hx⟩ := Slots.open_ hSl; simp only [fill, Nat.reduceAdd] at hx; subst hx; clear hSl
  show Exec _ _ (Code.seq _ (Code.block _ _)) _ _ _
  refine exec_seq (exec_region_o fun ds => ?_)
  gi_wp2_with (gi_at_range; refine walk_range rfl rfl rfl hw Try.underlying89 ?_; intro since hit)
  refine eq_mk ((Keep.refl _).alloc _) ?_
  show Exec _ _ (Code.block _ _) _ _ _
  have hal := (Below.refl W.heap.size W).alloc (Nat.le_refl _) (.mapIter (some bw) since #[] since)
  have hVX := hV.trans (hal.mono hV.size)
  have hMX : MapR encA okA (W.alloc (.mapIter (some bw) since #[] since)) bn (lwV []) := hM.kept (hal.block _ hM.lt)
  have hitw : W.heap.size ≠ bw := by have := hw.lt; omega
  have hitn : W.heap.size ≠ bn := by have := hM.lt; omega
  have hVit := hV.size
  clear hal hM hw hV
  generalize W.alloc (.mapIter (some bw) since #[] since) = X at *
  generalize W.heap.size = it at *
  clear W
  refine exec_block ?_
  refine exec_loop (CrI V0 bn it G G' lw pp b i kd bw u2 u3 u30 u31) lw.length ⟨lw, [], rfl, hVX, hMX, hit, hok, by simp [wsum], by simp [wsum], by simp [Slots, Fits]⟩ ?_
  clear hVX hMX hit x
  clear X
  rintro n t W ⟨rem, ln, hn, hV, hM, hit, hok, hsum, hbnd, hSl⟩
  have HN := Lib.hid hn
  clear hn
  obtain ⟨x, hx⟩ := Slots.open_ hSl; simp only [fill, Nat.reduceAdd] at hx; subst hx; clear hSl
  show Exec _ _ (Code.seq _ (Code.seq _ _)) _ _ _
  refine exec_seq (exec_region_o fun ds => ?_)
  gi_wp2_with (gi_at_next; refine walk_next rfl rfl rfl hit hitw (fun hnil => ?_) (fun pq pre post W' hl' hit' hgr hen => ?_))
  · refine eq_mk (Keep.refl _) ?_
    show Exec _ _ (Code.seq (Code.cond _ _ _) _) _ _ _
    refine exec_seq (exec_cond (b := false) rfl (fun h => by cases h) (fun _ => ?_))
    have hr : rem = [] := by simpa [lwV] using hnil
    subst hr
    refine exec_exit ⟨ln, hV, hM, by simpa [wsum] using hsum, by simpa [wsum] using hbnd, by simp [Slots, Fits]⟩
  · skip
    have hli : it < W.heap.size := by
      obtain ⟨_, _, _, _, _, _, hi, _⟩ := hit
      exact heap_lt hi
    obtain ⟨ob, hob⟩ : ∃ ob, W.heap[it]? = some ob ∧ book ob = false := by
      obtain ⟨_, _, _, _, _, _, hi, _⟩ := hit
      exact ⟨_, hi, rfl⟩
    refine eq_mk ((Keep.refl _).grown hgr fun j o e ho => by cases e; rw [hob.1] at ho; cases ho; exact hob.2) ?_
    show Exec _ _ (Code.seq (Code.cond _ _ _) _) _ _ _
    obtain ⟨pre', post', y, rfl, rfl, rfl, rfl⟩ : ∃ pre' post' y, rem = pre' ++ y :: post' ∧ pre = lwV pre' ∧ post = lwV post' ∧ pq = (y.1, iv y.2) := by
      obtain ⟨a, b, e1, e2, e3⟩ := List.map_eq_append_iff.1 hl'
      obtain ⟨y, b', e4, e5, e6⟩ := List.map_eq_cons_iff.1 e3
      exact ⟨a, b', y, by rw [e1, e4], e2.symm, e6.symm, e5.symm⟩
    clear hl' hob
    obtain ⟨xk, m⟩ := y
    have hlen : (pre' ++ (xk, m) :: post').length = (pre' ++ post').length + 1 := by simp only [List.length_append, List.length_cons]; omega
    have hit2 : IterR encA W' it bw (lwV (pre' ++ post')) := by
      have : lwV (pre' ++ post') = lwV pre' ++ lwV post' := by simp [lwV]
      rw [this]
      exact hit'
    have hok2 : ∀ p ∈ pre' ++ post', okA p.1 := fun p hp => hok p (by
      rcases List.mem_append.1 hp with h | h
      · exact List.mem_append.2 (.inl h)
      · exact List.mem_append.2 (.inr (List.mem_cons_of_mem _ h)))
    have hxk : okA xk := hok (xk, m) (by simp)
    have hs1 := wsum_split G pre' post' (xk, m)
    have hs2 := wsum_split (fun _ => 1) pre' post' (xk, m)
    simp only [Nat.one_mul] at hs1 hs2
    have hV' : Below V0.heap.size V0 W' := hV.grown hgr hV.size (fun q e => by cases e; exact hVit)
    have hM' : MapR encA okA W' bn (lwV ln) := hM.kept (hgr.block _ hM.lt (fun e => hitn (Option.some.inj e).symm))
    have hlt' : it < W'.heap.size := Nat.lt_of_lt_of_le hli hgr.size
    have hen' : (Instr.entry (.pointer (some ⟨it, 0, none⟩))).run Try.prog W' = .ok (.tuple #[encA xk, iv m]) W' := hen
    have HL := Lib.hid hlen
    clear hit hgr hit' hV hM hok hlen hen hli
    clear W
    refine exec_seq (exec_cond (b := true) rfl (fun _ => exec_skip ?_) (fun h => by cases h))
    show Exec _ _ (Code.block 3 centry) _ _ _
    refine exec_block ((cnt_entry (nL := nL) (xk := xk) (m := m) (ln := ln) (i := i) (kd := kd) (b := b) (it := it) (bn := bn) (u2 := u2) (u3 := u3) (u6 := .map (some bw)) (u30 := u30) (u31 := u31) hP hV' hbn (hb0 W' hV') hnL hxk hM' hi (by omega) hen' (by simp [Slots, Fits])).mono ?_)
    intro e t Z hh
    obtain ⟨rfl, hg, hMZ, hSl'⟩ := only_normal hh
    clear hh
    have hst := HG.out xk m ln (map_nodup hM')
    have hle := setsTo_le (k := kd) (f := P.fit.getD i 0) (x := xk) (m := m) (map_nodup hM') (2 ^ nL)
    have hN64 : 2 ^ nL * m ≤ 64 * m := Nat.mul_le_mul_right m (Nat.pow_le_pow_right (n := 2) (by omega) hnL)
    have hVZ : Below V0.heap.size V0 Z := hV'.grown hg hV'.size (fun q e => by cases e; exact hbn)
    have hitZ : IterR encA Z it bw (lwV (pre' ++ post')) := grown_iter hit2 hg hitn hne
    refine ⟨(pre' ++ post').length, by rw [HN.out, HL.out]; omega, pre' ++ post', _, rfl, hVZ, hMZ, hitZ, hok2, ?_, ?_, ?_⟩
    · rw [hst]
      omega
    · omega
    · obtain ⟨x, hx⟩ := Slots.open_ hSl'; simp only [fill, Nat.reduceAdd] at hx; subst hx; clear hSl'
      simp [Slots, Fits]
end Go.Proofs.Ytbdmmikflkpmpaa
end

section
set_option linter.unusedVariables false
set_option linter.unusedSimpArgs false
namespace Go.Proofs.Ytbdmmikflkpmpaa
open Go.RowKit Go.TL Go.Shelf Go.Pn
attribute [local go_sem] Oper.semAt_some
attribute [local go_sem] run_store_func
theorem nf_drop {P : Pnl} (h : PFit P) {i : Nat} (hi : i < P.needs.length) : (nf P).drop i = (P.needs.getD i 0, P.fit.getD i 0) :: (nf P).drop (i + 1) := by
  have hl : i < (nf P).length := by rw [nf_len h]; exact hi
  rw [List.drop_eq_getElem_cons hl]
  congr 1
  have := nf_get h hi
  rw [List.getElem?_eq_getElem hl] at this
  exact Option.some.inj this
def ClI (V0 : World) (a : XP) (b pp T n0 : Nat) (n : Nat) (t : Array Value) (W : World) : Prop :=
  ∃ i bw lw, i ≤ a.N.length ∧ n = a.N.length - i ∧ Below V0.heap.size V0 W ∧ MapR encA okA W bw (lwV lw) ∧ wsum (fun y => ways n0 ((nf (toP a.s3)).drop i) y.1) lw = T ∧ wsum (fun _ => 1) lw ≤ 64 ^ i ∧ Slots (none :: some (.pointer (some ⟨b, 0, none⟩)) :: some (iv 0) :: some (.pointer (some ⟨b + 1, 0, none⟩)) :: some (.pointer (some ⟨pp, 0, none⟩)) :: none :: some (.map (some bw)) :: none :: none :: none :: o4 (o16 (some (.slice a.AN a.N.length a.cN) :: some (iv a.N.length) :: some (iv i) :: none :: none :: o4 (o4 (o4 (o16 (o16 (o16 [])))))))) t
def ClE (V0 : World) (b T : Nat) (t : Array Value) (W : World) : Prop :=
  ∃ bw lw, Below V0.heap.size V0 W ∧ MapR encA okA W bw (lwV lw) ∧ wsum (fun _ => 1) lw = T ∧ T ≤ 2 ^ 36 ∧ Slots (none :: some (.pointer (some ⟨b, 0, none⟩)) :: some (iv 0) :: some (.pointer (some ⟨b + 1, 0, none⟩)) :: none :: none :: some (.map (some bw)) :: o4 (o4 (o16 (o64 [])))) t
set_option maxRecDepth 100000 in
set_option maxHeartbeats 2000000 in
theorem cnt_plots {w : World} {a : XP} {b : Nat} (hf : a.Fine) {V0 : World} (hS : SpB w a b V0) {pp : Nat} {mm : PM} (hP : PnlAt V0 pp (toP a.s3) mm) {bw : Nat} {lw : LW} (hw : MapR encA okA V0 bw (lwV lw)) (hb : wsum (fun _ => 1) lw ≤ 1) {t : Array Value} (hSl : Slots (none :: some (.pointer (some ⟨b, 0, none⟩)) :: some (iv 0) :: some (.pointer (some ⟨b + 1, 0, none⟩)) :: some (.pointer (some ⟨pp, 0, none⟩)) :: none :: some (.map (some bw)) :: o4 (o4 (o16 (o64 [])))) t) :
    Exec Try.prog none (sub ccode [1, 1, 1, 1, 1, 1, 1, 0]) t V0 (andThen (ClE V0 b (wsum (fun y => ways a.L.length (nf (toP a.s3)) y.1) lw)) fun _ _ _ => False) := by
  have hu25 := Try.underlying25
  have hu22 := Try.underlying22
  have h6 := hf.j
  have hn6 := hf.p
  have hfit := toP_Fit (XP.good hf)
  have hnl : (toP a.s3).needs.length = a.N.length := by simp [toP, XP.s3]
  have hnfl : (nf (toP a.s3)).length = a.N.length := by rw [nf_len hfit, hnl]
  obtain ⟨T, hT⟩ : ∃ T, wsum (fun y : A6 => ways a.L.length (nf (toP a.s3)) y.1) lw = T := ⟨_, rfl⟩
  rw [hT]
  obtain ⟨x, hx⟩ := Slots.open_ hSl; simp only [fill, Nat.reduceAdd] at hx; subst hx; clear hSl
  have hh := hS.p.heap
  simp only [XP.sN] at hh
  have c1 := cells_get (cs := [_, _, _]) (k := 1) hh rfl
  clear hh
  show Exec _ _ (Code.seq _ (Code.block _ _)) _ _ _
  refine exec_seq (exec_region_o fun ds => ?_)
  gi_wp2
  refine eq_mk (Keep.refl _) ?_
  show Exec _ _ (Code.block _ _) _ _ _
  refine exec_block ?_
  refine exec_loop (ClI V0 a b pp T a.L.length) a.N.length ⟨0, bw, lw, by omega, rfl, Below.refl _ _, hw, by rw [List.drop_zero]; exact hT, by simpa using hb, by simp [Slots, Fits]⟩ ?_
  clear c1 hT hw hb x
  clear bw lw
  rintro n t W ⟨i, bw, lw, hi, hn, hV, hw, hsum, hle, hSl⟩
  have HN := Lib.hid hn
  have HT := Lib.hid hsum
  clear hn hsum
  obtain ⟨x, hx⟩ := Slots.open_ hSl; simp only [fill, Nat.reduceAdd] at hx; subst hx; clear hSl
  show Exec _ _ (Code.seq _ (Code.seq _ _)) _ _ _
  refine exec_seq (exec_region_o fun ds => ?_)
  gi_wp2
  refine eq_mk (Keep.refl _) ?_
  show Exec _ _ (Code.seq (Code.cond _ _ _) _) _ _ _
  have hpow : 64 ^ i ≤ 64 ^ 6 := Nat.pow_le_pow_right (by omega) (by omega)
  refine exec_seq (exec_cond (b := decide (i < a.N.length)) (by first | rfl | (show Value.bool _ = _; congr 1; exact decide_eq_decide.2 (by omega))) (fun hp => exec_skip ?_) (fun hp => exec_exit ?_))
  · have hil : i < a.N.length := by have := of_decide_eq_true hp; omega
    show Exec _ _ (Code.seq (Code.block _ _) _) _ _ _
    have hSW : SpB w a b W := ⟨⟨(hV.block _ (heap_lt hS.p.heap)).trans hS.p.heap, hS.p.at_.below hV⟩, (hV.block _ hS.e.lt).trans hS.e, hS.below.trans (hV.mono hS.below.size)⟩
    obtain ⟨ad, hA, hcN⟩ := hSW.p.at_.n i (vi (a.N.getD i 0)) (by rw [List.getElem?_map, List.getElem?_eq_getElem hil, List.getD_eq_getElem?_getD, List.getElem?_eq_getElem hil]; rfl)
    have hN0 : 0 ≤ a.N.getD i 0 := by
      rw [List.getD_eq_getElem?_getD, List.getElem?_eq_getElem hil]
      exact (hf.nb _ (List.getElem_mem hil)).1
    obtain ⟨kd, hkd⟩ : ∃ kd : Nat, a.N.getD i 0 = kd := ⟨(a.N.getD i 0).toNat, by omega⟩
    have hneed : (toP a.s3).needs.getD i 0 = kd := by
      show (a.N.map Int.toNat).getD i 0 = kd
      rw [List.getD_eq_getElem?_getD, List.getElem?_map, List.getElem?_eq_getElem hil]
      rw [List.getD_eq_getElem?_getD, List.getElem?_eq_getElem hil] at hkd
      simp only [Option.map_some, Option.getD_some] at hkd ⊢
      omega
    rw [hkd] at hcN
    have hdrop := nf_drop hfit (by rw [hnl]; exact hil)
    rw [hneed] at hdrop
    have HD := Lib.hid hdrop
    clear hkd hN0 hneed hdrop
    have hiI : (i : Int) < a.N.length := by omega
    simp only [hA]
    refine exec_cut (fun t' W' => ∃ bn ln, Below V0.heap.size V0 W' ∧ MapR encA okA W' bn (lwV ln) ∧ wsum (fun y => ways a.L.length ((nf (toP a.s3)).drop (i + 1)) y.1) ln = T ∧ wsum (fun _ => 1) ln ≤ 64 ^ (i + 1) ∧ Slots (none :: some (.pointer (some ⟨b, 0, none⟩)) :: some (iv 0) :: some (.pointer (some ⟨b + 1, 0, none⟩)) :: some (.pointer (some ⟨pp, 0, none⟩)) :: none :: some (.map (some bn)) :: none :: none :: none :: o4 (o16 (some (.slice a.AN a.N.length a.cN) :: some (iv a.N.length) :: some (iv i) :: none :: none :: o4 (o4 (o4 (o16 (o16 (o16 [])))))))) t') (exec_block ?_) ?_
    · show Exec _ _ (Code.seq _ (Code.seq _ _)) _ _ _
      refine exec_seq (exec_region_o fun ds => ?_)
      gi_wp2
      refine eq_mk (Keep.refl _) ?_
      show Exec _ _ (Code.seq _ _) _ _ _
      have hmm := @run_makeMap Try.prog
      refine exec_seq (exec_region_o fun ds => ?_)
      gi_wp2
      clear hmm
      refine eq_mk ((Keep.refl _).alloc _) ?_
      show Exec _ _ (Code.seq (sub ccode [1, 1, 1, 1, 1, 1, 1, 0, 1, 0, 0, 1, 1, 0, 0, 1, 1, 0]) _) _ _ _
      have hal := (Below.refl W.heap.size W).alloc (Nat.le_refl _) (.map #[] 0)
      have hVX := hV.trans (hal.mono hV.size)
      have hMn : MapR encA okA (W.alloc (.map #[] 0)) W.heap.size (lwV []) := MapR.new encA okA W
      have hMw : MapR encA okA (W.alloc (.map #[] 0)) bw (lwV lw) := hw.kept (hal.block _ hw.lt)
      have hne : bw ≠ W.heap.size := by have := hw.lt; omega
      have hbn := hV.size
      clear hal hcN hSW
      generalize W.alloc (.map #[] 0) = X at *
      generalize W.heap.size = bn at *
      have hb0 : ∀ Y, Below V0.heap.size V0 Y → Y.cell? ⟨b, 0, none⟩ = some (.slice a.AL a.L.length a.cL) := fun Y hY => cells_get (cs := [_, _, _]) ((hY.block _ (heap_lt hS.p.heap)).trans hS.p.heap) rfl
      rw [← hA]
      refine exec_seq ((cnt_range (b := b) (kd := kd) (i := i) (lw := lw) (bw := bw) (bn := bn) (r := (nf (toP a.s3)).drop (i + 1)) (u2 := iv 0) (u3 := .pointer (some ⟨b + 1, 0, none⟩)) (u30 := .slice a.AN a.N.length a.cN) (u31 := iv a.N.length) hP hVX hbn hb0 h6 hMw hMn hne (by rw [hnl]; exact hil) (by omega) (by simp [Slots, Fits, hA])).mono ?_)
      intro e t Z hh
      obtain ⟨rfl, ln, hVZ, hMZ, hsZ, hlZ, hSl'⟩ := only_normal hh
      clear hh x
      rw [← HD.out, HT.out] at hsZ
      have HZ := Lib.hid hsZ
      clear hsZ
      have hlZ2 : wsum (fun _ => 1) ln ≤ 64 ^ (i + 1) := by rw [Nat.pow_succ]; omega
      have HL := Lib.hid hlZ2
      clear hlZ hlZ2
      obtain ⟨x, hx⟩ := Slots.open_ hSl'; simp only [fill, Nat.reduceAdd] at hx; subst hx; clear hSl'
      show Exec _ _ _ _ _ _
      refine exec_region_o fun ds => ?_
      gi_wp2
      exact eq_mk (Keep.refl _) ⟨bn, ln, hVZ, hMZ, HZ.out, HL.out, by simp [Slots, Fits]⟩
    · clear hV hw hSW hcN hle x HT
      rintro t' Z ⟨bn, ln, hV, hw, hsum, hle, hSl⟩
      have HZ := Lib.hid hsum
      have HL := Lib.hid hle
      clear hsum hle
      obtain ⟨x, hx⟩ := Slots.open_ hSl; simp only [fill, Nat.reduceAdd] at hx; subst hx; clear hSl
      have hwp : IntKind.i64.wrap ((i : Int) + 1) = ((i + 1 : Nat) : Int) := by rw [IntWalk.i64_in _ (by omega)]; norm_cast
      refine exec_region_o fun ds => ?_
      gi_wp2
      exact eq_mk (Keep.refl _) ⟨n - 1, by rw [HN.out]; omega, i + 1, bn, ln, by omega, by rw [HN.out]; omega, hV, hw, HZ.out, HL.out, by simp only [Slots, Fits, and_self]; simp⟩
  · have hil : i = a.N.length := by have := of_decide_eq_false hp; omega
    have hsum := HT.out
    have hd : (nf (toP a.s3)).drop i = [] := List.drop_eq_nil_of_le (by rw [hnfl]; omega)
    rw [hd] at hsum
    have hs1 : wsum (fun _ => 1) lw = T := hsum
    have h36 : (64 : Nat) ^ 6 = 2 ^ 36 := by decide
    exact ⟨bw, lw, hV, hw, hs1, by omega, by simp [Slots, Fits]⟩
end Go.Proofs.Ytbdmmikflkpmpaa
end

section
set_option linter.unusedVariables false
set_option linter.unusedSimpArgs false
namespace Go.Proofs.Ytbdmmikflkpmpaa
open Go.RowKit Go.TL Go.Shelf Go.Pn
attribute [local go_sem] Oper.semAt_some
attribute [local go_sem] run_store_func
def FsI (V0 : World) (b bw it T : Nat) (n : Nat) (t : Array Value) (W : World) : Prop :=
  ∃ rem acc, n = rem.length ∧ Below V0.heap.size V0 W ∧ IterR encA W it bw (lwV rem) ∧ acc + wsum (fun _ => 1) rem = T ∧ Slots (none :: none :: some (iv acc) :: some (.pointer (some ⟨b + 1, 0, none⟩)) :: none :: none :: o16 (o64 (some (.pointer (some ⟨it, 0, none⟩)) :: o4 (o4 [])))) t
def FsE (V0 : World) (b T : Nat) (t : Array Value) (W : World) : Prop :=
  Below V0.heap.size V0 W ∧ Slots (none :: none :: some (iv T) :: some (.pointer (some ⟨b + 1, 0, none⟩)) :: none :: none :: none :: o4 (o4 (o16 (o64 [])))) t
set_option maxRecDepth 100000 in
set_option maxHeartbeats 2000000 in
theorem cnt_sum {V0 : World} {b T : Nat} {W : World} {t : Array Value} (h : ClE V0 b T t W) : Exec Try.prog none (sub ccode [1, 1, 1, 1, 1, 1, 1, 1, 0]) t W (andThen (FsE V0 b T) fun _ _ _ => False) := by
  obtain ⟨bw, lw, hV, hw, hsum, hT, hSl⟩ := h
  have HS := Lib.hid hsum
  clear hsum
  obtain ⟨x, hx⟩ := Slots.open_ hSl; simp only [fill, Nat.reduceAdd] at hx; subst hx; clear hSl
  show Exec _ _ (Code.seq _ (Code.block _ _)) _ _ _
  refine exec_seq (exec_region_o fun ds => ?_)
  gi_wp2_with (gi_at_range; refine walk_range rfl rfl rfl hw Try.underlying89 ?_; intro since hit)
  refine eq_mk ((Keep.refl _).alloc _) ?_
  show Exec _ _ (Code.block _ _) _ _ _
  have hal := (Below.refl W.heap.size W).alloc (Nat.le_refl _) (.mapIter (some bw) since #[] since)
  have hVX := hV.trans (hal.mono hV.size)
  have hitw : W.heap.size ≠ bw := by have := hw.lt; omega
  have hVit := hV.size
  clear hal hw hV
  generalize W.alloc (.mapIter (some bw) since #[] since) = X at *
  generalize W.heap.size = it at *
  clear W
  refine exec_block ?_
  refine exec_loop (FsI V0 b bw it T) lw.length ⟨lw, 0, rfl, hVX, hit, by rw [HS.out]; omega, by simp [Slots, Fits]⟩ ?_
  clear hVX hit x
  clear X
  rintro n t W ⟨rem, acc, hn, hV, hit, hacc, hSl⟩
  have HN := Lib.hid hn
  clear hn
  obtain ⟨x, hx⟩ := Slots.open_ hSl; simp only [fill, Nat.reduceAdd] at hx; subst hx; clear hSl
  show Exec _ _ (Code.seq _ (Code.seq _ _)) _ _ _
  refine exec_seq (exec_region_o fun ds => ?_)
  gi_wp2_with (gi_at_next; refine walk_next rfl rfl rfl hit hitw (fun hnil => ?_) (fun pq pre post W' hl' hit' hgr hen => ?_))
  · refine eq_mk (Keep.refl _) ?_
    show Exec _ _ (Code.seq (Code.cond _ _ _) _) _ _ _
    refine exec_seq (exec_cond (b := false) rfl (fun h => by cases h) (fun _ => ?_))
    have hr : rem = [] := by simpa [lwV] using hnil
    subst hr
    have : acc = T := by simpa [wsum] using hacc
    subst this
    exact exec_exit ⟨hV, by simp [Slots, Fits]⟩
  · skip
    have hli : it < W.heap.size := by
      obtain ⟨_, _, _, _, _, _, hi, _⟩ := hit
      exact heap_lt hi
    obtain ⟨ob, hob⟩ : ∃ ob, W.heap[it]? = some ob ∧ book ob = false := by
      obtain ⟨_, _, _, _, _, _, hi, _⟩ := hit
      exact ⟨_, hi, rfl⟩
    refine eq_mk ((Keep.refl _).grown hgr fun j o e ho => by cases e; rw [hob.1] at ho; cases ho; exact hob.2) ?_
    show Exec _ _ (Code.seq (Code.cond _ _ _) _) _ _ _
    obtain ⟨pre', post', y, rfl, rfl, rfl, rfl⟩ : ∃ pre' post' y, rem = pre' ++ y :: post' ∧ pre = lwV pre' ∧ post = lwV post' ∧ pq = (y.1, iv y.2) := by
      obtain ⟨a, b, e1, e2, e3⟩ := List.map_eq_append_iff.1 hl'
      obtain ⟨y, b', e4, e5, e6⟩ := List.map_eq_cons_iff.1 e3
      exact ⟨a, b', y, by rw [e1, e4], e2.symm, e6.symm, e5.symm⟩
    clear hl' hob
    obtain ⟨xk, m⟩ := y
    have hlen : (pre' ++ (xk, m) :: post').length = (pre' ++ post').length + 1 := by simp only [List.length_append, List.length_cons]; omega
    have hit2 : IterR encA W' it bw (lwV (pre' ++ post')) := by
      have : lwV (pre' ++ post') = lwV pre' ++ lwV post' := by simp [lwV]
      rw [this]
      exact hit'
    have hs2 := wsum_split (fun _ => 1) pre' post' (xk, m)
    simp only [Nat.one_mul] at hs2
    have hV' : Below V0.heap.size V0 W' := hV.grown hgr hV.size (fun q e => by cases e; exact hVit)
    have hen' : (Instr.entry (.pointer (some ⟨it, 0, none⟩))).run Try.prog W' = .ok (.tuple #[encA xk, iv m]) W' := hen
    have hacc2 : acc + m + wsum (fun _ => 1) (pre' ++ post') = T := by omega
    have HL := Lib.hid hlen
    have HA := Lib.hid hacc2
    have hm : acc + m ≤ T := by omega
    clear hit hgr hit' hV hlen hen hli hs2 hacc hacc2
    clear W
    refine exec_seq (exec_cond (b := true) rfl (fun _ => exec_skip ?_) (fun h => by cases h))
    show Exec _ _ (Code.block _ (Code.seq _ _)) _ _ _
    refine exec_block (exec_seq (exec_region_o fun ds => ?_))
    gi_wp2
    refine eq_mk (Keep.refl _) ?_
    show Exec _ _ (Code.region _ _ _) _ _ _
    clear hen'
    have hwp : IntKind.i64.wrap ((acc : Int) + m) = ((acc + m : Nat) : Int) := by rw [IntWalk.i64_in _ (by omega)]; norm_cast
    refine exec_region_o fun ds => ?_
    gi_wp2
    exact eq_mk (Keep.refl _) ⟨(pre' ++ post').length, by rw [HN.out, HL.out]; omega, pre' ++ post', acc + m, rfl, hV', hit2, HA.out, by simp only [Slots, Fits, and_self]; simp⟩
/-- A copy into the beginning of a row of six. -/
theorem run_copy6 (W : World) (ty : TypeId) (g n c : Nat) (A : Option Addr) (l : List Nat) (hl : l.length = n) (hn : n ≤ 6) (hg : W.heap[g]? = some (.cells #[iv 0, iv 0, iv 0, iv 0, iv 0, iv 0] 88 (0, 0))) (hsrc : RowV W A (l.map iv)) :
    ∃ W', (Builtin.copy_ #[22, 22] ty #[.slice (some ⟨g, 0, none⟩) 6 6, .slice A n c]).run Try.prog W = .ok (iv n) W' ∧ W'.heap[g]? = some (.cells ((l ++ List.replicate (6 - n) 0).map iv).toArray 88 (0, 0)) ∧ W.grownBy W' (some g) := by
  obtain ⟨i0, hi0, hz, hsz, hby⟩ := info3q
  have hst := run_storeCells_at Try.prog g 0 88 (l.map iv) 0 #[iv 0, iv 0, iv 0, iv 0, iv 0, iv 0] W hg (by simp [hl]; omega) (by intro x hx; obtain ⟨y, _, rfl⟩ := List.mem_map.1 hx; rfl)
  have hcur : (#[iv 0, iv 0, iv 0, iv 0, iv 0, iv 0] : Array Value).toList.drop n = (List.replicate (6 - n) 0).map iv := by
    have : ∀ k, k ≤ 6 → ([iv 0, iv 0, iv 0, iv 0, iv 0, iv 0] : List Value).drop k = (List.replicate (6 - k) 0).map iv := by
      intro k hk
      match k, hk with
      | 0, _ => rfl
      | 1, _ => rfl
      | 2, _ => rfl
      | 3, _ => rfl
      | 4, _ => rfl
      | 5, _ => rfl
      | 6, _ => rfl
    exact this n hn
  simp only [Nat.zero_add, Nat.add_zero, List.take_zero, List.nil_append, List.length_map, hl, hcur] at hst
  rw [← List.map_append] at hst
  refine ⟨W.setRow g ((l ++ List.replicate (6 - n) 0).map iv).toArray, ?_, setRow_heap W g _ _ 88 _ hg, ⟨rfl, rfl, rfl, by simp, fun k _ hk => setRow_other W g k _ (fun e => hk (by rw [e]))⟩⟩
  have hmin : min 6 n = n := by omega
  have hmin2 : n.min 6 = n := by show min n 6 = n; omega
  have hst2 := hst
  simp only [List.map_append, List.map_replicate] at hst2
  cases A with
  | some a =>
    have hlo := run_loadCells_list (P := Try.prog) W a (l.map iv) (fun j v hv => by
      obtain ⟨a', e, hc⟩ := hsrc j v hv
      cases e
      exact hc)
    rw [List.length_map, hl] at hlo
    simp [Builtin.copy_, run_underlying Try.underlying22, Builtin.lenOf, Builtin.firstCells, sizeOf, typeInfo, hi0, hsz, hlo, hst2, goInt, hmin, hmin2]
  | none =>
    have hl0 : l = [] := by
      cases l with
      | nil => rfl
      | cons x r =>
        obtain ⟨a', e, _⟩ := hsrc 0 _ rfl
        cases e
    subst hl0
    have hn0 : n = 0 := by simpa using hl.symm
    subst hn0
    simp at hst
    simp [Builtin.copy_, run_underlying Try.underlying22, Builtin.lenOf, Builtin.firstCells, sizeOf, typeInfo, hi0, hsz, hst, goInt]
end Go.Proofs.Ytbdmmikflkpmpaa
end

section
set_option linter.unusedVariables false
set_option linter.unusedSimpArgs false
namespace Go.Proofs.Ytbdmmikflkpmpaa
open Go.RowKit Go.TL Go.Shelf Go.Pn
attribute [local go_sem] Oper.semAt_some
attribute [local go_sem] run_store_func
theorem exec_copy {P : Program} {a : Act} {w w' : World} {v u v' : Value} {o : Oper} (d s : Operand) (t : TypeId) (ho : o.op = .call { callee := .builtin .copy, args := #[d, s], argTypes := #[t, t] }) (hd : a.eval d = v) (hs : a.eval s = u)
    (hr : (Builtin.copy_ #[t, t] o.type #[v, u]).run P w = .ok v' w') : (execOp a.eval o).run P w = .ok (.value v') w' := by
  unfold execOp
  simp only [ho, resolve, invoke, builtin, Sem.run_bind, Sem.run_pure, Result.andThen_ok, List.map_toArray, List.map_cons, List.map_nil, hd, hs, hr]
def padL (l : List Nat) : List Nat := l ++ List.replicate (6 - l.length) 0
def countF (a : XP) : Nat := ways a.L.length (nf (toP a.s3)) (padL a.s3.1)
def countA (a : XP) : Int × Int := if a.isP then ((countF a : Nat), 0) else (0, 1)
set_option maxRecDepth 100000 in
set_option maxHeartbeats 600000 in
theorem Count_any (a : XP) (w : World) (h : a.At w) : Calls Try.prog 17 #[a.val] w fun e w' => e = .returned (.tuple #[vi (countA a).1, vi (countA a).2]) ∧ Below w.heap.size w w' := by
  have hmf : ∀ fn first cap w, (Instr.makeFunc fn first cap).run Try.prog w = .ok (.func fn first cap) w := fun _ _ _ _ => rfl
  have hu25 := Try.underlying25
  obtain ⟨A, hA⟩ : ∃ A, countA a = A := ⟨_, rfl⟩
  rw [hA]
  have HA := Lib.hid hA
  clear hA
  refine (callsIn_wide (n := 0)).1 (callsIn_of_wp_marks Try.func17 rfl trivial ?_)
  simp only [Try.ntmps17, List.size_toArray, List.length_cons, List.length_nil, Nat.reduceAdd, Nat.reduceSub, Array.replicate_succ, Array.replicate_zero, List.push_toArray, List.append_toArray, List.nil_append, List.cons_append]
  simp only [XP.val]
  refine split_rest fun rest hR => ?_
  gi_wp2
  have hB := ((Below.refl w.heap.size w).alloc (Nat.le_refl _) (.cells #[a.sL, a.sN, a.sK] 25)).alloc (by simp) (.cells #[.int .i64 0] 28)
  have b1 : PBx ((w.alloc (.cells #[a.sL, a.sN, a.sK] 25)).alloc (.cells #[.int .i64 0] 28)) w.heap.size a := ⟨heap_next (World.alloc_heap_new _ _) _, h.below hB⟩
  have b3 : Boxed ((w.alloc (.cells #[a.sL, a.sN, a.sK] 25)).alloc (.cells #[.int .i64 0] 28)) (w.heap.size + 1) 28 (.int .i64 0) := by (simp only [Boxed, Box2, heap_alloc_at, heap_set_at, World.size_alloc, World.size_setCell]; repeat (first | rfl | rw [if_pos (by omega)] | rw [if_neg (by omega)]))
  refine guard_rest (lo := w.heap.size) (T := 133) (b := w.heap.size + 1) catches63 ⟨_, _, rfl⟩ (fun W => by simp [go_sem]) hB.size ?_
  subst hR
  generalize (w.alloc (.cells #[a.sL, a.sN, a.sK] 25)).alloc (.cells #[.int .i64 0] 28) = V at *
  clear hmf
  have c0 := cells_get (cs := [_, _, _]) (k := 0) b1.heap rfl
  have c1 := cells_get (cs := [_, _, _]) (k := 1) b1.heap rfl
  have c2 := cells_get (cs := [_, _, _]) (k := 2) b1.heap rfl
  refine exec_seq (exec_region_o fun ds => ?_)
  gi_wp2_with fail
  cases hp : a.isP with
  | false =>
    refine ⟨trivial, rfl, (callsIn_wide.2 (checked_no a V b1.at_ hp)).mono ?_⟩
    rintro e W2 ⟨rfl, hw2⟩
    refine eq_mk (Keep.of_below hw2) (.inr ⟨1, 28, 0, rfl, (hw2.block _ b3.lt).trans b3, ?_⟩)
    rintro W' W'' hG rfl
    have hB2 := hB.trans (hw2.mono hB.size)
    have d3 := hG.boxed (show Boxed W2 (w.heap.size + 1) 28 (.int .i64 0) from (hw2.block _ b3.lt).trans b3)
    exact ⟨_, results_num rfl rfl rfl (boxed_set d3 _), by rw [← HA.out]; simp [countA, hp], (hB2.trans (hG.below (Nat.le_refl _) hB2.size)).setCell (by show w.heap.size ≤ w.heap.size + 1; omega) _⟩
  | true =>
    refine ⟨trivial, rfl, (callsIn_wide.2 (checked_yes a V b1.at_ hp)).mono ?_⟩
    rintro e W2 ⟨rfl, hw2⟩
    have hA : A = (((countF a : Nat) : Int), 0) := by rw [← HA.out]; simp [countA, hp]
    have hf := a.fine hp
    have HA := Lib.hid hA
    clear hp hA
    gi_wp2
    refine eq_mk (Keep.of_below hw2) ?_
    show Exec _ _ _ _ _ _
    have hB2 := hB.trans (hw2.mono hB.size)
    have b2 := b1.keep hw2
    have d3 : Boxed W2 (w.heap.size + 1) 28 (.int .i64 0) := (hw2.block _ b3.lt).trans b3
    clear b1 b3 c0 c1 c2 hB hw2
    clear V
    have c0 := cells_get (cs := [_, _, _]) (k := 0) b2.heap rfl
    have c1 := cells_get (cs := [_, _, _]) (k := 1) b2.heap rfl
    have c2 := cells_get (cs := [_, _, _]) (k := 2) b2.heap rfl
    have hS2 : SpB w a w.heap.size W2 := ⟨b2, d3, hB2⟩
    have h6 := hf.j
    refine exec_seq (exec_region_o fun ds => ?_)
    gi_wp2_with fail
    refine ⟨trivial, rfl, (callsIn_wide.2 (open_plain a hf W2 b2.at_)).mono ?_⟩
    rintro e Y ⟨pp, mm, rfl, hpp, hy, hP⟩
    have hSY := hS2.keep hy
    gi_wp2
    refine eq_mk (Keep.of_below hy) ?_
    show Exec _ _ (Code.seq _ (Code.seq _ _)) _ _ _
    clear c0 c1 c2 b2 d3 hB2 hS2 hy hpp
    refine exec_seq (exec_region_o fun ds => ?_)
    gi_wp2
    refine eq_mk ((Keep.refl _).alloc _) ?_
    show Exec _ _ (Code.seq _ (Code.seq _ _)) _ (Y.alloc (.cells #[iv 0, iv 0, iv 0, iv 0, iv 0, iv 0] 88)) _
    have hal := (Below.refl Y.heap.size Y).alloc (Nat.le_refl _) (.cells #[iv 0, iv 0, iv 0, iv 0, iv 0, iv 0] 88)
    have h5 : (Y.alloc (.cells #[iv 0, iv 0, iv 0, iv 0, iv 0, iv 0] 88)).heap[Y.heap.size]? = some (.cells #[iv 0, iv 0, iv 0, iv 0, iv 0, iv 0] 88 (0, 0)) := World.alloc_heap_new _ _
    have hSX := hSY.keep hal
    have hYe := hSY.e.lt
    clear W2
    generalize Y.alloc (.cells #[iv 0, iv 0, iv 0, iv 0, iv 0, iv 0] 88) = X at *
    have hlen : a.s3.1.length = a.L.length := by simp [XP.s3]
    have hrow : ∀ Z, Below X.heap.size X Z → RowV Z a.AL (a.s3.1.map iv) := fun Z hZ => by
      rw [show a.s3.1.map iv = a.L.map vi from map_iv fun y hy => (hf.lb y hy).1]
      exact (hSX.keep hZ).p.at_.l
    have hu88 := Try.underlying88
    have hu89 := Try.underlying89
    have hu22 := Try.underlying22
    have hd : Below X.heap.size X X.drew := (Below.refl _ X).drew
    have h5d : X.drew.heap[Y.heap.size]? = some (.cells #[iv 0, iv 0, iv 0, iv 0, iv 0, iv 0] 88 (0, 0)) := (hd.block _ (heap_lt h5)).trans h5
    obtain ⟨Z, hcp, hZ5, hZg⟩ := run_copy6 X.drew 3 Y.heap.size a.L.length a.cL a.AL a.s3.1 hlen h6 h5d (hrow _ hd)
    have hpad : a.s3.1 ++ List.replicate (6 - a.L.length) 0 = padL a.s3.1 := by unfold padL; rw [hlen]
    rw [hpad] at hZ5
    have hp6 : (padL a.s3.1).length = 6 := by unfold padL; rw [List.length_append, List.length_replicate, hlen]; omega
    have hpok : ∀ n ∈ padL a.s3.1, n ≤ 1000000 := fun n hn => by
      rcases List.mem_append.1 hn with h | h
      · obtain ⟨y, hy, rfl⟩ := List.mem_map.1 (show n ∈ a.L.map Int.toNat from h)
        have := hf.lb y hy
        omega
      · have := (List.mem_replicate.1 h).2
        omega
    have HF : countF a = ways a.L.length (nf (toP a.s3)) (padL a.s3.1) := rfl
    have HF := Lib.hid HF
    generalize padL a.s3.1 = pl at *
    have hYZ : Below Y.heap.size Y Z := (hal.trans (hd.mono hal.size)).grown hZg (Nat.le_trans hal.size hd.size) (fun q e => by cases e; exact Nat.le_refl _)
    have hSZ := hSY.keep hYZ
    have hPZ := hP.below hYZ
    have hc0X : X.drew.cell? ⟨w.heap.size, 0, none⟩ = some (.slice a.AL a.L.length a.cL) := cells_get (cs := [_, _, _]) ((hSX.keep hd).p.heap) rfl
    have hc0Z : Z.cell? ⟨w.heap.size, 0, none⟩ = some (.slice a.AL a.L.length a.cL) := cells_get (cs := [_, _, _]) hSZ.p.heap rfl
    have hKZ : Keep X Z := (Keep.of_below hd).grown hZg (fun j o hj ho => by cases hj; rw [h5d] at ho; cases ho; rfl)
    have hZl := heap_lt hZ5
    refine exec_seq (region_of_tail 4 (by kernel_rfl) (by kernel_rfl) (by kernel_rfl) (fun V => V.cell? ⟨w.heap.size, 0, none⟩ = some (.slice a.AL a.L.length a.cL)) (fun _ _ _ => False) (fun _ _ _ h => h.elim) fun ds => ?_)
    have hS := hc0X
    refine held_take 0 (.slice (some ⟨Y.heap.size, 0, none⟩) 6 6) rfl (by kernel_rfl) (by kernel_rfl) (by kernel_rfl) (by intro _ _ _ h; first | exact h | (simpa [behind, Act.put] using h)) rfl (by first | exact hS | assumption) (fun wq hq => ?_) ?_; (focus (simp [go_sem, hu88]; done)); simp only [Act.put, Array.getInternal_eq_getElem, List.take_succ_cons, List.take_zero, List.take_nil, List.getElem_toArray, List.getElem_cons_succ, List.getElem_cons_zero, List.setIfInBounds_toArray, List.set_cons_succ, List.set_cons_zero]
    refine held_take 1 (.pointer (some ⟨w.heap.size, 0, none⟩)) rfl (by kernel_rfl) (by kernel_rfl) (by kernel_rfl) (by intro _ _ _ h; first | exact h | (simpa [behind, Act.put] using h)) rfl (by first | exact hS | assumption) (fun wq hq => ?_) ?_; (focus (simp [go_sem, hu25]; done)); simp only [Act.put, Array.getInternal_eq_getElem, List.take_succ_cons, List.take_zero, List.take_nil, List.getElem_toArray, List.getElem_cons_succ, List.getElem_cons_zero, List.setIfInBounds_toArray, List.set_cons_succ, List.set_cons_zero]
    refine held_take 2 (.slice a.AL a.L.length a.cL) rfl (by kernel_rfl) (by kernel_rfl) (by kernel_rfl) (by intro _ _ _ h; first | exact h | (simpa [behind, Act.put] using h)) rfl (by first | exact hS | assumption) (fun wq hq => ?_) ?_; (focus (simp [go_sem, hq]; done)); simp only [Act.put, Array.getInternal_eq_getElem, List.take_succ_cons, List.take_zero, List.take_nil, List.getElem_toArray, List.getElem_cons_succ, List.getElem_cons_zero, List.setIfInBounds_toArray, List.set_cons_succ, List.set_cons_zero]
    refine held_mk 3 (iv a.L.length) Z rfl (by kernel_rfl) rfl ?_ hc0Z ?_
    · exact exec_copy _ _ 22 rfl rfl rfl hcp
    simp only [Act.put, Array.getInternal_eq_getElem, List.take_succ_cons, List.take_zero, List.take_nil, List.getElem_toArray, List.getElem_cons_succ, List.getElem_cons_zero, List.setIfInBounds_toArray, List.set_cons_succ, List.set_cons_zero]
    refine held_done (by kernel_rfl) ?_
    refine any_done (by kernel_rfl) ⟨rfl, hKZ, ?_⟩
    show Exec _ _ (Code.seq _ (Code.seq _ _)) _ _ _
    clear hS hc0X hc0Z hcp hrow hSX hSY hP hd h5d h5 hal hZg hKZ hYZ hpad
    clear X
    generalize hb5 : Y.heap.size = b5 at *
    clear hb5
    clear Y
    obtain ⟨m0, m1, m2, m3, m4, m5, rfl⟩ := six hp6
    have hMn : MapR encA okA (Z.alloc (.map #[] 0)) Z.heap.size [] := MapR.new encA okA Z
    have hal := (Below.refl Z.heap.size Z).alloc (Nat.le_refl _) (.map #[] 0)
    obtain ⟨V, hrun, hMV, hgV⟩ := hMn.update (P := Try.prog) keyA hu89 (x := ⟨[m0, m1, m2, m3, m4, m5], hp6⟩) hpok (iv 1)
    have hrun' : (Instr.mapUpdate 89 (.map (some Z.heap.size)) (.agg #[iv m0, iv m1, iv m2, iv m3, iv m4, iv m5]) (.int .i64 1)).run Try.prog (Z.alloc (.map #[] 0)) = .ok () V := hrun
    clear hrun
    obtain ⟨e0, e1, e2, e3, e4, e5⟩ := six_get ((hal.block _ hZl).trans hZ5)
    have hVB : Below Z.heap.size Z V := hal.grown hgV hal.size (fun q e => by cases e; exact Nat.le_refl _)
    have hKV : Keep Z V := ((Keep.refl Z).alloc _).grown hgV (map_book hMn)
    have hmm := @run_makeMap Try.prog
    refine exec_seq (exec_region_o fun ds => ?_)
    gi_wp2
    clear hmm hrun' e0 e1 e2 e3 e4 e5
    refine eq_mk hKV ?_
    have hSV := hSZ.keep hVB
    have hPV := hPZ.below hVB
    have hlw : (put [] (⟨[m0, m1, m2, m3, m4, m5], hp6⟩ : A6) (iv 1)) = lwV [(⟨[m0, m1, m2, m3, m4, m5], hp6⟩, 1)] := rfl
    rw [hlw] at hMV
    clear hMn hal hgV hSZ hPZ hVB hKV hZ5 hZl
    generalize Z.heap.size = bw at *
    clear Z
    show Exec _ _ (Code.seq (sub ccode [1, 1, 1, 1, 1, 1, 1, 0]) (Code.seq (sub ccode [1, 1, 1, 1, 1, 1, 1, 1, 0]) _)) _ _ _
    refine exec_seq ((cnt_plots (bw := bw) (pp := pp) hf hSV hPV hMV (by simp [wsum]) (by simp [Slots, Fits])).mono ?_)
    intro e t Z hh
    obtain ⟨rfl, hE⟩ := only_normal hh
    clear hh
    have hT : wsum (fun y => ways a.L.length (nf (toP a.s3)) y.1) [((⟨[m0, m1, m2, m3, m4, m5], hp6⟩ : A6), 1)] = countF a := by
      rw [HF.out]
      simp [wsum]
    rw [hT] at hE
    refine exec_seq ((cnt_sum hE).mono ?_)
    clear hE
    intro e t Z hh
    obtain ⟨rfl, hZB, hSl⟩ := only_normal hh
    clear hh
    have hSZ : SpB w a w.heap.size Z := ⟨⟨(hZB.block _ (heap_lt hSV.p.heap)).trans hSV.p.heap, hSV.p.at_.below hZB⟩, (hZB.block _ hSV.e.lt).trans hSV.e, hSV.below.trans (hZB.mono hSV.below.size)⟩
    clear hSV hPV hMV hZB
    obtain ⟨x, hx⟩ := Slots.open_ hSl; simp only [fill, Nat.reduceAdd] at hx; subst hx; clear hSl
    have e1 := hSZ.e.cell
    have e2 := hSZ.e.frozen
    show Exec _ _ (Code.seq _ _) _ _ _
    obtain ⟨T, hTe⟩ : ∃ T, countF a = T := ⟨_, rfl⟩
    rw [hTe] at HA
    simp only [hTe]
    refine exec_seq (exec_region_o fun ds => ?_)
    gi_wp2
    refine eq_mk ((Keep.refl _).setCell _ _) ?_
    show Exec _ _ _ _ _ _
    have g7 := boxed_set hSZ.e (.int .i64 0)
    have hB5 : Below w.heap.size w (Z.setCell ⟨w.heap.size + 1, 0, none⟩ (.int .i64 0)) := hSZ.below.setCell (by show w.heap.size ≤ w.heap.size + 1; omega) _
    exact exec_ret (.inl ⟨.inr rfl, g7.lt, fun W' hG => ⟨_, results_num rfl rfl rfl (hG.boxed g7), by rw [HA.out], hB5.trans (hG.below (Nat.le_refl _) hB5.size)⟩⟩)
end Go.Proofs.Ytbdmmikflkpmpaa
end

section
set_option linter.unusedVariables false
set_option linter.unusedSimpArgs false
namespace Go.Proofs.Ytbdmmikflkpmpaa
open Go.RowKit Go.TL Go.Shelf Go.Pn
attribute [local go_sem] Oper.semAt_some
attribute [local go_sem] run_store_func
theorem row_int {W : World} {A : Option Addr} {l : List Int} (h : RowV W A (l.map vi)) {i : Nat} (hi : i < l.length) : ∃ ad, A = some ad ∧ W.cell? (ad.add i) = some (vi (l[i])) :=
  h i _ (by rw [List.getElem?_map, List.getElem?_eq_getElem hi]; rfl)
def InI (w : World) (A B : Option Addr) (c d : Nat) (l m : List Int) (n : Nat) (t : Array Value) (W : World) : Prop :=
  ∃ k : Nat, k ≤ l.length ∧ n = l.length - k ∧ l.take k = m.take k ∧ Below w.heap.size w W ∧ Slots (some (.slice A l.length c) :: some (.slice B m.length d) :: none :: none :: none :: some (iv k) :: o4 (o16 [])) t
set_option maxRecDepth 100000 in
set_option maxHeartbeats 1000000 in
theorem ints21 (A B : Option Addr) (c d : Nat) (l m : List Int) (hl : l.length ≤ 1000000) (hm : m.length ≤ 1000000) (w : World) (hA : RowV w A (l.map vi)) (hB : RowV w B (m.map vi)) : Calls Try.prog 21 #[.slice A l.length c, .slice B m.length d] w fun e w' => e = .returned (.bool (decide (l = m))) ∧ Below w.heap.size w w' := by
  have hu22 := Try.underlying22
  obtain ⟨R, hR⟩ : ∃ R, decide (l = m) = R := ⟨_, rfl⟩
  rw [hR]
  have HR := Lib.hid hR
  clear hR
  refine calls_of_exec Try.func21 rfl ?_
  simp only [Try.ntmps21, List.size_toArray, List.length_cons, List.length_nil, Nat.reduceAdd, Nat.reduceSub, Array.replicate_succ, Array.replicate_zero, List.push_toArray, List.append_toArray, List.nil_append, List.cons_append]
  refine exec_seq (exec_region_o fun ds => ?_)
  gi_wp2
  refine eq_mk (Keep.refl _) ?_
  show Exec _ _ (Code.seq (Code.seq _ _) _) _ _ _
  refine exec_seq (exec_seq (exec_region_o fun ds => ?_))
  gi_wp2
  refine eq_mk (Keep.refl _) ?_
  show Exec _ _ (Code.cond _ _ _) _ _ _
  by_cases hlm : l.length = m.length
  · refine exec_cond (b := false) (by first | rfl | (show Value.bool (decide _) = _; simp [hlm]; done) | (show Value.bool (!decide _) = _; simp [hlm]; done)) (fun h => by cases h) (fun _ => exec_skip ?_)
    show Exec _ _ (Code.seq (Code.seq _ _) _) _ _ _
    refine exec_seq (exec_seq (exec_region_o fun ds => ?_))
    gi_wp2
    refine eq_mk (Keep.refl _) ?_
    show Exec _ _ (Code.block _ _) _ _ _
    refine exec_block ?_
    refine exec_loop (InI w A B c d l m) l.length ⟨0, by omega, rfl, rfl, Below.refl _ _, by simp [Slots, Fits, hlm]⟩ ?_
    rintro n t W ⟨k, hk, hn, htk, hV, hSl⟩
    have HT := Lib.hid htk
    clear htk
    have HL := Lib.hid hlm
    clear hlm
    obtain ⟨x, hx⟩ := Slots.open_ hSl; simp only [fill, Nat.reduceAdd] at hx; subst hx; clear hSl
    show Exec _ _ (Code.seq (Code.seq _ _) _) _ _ _
    refine exec_seq (exec_seq (exec_region_o fun ds => ?_))
    gi_wp2
    refine eq_mk (Keep.refl _) ?_
    show Exec _ _ (Code.cond _ _ _) _ _ _
    refine (exec_cond (b := decide (k < l.length)) (by first | rfl | (show Value.bool _ = _; congr 1; exact decide_eq_decide.2 (by omega))) (fun hp => exec_skip ?_) (fun hp => exec_exit ?_))
    · have hkl : k < l.length := by have := of_decide_eq_true hp; omega
      have hkm : k < m.length := by have := HL.out; omega
      show Exec _ _ (Code.seq (Code.block _ _) _) _ _ _
      obtain ⟨a1, e1, h1⟩ := row_int (hA.below hV) hkl
      obtain ⟨a2, e2, h2⟩ := row_int (hB.below hV) hkm
      obtain ⟨y1, hy1⟩ : ∃ y, l[k] = y := ⟨_, rfl⟩
      obtain ⟨y2, hy2⟩ : ∃ y, m[k] = y := ⟨_, rfl⟩
      rw [hy1] at h1
      rw [hy2] at h2
      have HY : y1 = y2 → l.take (k + 1) = m.take (k + 1) := fun e => by
        rw [List.take_succ_eq_append_getElem hkl, List.take_succ_eq_append_getElem hkm, HT.out, hy1, hy2, e]
      have HN : y1 ≠ y2 → l ≠ m := fun e c => e (by rw [← hy1, ← hy2]; simp only [c])
      have HY := Lib.hid HY
      have HN := Lib.hid HN
      clear hy1 hy2
      have hkI : (k : Int) < l.length := by omega
      have hkJ : (k : Int) < m.length := by omega
      simp only [e1, e2]
      have E1 := Lib.hid e1
      have E2 := Lib.hid e2
      clear e1 e2
      refine exec_cut (fun t' Y => y1 = y2 ∧ Below w.heap.size w Y ∧ Slots (some (.slice A l.length c) :: some (.slice B m.length d) :: none :: none :: none :: some (iv k) :: o4 (o16 [])) t') (exec_block ?_) ?_
      · have hd : Below W.heap.size W W.drew := (Below.refl _ W).drew
        show Exec _ _ (Code.seq _ _) _ _ _
        refine exec_seq (region_of_tail 9 (by kernel_rfl) (by kernel_rfl) (by kernel_rfl) (fun Y => Y.cell? (a1.add k) = some (vi y1) ∧ Y.cell? (a2.add k) = some (vi y2)) (fun _ _ _ => False) (fun _ _ _ h => h.elim) fun ds => ?_)
        have hS : W.drew.cell? (a1.add k) = some (vi y1) ∧ W.drew.cell? (a2.add k) = some (vi y2) := ⟨(Grow.of_below (B := 0) hd).cell h1, (Grow.of_below (B := 0) hd).cell h2⟩
        refine held_take 0 (.slice (some a1) l.length c) rfl (by kernel_rfl) (by kernel_rfl) (by kernel_rfl) (by intro _ _ _ h; first | exact h | (simpa [behind, Act.put] using h)) rfl (by first | exact hS | assumption) (fun wq hq => ?_) ?_; (focus (first | rfl | (simp [go_sem]; done))); simp only [Act.put, Array.getInternal_eq_getElem, List.take_succ_cons, List.take_zero, List.take_nil, List.getElem_toArray, List.getElem_cons_succ, List.getElem_cons_zero, List.setIfInBounds_toArray, List.set_cons_succ, List.set_cons_zero]
        refine held_take 1 (iv k) rfl (by kernel_rfl) (by kernel_rfl) (by kernel_rfl) (by intro _ _ _ h; first | exact h | (simpa [behind, Act.put] using h)) rfl (by first | exact hS | assumption) (fun wq hq => ?_) ?_; (focus (first | rfl | (simp [go_sem]; done))); simp only [Act.put, Array.getInternal_eq_getElem, List.take_succ_cons, List.take_zero, List.take_nil, List.getElem_toArray, List.getElem_cons_succ, List.getElem_cons_zero, List.setIfInBounds_toArray, List.set_cons_succ, List.set_cons_zero]
        refine held_take 2 (.pointer (some (a1.add k))) rfl (by kernel_rfl) (by kernel_rfl) (by kernel_rfl) (by intro _ _ _ h; first | exact h | (simpa [behind, Act.put] using h)) rfl (by first | exact hS | assumption) (fun wq hq => ?_) ?_; (focus (simp [go_sem, hu22, hkI]; done)); simp only [Act.put, Array.getInternal_eq_getElem, List.take_succ_cons, List.take_zero, List.take_nil, List.getElem_toArray, List.getElem_cons_succ, List.getElem_cons_zero, List.setIfInBounds_toArray, List.set_cons_succ, List.set_cons_zero]
        refine held_take 3 (vi y1) rfl (by kernel_rfl) (by kernel_rfl) (by kernel_rfl) (by intro _ _ _ h; first | exact h | (simpa [behind, Act.put] using h)) rfl (by first | exact hS | assumption) (fun wq hq => ?_) ?_; (focus (simp [go_sem, hq.1]; done)); simp only [Act.put, Array.getInternal_eq_getElem, List.take_succ_cons, List.take_zero, List.take_nil, List.getElem_toArray, List.getElem_cons_succ, List.getElem_cons_zero, List.setIfInBounds_toArray, List.set_cons_succ, List.set_cons_zero]
        refine held_take 4 (.slice (some a2) m.length d) rfl (by kernel_rfl) (by kernel_rfl) (by kernel_rfl) (by intro _ _ _ h; first | exact h | (simpa [behind, Act.put] using h)) rfl (by first | exact hS | assumption) (fun wq hq => ?_) ?_; (focus (first | rfl | (simp [go_sem]; done))); simp only [Act.put, Array.getInternal_eq_getElem, List.take_succ_cons, List.take_zero, List.take_nil, List.getElem_toArray, List.getElem_cons_succ, List.getElem_cons_zero, List.setIfInBounds_toArray, List.set_cons_succ, List.set_cons_zero]
        refine held_take 5 (iv k) rfl (by kernel_rfl) (by kernel_rfl) (by kernel_rfl) (by intro _ _ _ h; first | exact h | (simpa [behind, Act.put] using h)) rfl (by first | exact hS | assumption) (fun wq hq => ?_) ?_; (focus (first | rfl | (simp [go_sem]; done))); simp only [Act.put, Array.getInternal_eq_getElem, List.take_succ_cons, List.take_zero, List.take_nil, List.getElem_toArray, List.getElem_cons_succ, List.getElem_cons_zero, List.setIfInBounds_toArray, List.set_cons_succ, List.set_cons_zero]
        refine held_take 6 (.pointer (some (a2.add k))) rfl (by kernel_rfl) (by kernel_rfl) (by kernel_rfl) (by intro _ _ _ h; first | exact h | (simpa [behind, Act.put] using h)) rfl (by first | exact hS | assumption) (fun wq hq => ?_) ?_; (focus (simp [go_sem, hu22, hkJ]; done)); simp only [Act.put, Array.getInternal_eq_getElem, List.take_succ_cons, List.take_zero, List.take_nil, List.getElem_toArray, List.getElem_cons_succ, List.getElem_cons_zero, List.setIfInBounds_toArray, List.set_cons_succ, List.set_cons_zero]
        refine held_take 7 (vi y2) rfl (by kernel_rfl) (by kernel_rfl) (by kernel_rfl) (by intro _ _ _ h; first | exact h | (simpa [behind, Act.put] using h)) rfl (by first | exact hS | assumption) (fun wq hq => ?_) ?_; (focus (simp [go_sem, hq.2]; done)); simp only [Act.put, Array.getInternal_eq_getElem, List.take_succ_cons, List.take_zero, List.take_nil, List.getElem_toArray, List.getElem_cons_succ, List.getElem_cons_zero, List.setIfInBounds_toArray, List.set_cons_succ, List.set_cons_zero]
        refine held_take 8 (.bool (y1 != y2)) rfl (by kernel_rfl) (by kernel_rfl) (by kernel_rfl) (by intro _ _ _ h; first | exact h | (simpa [behind, Act.put] using h)) rfl (by first | exact hS | assumption) (fun wq hq => ?_) ?_; (focus (simp [go_sem]; done)); simp only [Act.put, Array.getInternal_eq_getElem, List.take_succ_cons, List.take_zero, List.take_nil, List.getElem_toArray, List.getElem_cons_succ, List.getElem_cons_zero, List.setIfInBounds_toArray, List.set_cons_succ, List.set_cons_zero]
        refine held_done (by kernel_rfl) ?_
        refine any_done (by kernel_rfl) ⟨rfl, Keep.of_below hd, ?_⟩
        show Exec _ _ (Code.cond _ _ _) _ _ _
        have hBd := hV.trans (hd.mono hV.size)
        by_cases hy : y1 = y2
        · refine exec_cond (b := false) (by show Value.bool (y1 != y2) = _; simp [hy]) (fun h => by cases h) (fun _ => exec_skip ?_)
          exact ⟨hy, hBd, by simp [Slots, Fits, E1.out, E2.out]⟩
        · refine exec_cond (b := true) (by show Value.bool (y1 != y2) = _; simp [hy]) (fun _ => ?_) (fun h => by cases h)
          refine exec_seq (exec_region_o fun ds => ?_)
          gi_wp2
          refine eq_mk (Keep.refl _) ?_
          show Exec _ _ _ _ _ _
          refine exec_ret ⟨.inr rfl, fun W' hG => ⟨.bool false, by simp [results, Try.f21, go_sem], ?_, hBd.trans (hG.below (Nat.le_refl _) hBd.size)⟩⟩
          rw [← HR.out, decide_eq_false (HN.out hy)]
      · clear hV h1 h2 x
        clear W
        rintro t' Y ⟨hy, hV, hSl⟩
        have hT2 := HY.out hy
        have HT2 := Lib.hid hT2
        clear hT2 hy
        obtain ⟨x, hx⟩ := Slots.open_ hSl; simp only [fill, Nat.reduceAdd] at hx; subst hx; clear hSl
        have hw : IntKind.i64.wrap ((k : Int) + 1) = ((k + 1 : Nat) : Int) := by rw [IntWalk.i64_in _ (by omega)]; norm_cast
        refine exec_region_o fun ds => ?_
        gi_wp2
        exact eq_mk (Keep.refl _) ⟨n - 1, by omega, k + 1, by omega, by omega, HT2.out, hV, by simp only [Slots, Fits, and_self]; simp [E1.out, E2.out]⟩
    · have hkl : k = l.length := by have := of_decide_eq_false hp; omega
      have htk := HT.out
      rw [hkl, List.take_length, List.take_of_length_le (by have := HL.out; omega)] at htk
      have hr : R = true := by rw [← HR.out]; exact decide_eq_true htk
      subst hr
      show Exec _ _ (Code.seq _ _) _ _ _
      refine exec_seq (exec_region_o fun ds => ?_)
      gi_wp2
      refine eq_mk (Keep.refl _) ?_
      show Exec _ _ _ _ _ _
      exact exec_ret ⟨.inr rfl, fun W' hG => ⟨.bool true, by simp [results, Try.f21, go_sem], rfl, hV.trans (hG.below (Nat.le_refl _) hV.size)⟩⟩
  · have hlI : ¬ ((l.length : Int) = m.length) := by omega
    refine exec_cond (b := true) (by first | rfl | (show Value.bool (decide _) = _; simp [hlI]; done) | (show Value.bool (!decide _) = _; simp [hlI]; done)) (fun _ => ?_) (fun h => by cases h)
    refine exec_seq (exec_region_o fun ds => ?_)
    gi_wp2
    refine eq_mk (Keep.refl _) ?_
    show Exec _ _ _ _ _ _
    refine exec_ret ⟨.inr rfl, fun W' hG => ⟨.bool false, by simp [results, Try.f21, go_sem], ?_, hG.below (Nat.le_refl _) (Nat.le_refl _)⟩⟩
    rw [← HR.out, decide_eq_false (fun c => hlm (by rw [c]))]
end Go.Proofs.Ytbdmmikflkpmpaa
end

section
set_option linter.unusedVariables false
set_option linter.unusedSimpArgs false
namespace Go.Proofs.Ytbdmmikflkpmpaa
open Go.RowKit Go.TL Go.Shelf Go.Pn
attribute [local go_sem] Oper.semAt_some
attribute [local go_sem] run_store_func
def smK (b : Bool) : List (Int × Int) := if b then [(0, 2), (2, 1), (0, 1)] else [(0, 2), (2, 1)]
def SmX (b : Bool) (a : XP) : Prop := a.L = [2, 2, 1] ∧ a.N = [2, 1, 2] ∧ a.K = smK b
def smN (b : Bool) : List (Nat × Nat) := if b then [(0, 2), (2, 1), (0, 1)] else [(0, 2), (2, 1)]
theorem rowKI_of {W : World} {A : Option Addr} {K : List (Nat × Nat)} (h : RowK W A K) : RowKI W A (K.map fun k => ((k.1 : Int), (k.2 : Int))) := by
  intro i k hk
  rw [List.getElem?_map] at hk
  obtain ⟨y, hy, rfl⟩ := Option.map_eq_some_iff.1 hk
  exact h i y hy
theorem smN_K (b : Bool) : (smN b).map (fun k => ((k.1 : Int), (k.2 : Int))) = smK b := by cases b <;> rfl
/-- The world of the example. -/
structure SmW (w : World) (q : Nat) (A : Option Addr) (c : Nat) (K : List (Nat × Nat)) (X : World) : Prop where
  h0 : X.heap[q]? = some (.cells #[.slice none 0 0, .slice none 0 0, .slice none 0 0] 25 (0, 0))
  h1 : X.heap[q + 1]? = some (.cells #[vi 2, vi 2, vi 1] 3 (0, 0))
  h2 : X.heap[q + 1 + 1]? = some (.cells #[vi 2, vi 1, vi 2] 3 (0, 0))
  h4 : X.heap[q + 1 + 1 + 1 + 1]? = some (.cells #[.slice (some ⟨q + 1, 0, none⟩) 3 3, .slice (some ⟨q + 1 + 1, 0, none⟩) 3 3, .slice A K.length c] 25 (0, 0))
  rk : RowK X A K
  ra : ∀ ad, A = some ad → q < ad.block
  below : Below w.heap.size w X
theorem row3 {W : World} {q : Nat} {a b c : Int} (h : W.heap[q]? = some (.cells #[vi a, vi b, vi c] 3 (0, 0))) : RowV W (some ⟨q, 0, none⟩) ([a, b, c].map vi) := row_of_cells (vs := [vi a, vi b, vi c]) h
set_option maxRecDepth 100000 in
set_option maxHeartbeats 1000000 in
theorem sm_end {w : World} {b : Bool} {A : Option Addr} {c : Nat} {X : World} (h : SmW w w.heap.size A c (smN b) X) (t : Array Value) (hSl : Slots (none :: none :: some (.pointer (some ⟨w.heap.size, 0, none⟩)) :: some (.pointer (some ⟨w.heap.size + 1 + 1 + 1 + 1, 0, none⟩)) :: none :: none :: o4 (o4 (o4 []))) t) :
    Exec Try.prog none (sub (Try.f46.body.getD .skip) [1, 1, 1]) t X fun e t W => (e = .normal ∨ e = .ret) ∧ ∀ W', Grow w.heap.size W W' → ∃ v, (results Try.f46 t).run Try.prog W' = .ok v W' ∧ ∃ a : XP, Ending.returned v = .returned a.val ∧ SmX b a ∧ a.At W' ∧ Below w.heap.size w W' := by
  have hu25 := Try.underlying25
  obtain ⟨x, hx⟩ := Slots.open_ hSl; simp only [fill, Nat.reduceAdd] at hx; subst hx; clear hSl
  have c0 := cells_get (cs := [_, _, _]) (k := 0) h.h4 rfl
  have c1 := cells_get (cs := [_, _, _]) (k := 1) h.h4 rfl
  have c2 := cells_get (cs := [_, _, _]) (k := 2) h.h4 rfl
  have d0 := cells_get (cs := [_, _, _]) (k := 0) h.h0 rfl
  have d1 := cells_get (cs := [_, _, _]) (k := 1) h.h0 rfl
  have d2 := cells_get (cs := [_, _, _]) (k := 2) h.h0 rfl
  have df : ∀ o, X.frozen? ⟨w.heap.size, o, none⟩ = false := fun o => frozen_cells h.h0
  have hlen : (smN b).length ≤ 3 := by cases b <;> decide
  have e0 := box_set _ w.heap.size 0 [.slice none 0 0, .slice none 0 0, .slice none 0 0] 25 (.slice (some ⟨w.heap.size + 1, 0, none⟩) 3 3) h.h0
  have e1 := box_set _ w.heap.size 1 [.slice (some ⟨w.heap.size + 1, 0, none⟩) 3 3, .slice none 0 0, .slice none 0 0] 25 (.slice (some ⟨w.heap.size + 1 + 1, 0, none⟩) 3 3) e0
  have e2 := box_set _ w.heap.size 2 [.slice (some ⟨w.heap.size + 1, 0, none⟩) 3 3, .slice (some ⟨w.heap.size + 1 + 1, 0, none⟩) 3 3, .slice none 0 0] 25 (.slice A (smN b).length c) e1
  have hB := ((h.below.setCell (p := ⟨w.heap.size, 0, none⟩) (Nat.le_refl _) (.slice (some ⟨w.heap.size + 1, 0, none⟩) 3 3)).setCell (p := ⟨w.heap.size, 1, none⟩) (Nat.le_refl _) (.slice (some ⟨w.heap.size + 1 + 1, 0, none⟩) 3 3)).setCell (p := ⟨w.heap.size, 2, none⟩) (Nat.le_refl _) (.slice A (smN b).length c)
  have far : ∀ k o, k ≠ w.heap.size → X.heap[k]? = some o → (((X.setCell ⟨w.heap.size, 0, none⟩ (.slice (some ⟨w.heap.size + 1, 0, none⟩) 3 3)).setCell ⟨w.heap.size, 1, none⟩ (.slice (some ⟨w.heap.size + 1 + 1, 0, none⟩) 3 3)).setCell ⟨w.heap.size, 2, none⟩ (.slice A (smN b).length c)).heap[k]? = some o := fun k o hk ho => box_far _ _ _ _ _ _ (box_far _ _ _ _ _ _ (box_far _ _ _ _ _ _ ho hk) hk) hk
  have f1 := far _ _ (by omega) h.h1
  have f2 := far _ _ (by omega) h.h2
  have fk : RowK (((X.setCell ⟨w.heap.size, 0, none⟩ (.slice (some ⟨w.heap.size + 1, 0, none⟩) 3 3)).setCell ⟨w.heap.size, 1, none⟩ (.slice (some ⟨w.heap.size + 1 + 1, 0, none⟩) 3 3)).setCell ⟨w.heap.size, 2, none⟩ (.slice A (smN b).length c)) A (smN b) :=
    ((h.rk.far (fun _ ad e => by have := h.ra ad e; omega) _).far (fun _ ad e => by have := h.ra ad e; omega) _).far (fun _ ad e => by have := h.ra ad e; omega) _
  show Exec _ _ (Code.seq _ _) _ _ _
  refine exec_seq (exec_region_o fun ds => ?_)
  gi_wp2
  refine eq_mk ((((Keep.refl _).setCell _ _).setCell _ _).setCell _ _) ?_
  show Exec _ _ _ _ _ _
  refine exec_ret ⟨.inr rfl, fun W' hG => ?_⟩
  have g2 := hG.same _ _ e2 (.inr rfl)
  have k0 := cells_get (cs := [_, _, _]) (k := 0) g2 rfl
  have k1 := cells_get (cs := [_, _, _]) (k := 1) g2 rfl
  have k2 := cells_get (cs := [_, _, _]) (k := 2) g2 rfl
  refine ⟨.agg #[.slice (some ⟨w.heap.size + 1, 0, none⟩) 3 3, .slice (some ⟨w.heap.size + 1 + 1, 0, none⟩) 3 3, .slice A (smN b).length c], by simp [results, Try.f46, go_sem, hu25, k0, k1, k2], ⟨some ⟨w.heap.size + 1, 0, none⟩, 3, [2, 2, 1], some ⟨w.heap.size + 1 + 1, 0, none⟩, 3, [2, 1, 2], A, c, smK b⟩, ?_, ⟨rfl, rfl, rfl⟩, ⟨row3 (hG.same _ _ f1 (.inr rfl)), row3 (hG.same _ _ f2 (.inr rfl)), ?_, by simp, by simp, ?_⟩, hB.trans (hG.below (Nat.le_refl _) hB.size)⟩
  · simp only [XP.val, XP.sL, XP.sN, XP.sK]
    rw [← smN_K, List.length_map]
    rfl
  · rw [← smN_K]
    exact rowKI_of (fk.grow hG)
  · rw [← smN_K, List.length_map]
    omega
set_option maxRecDepth 100000 in
set_option maxHeartbeats 1000000 in
theorem sample46 (b : Bool) (w : World) : Calls Try.prog 46 #[.bool b] w fun e w' => ∃ a : XP, e = .returned a.val ∧ SmX b a ∧ a.At w' ∧ Below w.heap.size w w' := by
  have hu25 := Try.underlying25
  have hu22 := Try.underlying22
  have hu23 := Try.underlying23
  have hu50 := Try.underlying50
  refine calls_of_exec Try.func46 rfl ?_
  simp only [Try.ntmps46, List.size_toArray, List.length_cons, List.length_nil, Nat.reduceAdd, Nat.reduceSub, Array.replicate_succ, Array.replicate_zero, List.push_toArray, List.append_toArray, List.nil_append, List.cons_append]
  refine exec_seq (exec_region_o fun ds => ?_)
  gi_wp2
  refine eq_mk ((Keep.refl _).alloc _) ?_
  show Exec _ _ (Code.seq _ _) _ _ _
  refine exec_seq (exec_region_o fun ds => ?_)
  gi_wp2
  refine eq_mk (((((Keep.refl _).alloc _).alloc _).alloc _).alloc _) ?_
  show Exec _ _ (Code.seq (Code.seq _ _) _) _ (((((w.alloc (.cells #[.slice none 0 0, .slice none 0 0, .slice none 0 0] 25)).alloc (.cells #[vi 2, vi 2, vi 1] 3)).alloc (.cells #[vi 2, vi 1, vi 2] 3)).alloc (.cells #[iv 0, iv 2, iv 2, iv 1] 50)).alloc (.cells #[.slice (some ⟨w.heap.size + 1, 0, none⟩) 3 3, .slice (some ⟨w.heap.size + 1 + 1, 0, none⟩) 3 3, .slice (some ⟨w.heap.size + 1 + 1 + 1, 0, none⟩) 2 2] 25)) _
  have hB : Below w.heap.size w (((((w.alloc (.cells #[.slice none 0 0, .slice none 0 0, .slice none 0 0] 25)).alloc (.cells #[vi 2, vi 2, vi 1] 3)).alloc (.cells #[vi 2, vi 1, vi 2] 3)).alloc (.cells #[iv 0, iv 2, iv 2, iv 1] 50)).alloc (.cells #[.slice (some ⟨w.heap.size + 1, 0, none⟩) 3 3, .slice (some ⟨w.heap.size + 1 + 1, 0, none⟩) 3 3, .slice (some ⟨w.heap.size + 1 + 1 + 1, 0, none⟩) 2 2] 25)) := (((((Below.refl _ w).alloc (Nat.le_refl _) _).alloc (by simp) _).alloc (by simp; omega) _).alloc (by simp; omega) _).alloc (by simp; omega) _
  have o3 : (((((w.alloc (.cells #[.slice none 0 0, .slice none 0 0, .slice none 0 0] 25)).alloc (.cells #[vi 2, vi 2, vi 1] 3)).alloc (.cells #[vi 2, vi 1, vi 2] 3)).alloc (.cells #[iv 0, iv 2, iv 2, iv 1] 50)).alloc (.cells #[.slice (some ⟨w.heap.size + 1, 0, none⟩) 3 3, .slice (some ⟨w.heap.size + 1 + 1, 0, none⟩) 3 3, .slice (some ⟨w.heap.size + 1 + 1 + 1, 0, none⟩) 2 2] 25)).ownsRow (w.heap.size + 1) 50 2 (.slice (some ⟨w.heap.size + 1 + 1 + 1, 0, none⟩) 2 2) 2 (flatV (smN false)) := by
    have h := World.ownsRow_lit (base := w.heap.size + 1) (e := 50) (size := 2) (((w.alloc (.cells #[.slice none 0 0, .slice none 0 0, .slice none 0 0] 25)).alloc (.cells #[vi 2, vi 2, vi 1] 3)).alloc (.cells #[vi 2, vi 1, vi 2] 3)) #[iv 0, iv 2, iv 2, iv 1] 2 (by simp) (by unfold maxLen; omega) rfl
    simp only [World.size_alloc] at h
    exact h.alloc _
  have g0 : (((((w.alloc (.cells #[.slice none 0 0, .slice none 0 0, .slice none 0 0] 25)).alloc (.cells #[vi 2, vi 2, vi 1] 3)).alloc (.cells #[vi 2, vi 1, vi 2] 3)).alloc (.cells #[iv 0, iv 2, iv 2, iv 1] 50)).alloc (.cells #[.slice (some ⟨w.heap.size + 1, 0, none⟩) 3 3, .slice (some ⟨w.heap.size + 1 + 1, 0, none⟩) 3 3, .slice (some ⟨w.heap.size + 1 + 1 + 1, 0, none⟩) 2 2] 25)).heap[w.heap.size]? = some (.cells #[.slice none 0 0, .slice none 0 0, .slice none 0 0] 25 (0, 0)) := heap_next (heap_next (heap_next (heap_next (World.alloc_heap_new _ _) _) _) _) _
  have g1 : (((((w.alloc (.cells #[.slice none 0 0, .slice none 0 0, .slice none 0 0] 25)).alloc (.cells #[vi 2, vi 2, vi 1] 3)).alloc (.cells #[vi 2, vi 1, vi 2] 3)).alloc (.cells #[iv 0, iv 2, iv 2, iv 1] 50)).alloc (.cells #[.slice (some ⟨w.heap.size + 1, 0, none⟩) 3 3, .slice (some ⟨w.heap.size + 1 + 1, 0, none⟩) 3 3, .slice (some ⟨w.heap.size + 1 + 1 + 1, 0, none⟩) 2 2] 25)).heap[w.heap.size + 1]? = some (.cells #[vi 2, vi 2, vi 1] 3 (0, 0)) := by
    have := World.alloc_heap_new (w.alloc (.cells #[.slice none 0 0, .slice none 0 0, .slice none 0 0] 25)) (.cells #[vi 2, vi 2, vi 1] 3)
    simp only [World.size_alloc] at this
    exact heap_next (heap_next (heap_next this _) _) _
  have g2 : (((((w.alloc (.cells #[.slice none 0 0, .slice none 0 0, .slice none 0 0] 25)).alloc (.cells #[vi 2, vi 2, vi 1] 3)).alloc (.cells #[vi 2, vi 1, vi 2] 3)).alloc (.cells #[iv 0, iv 2, iv 2, iv 1] 50)).alloc (.cells #[.slice (some ⟨w.heap.size + 1, 0, none⟩) 3 3, .slice (some ⟨w.heap.size + 1 + 1, 0, none⟩) 3 3, .slice (some ⟨w.heap.size + 1 + 1 + 1, 0, none⟩) 2 2] 25)).heap[w.heap.size + 1 + 1]? = some (.cells #[vi 2, vi 1, vi 2] 3 (0, 0)) := by
    have := World.alloc_heap_new ((w.alloc (.cells #[.slice none 0 0, .slice none 0 0, .slice none 0 0] 25)).alloc (.cells #[vi 2, vi 2, vi 1] 3)) (.cells #[vi 2, vi 1, vi 2] 3)
    simp only [World.size_alloc] at this
    exact heap_next (heap_next this _) _
  have g4 := World.alloc_heap_new ((((w.alloc (.cells #[.slice none 0 0, .slice none 0 0, .slice none 0 0] 25)).alloc (.cells #[vi 2, vi 2, vi 1] 3)).alloc (.cells #[vi 2, vi 1, vi 2] 3)).alloc (.cells #[iv 0, iv 2, iv 2, iv 1] 50)) (.cells #[.slice (some ⟨w.heap.size + 1, 0, none⟩) 3 3, .slice (some ⟨w.heap.size + 1 + 1, 0, none⟩) 3 3, .slice (some ⟨w.heap.size + 1 + 1 + 1, 0, none⟩) 2 2] 25)
  simp only [World.size_alloc] at g4
  generalize ((((w.alloc (.cells #[.slice none 0 0, .slice none 0 0, .slice none 0 0] 25)).alloc (.cells #[vi 2, vi 2, vi 1] 3)).alloc (.cells #[vi 2, vi 1, vi 2] 3)).alloc (.cells #[iv 0, iv 2, iv 2, iv 1] 50)).alloc (.cells #[.slice (some ⟨w.heap.size + 1, 0, none⟩) 3 3, .slice (some ⟨w.heap.size + 1 + 1, 0, none⟩) 3 3, .slice (some ⟨w.heap.size + 1 + 1 + 1, 0, none⟩) 2 2] 25) = X at *
  have hr0 : RowK X (some ⟨w.heap.size + 1 + 1 + 1, 0, none⟩) (smN false) := by
    obtain ⟨A0, c0, ev, hr0, ha0⟩ := row_own_pairs o3 rfl
    simp only [Value.slice.injEq] at ev
    rw [ev.1]
    exact hr0
  have hlt4 := heap_lt g4
  refine exec_seq (exec_seq (exec_region_o fun ds => ?_))
  gi_wp2
  refine eq_mk (Keep.refl _) ?_
  show Exec _ _ (Code.cond _ _ _) _ _ _
  cases b with
  | false =>
    refine exec_cond (b := false) rfl (fun h => by cases h) (fun _ => exec_skip ?_)
    refine sm_end (b := false) (A := some ⟨w.heap.size + 1 + 1 + 1, 0, none⟩) (c := 2) ⟨g0, g1, g2, g4, hr0, fun ad e => by cases e; show w.heap.size < w.heap.size + 1 + 1 + 1; omega, hB⟩ _ (by simp [Slots, Fits])
  | true =>
    refine exec_cond (b := true) rfl (fun _ => ?_) (fun h => by cases h)
    have k2 := cells_get (cs := [_, _, _]) (k := 2) g4 rfl
    obtain ⟨i0, z, hi0, hz0, hz3, hz1, hz2⟩ := info50
    have hsz := hB.size
    refine exec_region_o fun ds => ?_
    gi_wp2_with (gi_at_builtin; refine wpListIn_append_own _ rfl _ _ 23 rfl (w.heap.size + 1) 50 i0 z 2 16 Try.underlying23 hi0 hz0 hz1 hz2 hz3 (by decide) (.slice (some ⟨w.heap.size + 1 + 1 + 1, 0, none⟩) 2 2) 2 (flatV (smN false)) rfl (o3.alloc _) ⟨X.heap.size, 0, none⟩ 1 1 [iv 0, iv 1] rfl rfl (cell_pair _ _ _ _) (by simp [Value.oneCell']) (by unfold maxLen; omega) (by omega) (by simp; omega) ?_; intro v' w' hown2 hgr _; obtain ⟨A1, c1, rfl, hr1, ha1⟩ := row_own_pairs (K := smN true) hown2 rfl; have hblk : ∀ k o, X.heap[k]? = some o → k ≠ w.heap.size + 1 + 1 + 1 → w'.heap[k]? = some o := (fun k o hk hne => (hgr.block k (by rw [World.size_alloc]; have := heap_lt hk; omega) (fun e => hne (by have := Option.some.inj e; exact this))).trans (heap_next hk _)); have hb4 := hblk _ _ g4 (by omega); have k2' := cells_get (cs := [_, _, _]) (k := 2) hb4 rfl; have kf := (frozen_cells hb4 : w'.frozen? ⟨w.heap.size + 1 + 1 + 1 + 1, 2, none⟩ = false))
    have hbk : ∀ j o, (Value.slice (some ⟨w.heap.size + 1 + 1 + 1, 0, none⟩) 2 2).ownBlock = some j → (X.alloc (.cells #[iv 0, iv 1] 50)).heap[j]? = some o → book o = false := by
      intro j o hv ho
      rcases (o3.alloc (.cells #[iv 0, iv 1] 50)).2 with ⟨h, _⟩ | ⟨g', cap', cur, h, _, hg', _⟩
      · cases h
      · rw [h] at hv
        simp only [Value.ownBlock, Option.some.injEq] at hv
        subst hv
        rw [hg'] at ho
        cases ho
        rfl
    have hB3 : Below w.heap.size w w' := (hB.alloc hsz (.cells #[iv 0, iv 1] 50)).grown hgr (by simp; omega) (fun q e => by simp only [Value.ownBlock, Option.some.injEq] at e; omega)
    refine eq_mk ((((Keep.refl _).alloc _).grown hgr hbk).setCell _ _) ?_
    have hbox := box_set w' (w.heap.size + 1 + 1 + 1 + 1) 2 _ 25 (.slice A1 (smN true).length c1) hb4
    have hfar : ∀ k o, X.heap[k]? = some o → k ≠ w.heap.size + 1 + 1 + 1 → k ≠ w.heap.size + 1 + 1 + 1 + 1 → (w'.setCell ⟨w.heap.size + 1 + 1 + 1 + 1, 2, none⟩ (.slice A1 (smN true).length c1)).heap[k]? = some o := fun k o hk h1 h2 => box_far _ _ _ _ _ _ (hblk k o hk h1) h2
    have hne4 : ∀ ad, A1 = some ad → ad.block ≠ w.heap.size + 1 + 1 + 1 + 1 := fun ad e c => by
      rcases hown2.2 with ⟨h, _⟩ | ⟨g, cap, cur, h, _, hg', _⟩
      · simp only [Value.slice.injEq] at h
        rw [e] at h
        cases h.1
      · simp only [Value.slice.injEq] at h
        rw [e] at h
        have := Option.some.inj h.1
        rw [this] at c
        simp only at c
        rw [c, hb4] at hg'
        cases hg'
    show Exec _ _ (Code.seq _ _) _ _ _
    have hSW : SmW w w.heap.size A1 c1 (smN true) (w'.setCell ⟨w.heap.size + 1 + 1 + 1 + 1, 2, none⟩ (.slice A1 (smN true).length c1)) := ⟨hfar _ _ g0 (by omega) (by omega), hfar _ _ g1 (by omega) (by omega), hfar _ _ g2 (by omega) (by omega), hbox, hr1.far (fun _ ad e => hne4 ad e) _, fun ad e => by have := ha1 ad e; omega, hB3.setCell (by show w.heap.size ≤ w.heap.size + 1 + 1 + 1 + 1; omega) _⟩
    refine (sm_end (b := true) hSW _ ?_).mono ?_
    · simp [Slots, Fits]
    · rintro e t W ⟨h1, h2⟩
      refine ⟨h1, fun W' hG => ?_⟩
      obtain ⟨v, hr, a, he, r⟩ := h2 W' hG
      exact ⟨v, hr, a, Ending.returned.inj he, r⟩
end Go.Proofs.Ytbdmmikflkpmpaa
end

section
set_option linter.unusedVariables false
set_option linter.unusedSimpArgs false
namespace Go.Proofs.Ytbdmmikflkpmpaa
open Go.RowKit Go.TL Go.Shelf Go.Pn
attribute [local go_sem] Oper.semAt_some
attribute [local go_sem] run_store_func
theorem sm_sit {a : XP} (h : SmX false a) : sitA a = ([3, 1, 6], 0) := by
  obtain ⟨AL, cL, L, AN, cN, N, AK, cK, K⟩ := a
  obtain ⟨h1, h2, h3⟩ := h
  simp only at h1 h2 h3
  subst h1 h2 h3
  kernel_rfl
theorem sm_count {a : XP} (h : SmX false a) : countA a = (1, 0) := by
  obtain ⟨AL, cL, L, AN, cN, N, AK, cK, K⟩ := a
  obtain ⟨h1, h2, h3⟩ := h
  simp only at h1 h2 h3
  subst h1 h2 h3
  kernel_rfl
theorem sm_pair {a : XP} (h : SmX false a) : pairA a 0 0 = (2, 0) := by
  obtain ⟨AL, cL, L, AN, cN, N, AK, cK, K⟩ := a
  obtain ⟨h1, h2, h3⟩ := h
  simp only at h1 h2 h3
  subst h1 h2 h3
  kernel_rfl
theorem sm_busy {a : XP} (h : SmX false a) : busyA a = (2, 0) := by
  obtain ⟨AL, cL, L, AN, cN, N, AK, cK, K⟩ := a
  obtain ⟨h1, h2, h3⟩ := h
  simp only at h1 h2 h3
  subst h1 h2 h3
  kernel_rfl
theorem sm_seats {a : XP} (h : SmX true a) : seatsA a = (4, 0) := by
  obtain ⟨AL, cL, L, AN, cN, N, AK, cK, K⟩ := a
  obtain ⟨h1, h2, h3⟩ := h
  simp only at h1 h2 h3
  subst h1 h2 h3
  kernel_rfl
theorem sm_short {a : XP} (h : SmX true a) : shortA a = (7, 0) := by
  obtain ⟨AL, cL, L, AN, cN, N, AK, cK, K⟩ := a
  obtain ⟨h1, h2, h3⟩ := h
  simp only at h1 h2 h3
  subst h1 h2 h3
  kernel_rfl
theorem sm_waive {a : XP} (h : SmX true a) : waiveA a = (1, 0) := by
  obtain ⟨AL, cL, L, AN, cN, N, AK, cK, K⟩ := a
  obtain ⟨h1, h2, h3⟩ := h
  simp only at h1 h2 h3
  subst h1 h2 h3
  kernel_rfl
theorem sm_pair11 {a : XP} (h : SmX false a) : pairA a 1 1 = (0, 0) := by
  obtain ⟨AL, cL, L, AN, cN, N, AK, cK, K⟩ := a
  obtain ⟨h1, h2, h3⟩ := h
  simp only at h1 h2 h3
  subst h1 h2 h3
  kernel_rfl
theorem sm_spare {a : XP} (h : SmX false a) : spareA a = (0, 0) := by
  obtain ⟨AL, cL, L, AN, cN, N, AK, cK, K⟩ := a
  obtain ⟨h1, h2, h3⟩ := h
  simp only at h1 h2 h3
  subst h1 h2 h3
  kernel_rfl
theorem sm_seatsF {a : XP} (h : SmX false a) : seatsA a = (5, 0) := by
  obtain ⟨AL, cL, L, AN, cN, N, AK, cK, K⟩ := a
  obtain ⟨h1, h2, h3⟩ := h
  simp only at h1 h2 h3
  subst h1 h2 h3
  kernel_rfl
theorem sm_shortF {a : XP} (h : SmX false a) : shortA a = (0, 4) := by
  obtain ⟨AL, cL, L, AN, cN, N, AK, cK, K⟩ := a
  obtain ⟨h1, h2, h3⟩ := h
  simp only at h1 h2 h3
  subst h1 h2 h3
  kernel_rfl
theorem sm_waiveF {a : XP} (h : SmX false a) : waiveA a = (0, 0) := by
  obtain ⟨AL, cL, L, AN, cN, N, AK, cK, K⟩ := a
  obtain ⟨h1, h2, h3⟩ := h
  simp only at h1 h2 h3
  subst h1 h2 h3
  kernel_rfl
theorem sm_sitT {a : XP} (h : SmX true a) : sitA a = ([], 4) := by
  obtain ⟨AL, cL, L, AN, cN, N, AK, cK, K⟩ := a
  obtain ⟨h1, h2, h3⟩ := h
  simp only at h1 h2 h3
  subst h1 h2 h3
  kernel_rfl
theorem sm_countT {a : XP} (h : SmX true a) : countA a = (0, 0) := by
  obtain ⟨AL, cL, L, AN, cN, N, AK, cK, K⟩ := a
  obtain ⟨h1, h2, h3⟩ := h
  simp only at h1 h2 h3
  subst h1 h2 h3
  kernel_rfl
set_option maxRecDepth 100000 in
set_option maxHeartbeats 2000000 in
theorem alive14 (w : World) : Calls Try.prog 14 #[] w fun e w' => e = .returned (.bool true) ∧ Below w.heap.size w w' := by
  have hu22 := Try.underlying22
  refine calls_of_exec Try.func14 rfl ?_
  simp only [Try.ntmps14, List.size_toArray, List.length_cons, List.length_nil, Nat.reduceAdd, Nat.reduceSub, Array.replicate_succ, Array.replicate_zero, List.push_toArray, List.append_toArray, List.nil_append, List.cons_append]
  refine exec_seq (exec_region_o fun ds => ?_)
  gi_wp2
  refine eq_mk (Keep.refl w) ?_
  show Exec _ _ _ _ _ _
  refine exec_seq (exec_region_o fun ds => ?_)
  gi_wp2_with fail
  refine ⟨trivial, rfl, (callsIn_wide.2 (sample46 false w)).mono ?_⟩
  rintro e X0 ⟨a, rfl, hs, ha, hx⟩
  have hv0 := sm_sit hs
  gi_wp2_with fail
  refine ⟨trivial, rfl, (callsIn_wide.2 (Sit_any a X0 ha)).mono ?_⟩
  rintro e Y0 ⟨A, c, rfl, hr, hy⟩
  rw [hv0] at hr ⊢
  have hxy0 := hx.trans (hy.mono hx.size)
  have hB0 := hxy0
  gi_wp2
  refine eq_mk (Keep.of_below hxy0) ?_
  show Exec _ _ _ _ _ _
  clear hxy0 hx hy hv0 hs ha
  clear X0
  refine exec_seq (exec_region_o fun ds => ?_)
  gi_wp2_with fail
  refine ⟨trivial, rfl, (callsIn_wide.2 (sample46 false Y0)).mono ?_⟩
  rintro e X1 ⟨a, rfl, hs, ha, hx⟩
  have hv1 := sm_count hs
  gi_wp2_with fail
  have hc1 := Count_any a X1 ha
  rw [hv1] at hc1
  refine ⟨trivial, rfl, (callsIn_wide.2 hc1).mono ?_⟩
  rintro e Y1 ⟨rfl, hy⟩
  have hxy1 := hx.trans (hy.mono hx.size)
  have hB1 := hB0.trans (hxy1.mono hB0.size)
  replace hr := hr.below hxy1
  gi_wp2
  refine eq_mk (Keep.of_below hxy1) ?_
  show Exec _ _ _ _ _ _
  clear hxy1 hx hy hv1 hs ha hc1
  clear X1
  clear hB0
  clear Y0
  refine exec_seq (exec_region_o fun ds => ?_)
  gi_wp2_with fail
  refine ⟨trivial, rfl, (callsIn_wide.2 (sample46 false Y1)).mono ?_⟩
  rintro e X2 ⟨a, rfl, hs, ha, hx⟩
  have hv2 := sm_pair hs
  gi_wp2_with fail
  have hc2 := Pair_any a 0 0 X2 ha
  rw [hv2] at hc2
  refine ⟨trivial, rfl, (callsIn_wide.2 hc2).mono ?_⟩
  rintro e Y2 ⟨rfl, hy⟩
  have hxy2 := hx.trans (hy.mono hx.size)
  have hB2 := hB1.trans (hxy2.mono hB1.size)
  replace hr := hr.below hxy2
  gi_wp2
  refine eq_mk (Keep.of_below hxy2) ?_
  show Exec _ _ _ _ _ _
  clear hxy2 hx hy hv2 hs ha hc2
  clear X2
  clear hB1
  clear Y1
  refine exec_seq (exec_region_o fun ds => ?_)
  gi_wp2_with fail
  refine ⟨trivial, rfl, (callsIn_wide.2 (sample46 false Y2)).mono ?_⟩
  rintro e X3 ⟨a, rfl, hs, ha, hx⟩
  have hv3 := sm_busy hs
  gi_wp2_with fail
  have hc3 := Busy_any a X3 ha
  rw [hv3] at hc3
  refine ⟨trivial, rfl, (callsIn_wide.2 hc3).mono ?_⟩
  rintro e Y3 ⟨rfl, hy⟩
  have hxy3 := hx.trans (hy.mono hx.size)
  have hB3 := hB2.trans (hxy3.mono hB2.size)
  replace hr := hr.below hxy3
  gi_wp2
  refine eq_mk (Keep.of_below hxy3) ?_
  show Exec _ _ _ _ _ _
  clear hxy3 hx hy hv3 hs ha hc3
  clear X3
  clear hB2
  clear Y2
  refine exec_seq (exec_region_o fun ds => ?_)
  gi_wp2_with fail
  refine ⟨trivial, rfl, (callsIn_wide.2 (sample46 true Y3)).mono ?_⟩
  rintro e X4 ⟨a, rfl, hs, ha, hx⟩
  have hv4 := sm_seats hs
  gi_wp2_with fail
  have hc4 := Seats_any a X4 ha
  rw [hv4] at hc4
  refine ⟨trivial, rfl, (callsIn_wide.2 hc4).mono ?_⟩
  rintro e Y4 ⟨rfl, hy⟩
  have hxy4 := hx.trans (hy.mono hx.size)
  have hB4 := hB3.trans (hxy4.mono hB3.size)
  replace hr := hr.below hxy4
  gi_wp2
  refine eq_mk (Keep.of_below hxy4) ?_
  show Exec _ _ _ _ _ _
  clear hxy4 hx hy hv4 hs ha hc4
  clear X4
  clear hB3
  clear Y3
  refine exec_seq (exec_region_o fun ds => ?_)
  gi_wp2_with fail
  refine ⟨trivial, rfl, (callsIn_wide.2 (sample46 true Y4)).mono ?_⟩
  rintro e X5 ⟨a, rfl, hs, ha, hx⟩
  have hv5 := sm_short hs
  gi_wp2_with fail
  have hc5 := Short_any a X5 ha
  rw [hv5] at hc5
  refine ⟨trivial, rfl, (callsIn_wide.2 hc5).mono ?_⟩
  rintro e Y5 ⟨rfl, hy⟩
  have hxy5 := hx.trans (hy.mono hx.size)
  have hB5 := hB4.trans (hxy5.mono hB4.size)
  replace hr := hr.below hxy5
  gi_wp2
  refine eq_mk (Keep.of_below hxy5) ?_
  show Exec _ _ _ _ _ _
  clear hxy5 hx hy hv5 hs ha hc5
  clear X5
  clear hB4
  clear Y4
  refine exec_seq (exec_region_o fun ds => ?_)
  gi_wp2_with fail
  refine ⟨trivial, rfl, (callsIn_wide.2 (sample46 true Y5)).mono ?_⟩
  rintro e X6 ⟨a, rfl, hs, ha, hx⟩
  have hv6 := sm_waive hs
  gi_wp2_with fail
  have hc6 := Waive_any a X6 ha
  rw [hv6] at hc6
  refine ⟨trivial, rfl, (callsIn_wide.2 hc6).mono ?_⟩
  rintro e Y6 ⟨rfl, hy⟩
  have hxy6 := hx.trans (hy.mono hx.size)
  have hB6 := hB5.trans (hxy6.mono hB5.size)
  replace hr := hr.below hxy6
  gi_wp2
  refine eq_mk (Keep.of_below hxy6) ?_
  show Exec _ _ _ _ _ _
  clear hxy6 hx hy hv6 hs ha hc6
  clear X6
  clear hB5
  clear Y5
  have hal := (Below.refl Y6.heap.size Y6).alloc (Nat.le_refl _) (.cells #[vi 3, vi 1, vi 6] 3)
  have hr' : RowV (Y6.alloc (.cells #[vi 3, vi 1, vi 6] 3)) A (([3, 1, 6] : List Int).map vi) := hr.below hal
  have hi := ints21 A (some ⟨Y6.heap.size, 0, none⟩) c 3 [3, 1, 6] [3, 1, 6] (by decide) (by decide) (Y6.alloc (.cells #[vi 3, vi 1, vi 6] 3)) hr' (row3 (World.alloc_heap_new _ _))
  rw [decide_eq_true rfl] at hi
  refine exec_seq (exec_region_o fun ds => ?_)
  gi_wp2_with fail
  refine ⟨trivial, rfl, (callsIn_wide.2 hi).mono ?_⟩
  rintro e Z ⟨rfl, hz⟩
  have hB := hB6.trans ((hal.trans (hz.mono hal.size)).mono hB6.size)
  gi_wp2
  refine eq_mk (((Keep.refl _).alloc _).trans (Keep.of_below hz)) ?_
  show Exec _ _ _ _ _ _
  exact exec_ret ⟨.inr rfl, fun W' hG => ⟨.bool true, by simp [results, Try.f14, go_sem], rfl, hB.trans (hG.below (Nat.le_refl _) hB.size)⟩⟩
end Go.Proofs.Ytbdmmikflkpmpaa
end

section
set_option linter.unusedVariables false
set_option linter.unusedSimpArgs false
namespace Go.Proofs.Ytbdmmikflkpmpaa
open Go.RowKit Go.TL Go.Shelf Go.Pn
attribute [local go_sem] Oper.semAt_some
attribute [local go_sem] run_store_func
set_option maxRecDepth 100000 in
set_option maxHeartbeats 2000000 in
theorem names_any (w : World) : Calls Try.prog 10 #[] w fun e w' => e = .returned (.bool true) ∧ Below w.heap.size w w' := by
  refine calls_of_exec Try.func10 rfl ?_
  simp only [Try.ntmps10, List.size_toArray, List.length_cons, List.length_nil, Nat.reduceAdd, Nat.reduceSub, Array.replicate_succ, Array.replicate_zero, List.push_toArray, List.append_toArray, List.nil_append, List.cons_append]
  refine exec_seq (exec_region_o fun ds => ?_)
  gi_wp2
  refine eq_mk (Keep.refl w) ?_
  show Exec _ _ _ _ _ _
  have hr : True := trivial
  refine exec_seq (exec_region_o fun ds => ?_)
  gi_wp2_with fail
  refine ⟨trivial, rfl, (callsIn_wide.2 (sample46 false w)).mono ?_⟩
  rintro e X0 ⟨a, rfl, hs, ha, hx⟩
  have hv0 := sm_pair11 hs
  gi_wp2_with fail
  have hc0 := Pair_any a 1 1 X0 ha
  rw [hv0] at hc0
  refine ⟨trivial, rfl, (callsIn_wide.2 hc0).mono ?_⟩
  rintro e Y0 ⟨rfl, hy⟩
  have hxy0 := hx.trans (hy.mono hx.size)
  have hB0 := hxy0
  gi_wp2
  refine eq_mk (Keep.of_below hxy0) ?_
  show Exec _ _ _ _ _ _
  clear hxy0 hx hy hv0 hs ha hc0
  clear X0
  refine exec_seq (exec_region_o fun ds => ?_)
  gi_wp2_with fail
  refine ⟨trivial, rfl, (callsIn_wide.2 (sample46 false Y0)).mono ?_⟩
  rintro e X1 ⟨a, rfl, hs, ha, hx⟩
  have hv1 := sm_spare hs
  gi_wp2_with fail
  have hc1 := Spare_any a X1 ha
  rw [hv1] at hc1
  refine ⟨trivial, rfl, (callsIn_wide.2 hc1).mono ?_⟩
  rintro e Y1 ⟨rfl, hy⟩
  have hxy1 := hx.trans (hy.mono hx.size)
  have hB1 := hB0.trans (hxy1.mono hB0.size)
  gi_wp2
  refine eq_mk (Keep.of_below hxy1) ?_
  show Exec _ _ _ _ _ _
  clear hxy1 hx hy hv1 hs ha hc1
  clear X1
  clear hB0
  clear Y0
  refine exec_seq (exec_region_o fun ds => ?_)
  gi_wp2_with fail
  refine ⟨trivial, rfl, (callsIn_wide.2 (sample46 false Y1)).mono ?_⟩
  rintro e X2 ⟨a, rfl, hs, ha, hx⟩
  have hv2 := sm_seatsF hs
  gi_wp2_with fail
  have hc2 := Seats_any a X2 ha
  rw [hv2] at hc2
  refine ⟨trivial, rfl, (callsIn_wide.2 hc2).mono ?_⟩
  rintro e Y2 ⟨rfl, hy⟩
  have hxy2 := hx.trans (hy.mono hx.size)
  have hB2 := hB1.trans (hxy2.mono hB1.size)
  gi_wp2
  refine eq_mk (Keep.of_below hxy2) ?_
  show Exec _ _ _ _ _ _
  clear hxy2 hx hy hv2 hs ha hc2
  clear X2
  clear hB1
  clear Y1
  refine exec_seq (exec_region_o fun ds => ?_)
  gi_wp2_with fail
  refine ⟨trivial, rfl, (callsIn_wide.2 (sample46 false Y2)).mono ?_⟩
  rintro e X3 ⟨a, rfl, hs, ha, hx⟩
  have hv3 := sm_shortF hs
  gi_wp2_with fail
  have hc3 := Short_any a X3 ha
  rw [hv3] at hc3
  refine ⟨trivial, rfl, (callsIn_wide.2 hc3).mono ?_⟩
  rintro e Y3 ⟨rfl, hy⟩
  have hxy3 := hx.trans (hy.mono hx.size)
  have hB3 := hB2.trans (hxy3.mono hB2.size)
  gi_wp2
  refine eq_mk (Keep.of_below hxy3) ?_
  show Exec _ _ _ _ _ _
  clear hxy3 hx hy hv3 hs ha hc3
  clear X3
  clear hB2
  clear Y2
  refine exec_seq (exec_region_o fun ds => ?_)
  gi_wp2_with fail
  refine ⟨trivial, rfl, (callsIn_wide.2 (sample46 false Y3)).mono ?_⟩
  rintro e X4 ⟨a, rfl, hs, ha, hx⟩
  have hv4 := sm_waiveF hs
  gi_wp2_with fail
  have hc4 := Waive_any a X4 ha
  rw [hv4] at hc4
  refine ⟨trivial, rfl, (callsIn_wide.2 hc4).mono ?_⟩
  rintro e Y4 ⟨rfl, hy⟩
  have hxy4 := hx.trans (hy.mono hx.size)
  have hB4 := hB3.trans (hxy4.mono hB3.size)
  gi_wp2
  refine eq_mk (Keep.of_below hxy4) ?_
  show Exec _ _ _ _ _ _
  clear hxy4 hx hy hv4 hs ha hc4
  clear X4
  clear hB3
  clear Y3
  refine exec_seq (exec_region_o fun ds => ?_)
  gi_wp2_with fail
  refine ⟨trivial, rfl, (callsIn_wide.2 (sample46 true Y4)).mono ?_⟩
  rintro e X5 ⟨a, rfl, hs, ha, hx⟩
  have hv5 := sm_sitT hs
  gi_wp2_with fail
  refine ⟨trivial, rfl, (callsIn_wide.2 (Sit_any a X5 ha)).mono ?_⟩
  rintro e Y5 ⟨A, c, rfl, hr, hy⟩
  rw [hv5] at hr ⊢
  have hxy5 := hx.trans (hy.mono hx.size)
  have hB5 := hB4.trans (hxy5.mono hB4.size)
  gi_wp2
  refine eq_mk (Keep.of_below hxy5) ?_
  show Exec _ _ _ _ _ _
  clear hxy5 hx hy hv5 hs ha
  clear X5
  clear hB4
  clear Y4
  refine exec_seq (exec_region_o fun ds => ?_)
  gi_wp2_with fail
  refine ⟨trivial, rfl, (callsIn_wide.2 (sample46 true Y5)).mono ?_⟩
  rintro e X6 ⟨a, rfl, hs, ha, hx⟩
  have hv6 := sm_countT hs
  gi_wp2_with fail
  have hc6 := Count_any a X6 ha
  rw [hv6] at hc6
  refine ⟨trivial, rfl, (callsIn_wide.2 hc6).mono ?_⟩
  rintro e Y6 ⟨rfl, hy⟩
  have hxy6 := hx.trans (hy.mono hx.size)
  have hB6 := hB5.trans (hxy6.mono hB5.size)
  gi_wp2
  refine eq_mk (Keep.of_below hxy6) ?_
  show Exec _ _ _ _ _ _
  clear hxy6 hx hy hv6 hs ha hc6
  clear X6
  clear hB5 hr
  clear Y5
  refine exec_seq (exec_region_o fun ds => ?_)
  gi_wp2_with fail
  refine ⟨trivial, rfl, (callsIn_wide.2 (alive14 Y6)).mono ?_⟩
  rintro e Z ⟨rfl, hz⟩
  have hB := hB6.trans (hz.mono hB6.size)
  gi_wp2
  refine eq_mk (Keep.of_below hz) ?_
  show Exec _ _ _ _ _ _
  exact exec_ret ⟨.inr rfl, fun W' hG => ⟨.bool true, by simp [results, Try.f10, go_sem], rfl, hB.trans (hG.below (Nat.le_refl _) hB.size)⟩⟩
end Go.Proofs.Ytbdmmikflkpmpaa
end

section
namespace Go.Proofs.Ytbdmmikflkpmpaa.panelNames
open Go.ChangeShapes Go.WideShapes Go.ChangeAt Go.RowKit
open Go.ChangeMaps (open_string shut_string)
set_option linter.unusedVariables false
theorem own : ownKnob Try.prog.godebug = none := by kernel_rfl
set_option maxRecDepth 100000 in
theorem lifted (os : Os) (started : os.Started) (H : Type) (enc : TypeId × Value → H) :
    ReturnsInHanded {} Try.checked os 10 .any (Rows.panelNamesSpec.pre6 enc Try.prog Try.f10 Rows.panelNamesRow.domain false) (Rows.panelNamesSpec.post enc Try.prog Try.f10 false true false false) := by
  refine returnsInHanded_of_change_sized (C := Try.checked) own started (by kernel_rfl) Try.func10
    (ChangeSpec.witness6 (enc := enc) (C := Try.checked) false ⟨#[], #[], []⟩ 8 (by kernel_rfl) (by kernel_rfl) (by kernel_rfl) (by kernel_rfl)) ?_
  intro W base args ds gs before hval0 hW hcnd hsz0 _
  have hsz : (DataW.weightsEach Try.prog (Try.f10.params.toList ++ Rows.panelNamesSpec.plain.varTypes Try.prog) (ds ++ gs)).all (· ≤ reachBytes) = true := hsz0
  have hval : ∀ (j : Nat) t v, Try.f10.params[j]? = some t → args[j]? = some v → Value.okWide Try.prog W .any base t v := hval0
  have hW' := hW
  obtain ⟨p, q, hA0, hV, rfl, hfz, hnd⟩ := hW
  have hA : DataW.TrodAll enc Try.prog W 0 (fun _ => true) true Try.f10.params.toList args.toList ds p := hA0
  rw [Try.params10] at hA hval hsz
  obtain ⟨rfl, rfl, rfl⟩ := trodAll_none hA
  obtain ⟨rfl, rfl⟩ := trodVars_none hV
  clear hA0 hval0 hsz0 hsz
  refine (names_any W).mono fun e W' ⟨he, bel⟩ => ?_
  subst he
  exact ⟨_, rfl, _, _, _, [], _, [], hW', trodAll_mk1 (shut_bool Try.underlying4 _), trodAll_mk0, rfl, bel.frame _, fun h => by cases h⟩
theorem over : Rows.panelNamesRow.holds Try.pinned (OpenSpec.ofChange Rows.panelNamesSpec) :=
  OpenClaim.holds_of_wide 10 Try.f10 rfl rfl rfl rfl rfl rfl rfl ⟨rfl, rfl, rfl, rfl, rfl⟩ rfl rfl rfl rfl rfl (by kernel_rfl) Try.func10 (by kernel_rfl)
    (of_decide_eq_true (by kernel_rfl)) (by unfold Func.isWrapper; first | (rw [if_pos (by decide +kernel)]; kernel_rfl) | (rw [if_neg (by decide +kernel)]; exact ⟨rfl, rfl⟩))
    (fun os started H enc _ => lifted os started H enc)
theorem proved : Rows.PanelNamesSaid := over
#print axioms proved
end Go.Proofs.Ytbdmmikflkpmpaa.panelNames
namespace Go.Proofs.Ytbdmmikflkpmpaa
/-- The row, under a short name, for the claim. -/
theorem panelNames_holds : Rows.PanelNamesSaid := panelNames.proved
end Go.Proofs.Ytbdmmikflkpmpaa
end
