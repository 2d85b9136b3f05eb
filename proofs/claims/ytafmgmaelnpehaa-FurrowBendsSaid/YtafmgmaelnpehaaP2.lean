/- Parts of the proof: The layer over the walk that this claim's proofs use: what code does, with a loop's marks and records out of sight. Regions in the layer: a region's operations, walked as everywhere, also within a round; regions that draw their order. Maps in the layer: a map's block read as a list of keys and values, in the order in which they came; look-ups, stores, and a range over it. Furrows in plain words: whole numbers of a span, bends, what can be reached. A deferred function whose first operation is recover, and that hands what it got to another function. Frames of which only some slots are told. Written by a program over the program's translation: functions' own Lean functions, and that the code comes to their answers. Regions that draw their order: some operations in whatever order, and behind them others that wait for all of these. Drawn regions by a schedule: a list of the operations in one  -/
import Derived.RangeFuncNested
import Derived.RangeFuncBound
import Derived.RangeFuncCalls
import Derived.RangeFuncLeaves
import Derived.RecoverIn
import Derived.Shelf.Abstract
import Derived.Deep.Draws
import Derived.OrdersHeld
import Derived.Deep.Quiet
import Derived.TacticsIn
import Derived.OwnWalkIn
import Derived.Maps.OwnIn
import Derived.Maps.RangeRun
import Derived.DeepKeys4
import Derived.Test.YtafmgmaelnpehaaProg
import Derived.WalkKit
import Derived.WalkSpells
import Derived.WalkLawsBesides
import Derived.Outline
import Derived.TacticsInMore
import Derived.LoopNIn
import Derived.LoopIn
import Derived.Shelf.RegionOpen
import Derived.Deep.QuietTactic
import Derived.BigQuiet
import Derived.Below
import Derived.Deep.AppendLies
import Derived.Maps.AppendAt
import Derived.OwnWalk
import Derived.Laws.BytesArg
import Derived.Laws.MakeOwn
import Derived.Laws.OwnMore
import Derived.Deep.OwnRows
import Derived.Tactics
import Derived.Lib.ConvBytes
import Derived.Laws.Slices
import Derived.KernelRfl
import Derived.RowKit3
import Derived.Deep.LoopGhost
import Derived.WideLaws
import Derived.Deep.DeepCutAuto
import Derived.Deep.CutBlock
import Derived.Deep.RegionHeld3
import Derived.Laws.Rows
import Derived.Lib.AppendStr
import Derived.ArgAppend
import Derived.Laws.IdiomCopy
import Derived.Laws.BitsLemmas
import Derived.RowKit
import Derived.Test.YtafmgmaelnpehaaP1
section
namespace Go.TL
open Go Go.RowKit

/-- Objects of book-keeping: a loop's record, and the block for deferred calls. -/
def book : Obj → Bool
  | .loop _ => true
  | .deferred _ => true
  | _ => false

/-- The world has grown; at or beyond B objects of book-keeping may have turned. -/
structure Grow (B : Nat) (W W' : World) : Prop where
  os : W'.os = W.os
  tape : W'.tape = W.tape
  output : W'.output = W.output
  size : W.heap.size ≤ W'.heap.size
  same : ∀ (k : Nat) (o : Obj), W.heap[k]? = some o → (k < B ∨ book o = false) → W'.heap[k]? = some o

theorem Grow.refl (B : Nat) (W : World) : Grow B W W := ⟨rfl, rfl, rfl, Nat.le_refl _, fun _ _ h _ => h⟩
theorem Grow.trans {B : Nat} {X Y Z : World} (h : Grow B X Y) (k : Grow B Y Z) : Grow B X Z :=
  ⟨k.os.trans h.os, k.tape.trans h.tape, k.output.trans h.output, Nat.le_trans h.size k.size, fun i o hi ho => k.same i o (h.same i o hi ho) ho⟩
theorem Grow.of_below {B : Nat} {W W' : World} (h : Below W.heap.size W W') : Grow B W W' :=
  ⟨h.os, h.tape, h.output, h.size, fun k _ hk _ => (h.block k (Array.getElem?_eq_some_iff.1 hk).1).trans hk⟩
theorem Grow.alloc (B : Nat) (W : World) (o : Obj) : Grow B W (W.alloc o) := Grow.of_below ((Below.refl _ W).alloc (Nat.le_refl _) o)
theorem Grow.putBook {B : Nat} {W : World} {l : Nat} {o : Obj} (o' : Obj) (hl : B ≤ l) (h : W.heap[l]? = some o) (hb : book o = true) : Grow B W (W.putObj l o') :=
  ⟨rfl, rfl, rfl, by simp, fun k p hk hp => by
    by_cases e : k = l
    · subst e
      rw [h] at hk
      cases hk
      rcases hp with hp | hp
      · omega
      · rw [hb] at hp
        cases hp
    · exact (World.putObj_heap_other e).trans hk⟩
theorem Grow.mono {B B' : Nat} {W W' : World} (h : Grow B W W') (hB : B' ≤ B) : Grow B' W W' :=
  ⟨h.os, h.tape, h.output, h.size, fun k o hk ho => h.same k o hk (ho.imp (fun x => Nat.lt_of_lt_of_le x hB) id)⟩
theorem Grow.below {B n : Nat} {W W' : World} (h : Grow B W W') (hn : n ≤ B) (hs : n ≤ W.heap.size) : Below n W W' :=
  ⟨h.os, h.tape, h.output, h.size, fun k hk => by
    have hk' : k < W.heap.size := by omega
    rw [Array.getElem?_eq_getElem hk']
    exact h.same k _ (Array.getElem?_eq_getElem hk') (.inl (by omega))⟩
theorem Grow.boxed {B b : Nat} {t : TypeId} {v : Value} {W W' : World} (h : Grow B W W') (hb : Boxed W b t v) : Boxed W' b t v := h.same b _ hb (.inr rfl)
theorem Grow.cell {B : Nat} {W W' : World} (h : Grow B W W') {a : Addr} {v : Value} (hc : W.cell? a = some v) : W'.cell? a = some v := by
  unfold World.cell? at hc ⊢
  cases ho : W.heap[a.block]? with
  | none => simp [ho] at hc
  | some o =>
    cases o with
    | cells c e f => rw [h.same _ _ ho (.inr rfl)]; rw [ho] at hc; exact hc
    | _ => simp [ho] at hc

/-- A predicate that abides growth and book-keeping from B on. -/
def Stab (B : Nat) (I : World → Prop) : Prop := ∀ W W', I W → Grow B W W' → I W'
theorem Stab.pure (B : Nat) (p : Prop) : Stab B (fun _ => p) := fun _ _ h _ => h
theorem Stab.and {B : Nat} {I J : World → Prop} (h : Stab B I) (k : Stab B J) : Stab B (fun W => I W ∧ J W) := fun W W' hi hg => ⟨h W W' hi.1 hg, k W W' hi.2 hg⟩
theorem Stab.or {B : Nat} {I J : World → Prop} (h : Stab B I) (k : Stab B J) : Stab B (fun W => I W ∨ J W) := fun W W' hi hg => hi.imp (h W W' · hg) (k W W' · hg)
theorem Stab.ex {B : Nat} {β : Sort _} {I : β → World → Prop} (h : ∀ x, Stab B (I x)) : Stab B (fun W => ∃ x, I x W) := fun W W' ⟨x, hx⟩ hg => ⟨x, h x W W' hx hg⟩
theorem Stab.all {B : Nat} {β : Sort _} {I : β → World → Prop} (h : ∀ x, Stab B (I x)) : Stab B (fun W => ∀ x, I x W) := fun W W' hi hg x => h x W W' (hi x) hg
theorem Stab.imp {B : Nat} {p : Prop} {I : World → Prop} (h : Stab B I) : Stab B (fun W => p → I W) := fun W W' hi hg hp => h W W' (hi hp) hg
theorem Stab.boxed (B b : Nat) (t : TypeId) (v : Value) : Stab B (fun W => Boxed W b t v) := fun _ _ h hg => hg.boxed h
theorem Stab.cell (B : Nat) (a : Addr) (v : Value) : Stab B (fun W => W.cell? a = some v) := fun _ _ h hg => hg.cell h
theorem Stab.below {B n : Nat} {w : World} (hn : n ≤ B) (hs : n ≤ w.heap.size) : Stab B (fun W => Below n w W) := fun _ _ h hg => h.trans (hg.below hn (Nat.le_trans hs h.size))
theorem Stab.heap {B k : Nat} {o : Obj} (ho : book o = false) : Stab B (fun W => W.heap[k]? = some o) := fun _ _ h hg => hg.same k o h (.inr ho)
theorem Stab.size {B n : Nat} : Stab B (fun W => n ≤ W.heap.size) := fun _ _ h hg => Nat.le_trans h hg.size
theorem Stab.lt {B n : Nat} : Stab B (fun W => n < W.heap.size) := fun _ _ h hg => Nat.lt_of_lt_of_le h hg.size

/-! ### The fence, and marks -/
def FW (r : Option Nat) : Fence := { Fence.wide with round := r }
/-- The activation is none of a round, or of one of a loop whose record lies there. -/
def Ctx (r : Option Nat) (w : World) : Prop := ∀ l, r = some l → ∃ c, w.heap[l]? = some (.loop c)
theorem Ctx.none (w : World) : Ctx none w := fun _ h => by cases h
/-- What is book-keeping lies as it lay. -/
structure Keep (w w' : World) : Prop where
  size : w.heap.size ≤ w'.heap.size
  same : ∀ (k : Nat) (o : Obj), w.heap[k]? = some o → book o = true → w'.heap[k]? = some o
theorem Keep.refl (w : World) : Keep w w := ⟨Nat.le_refl _, fun _ _ h _ => h⟩
theorem Keep.trans {X Y Z : World} (h : Keep X Y) (k : Keep Y Z) : Keep X Z := ⟨Nat.le_trans h.size k.size, fun i o hi ho => k.same i o (h.same i o hi ho) ho⟩
theorem Keep.of_below {W W' : World} (h : Below W.heap.size W W') : Keep W W' := ⟨h.size, fun k _ hk _ => (h.block k (Array.getElem?_eq_some_iff.1 hk).1).trans hk⟩
theorem Keep.alloc {w W : World} (h : Keep w W) (o : Obj) : Keep w (W.alloc o) := h.trans (Keep.of_below ((Below.refl _ W).alloc (Nat.le_refl _) o))
theorem Keep.setCell {w W : World} (h : Keep w W) (a : Addr) (v : Value) : Keep w (W.setCell a v) :=
  h.trans ⟨(KeepsWalks.setCell W a v).size, fun k o hk ho => by
    by_cases e : k = a.block
    · subst e
      obtain ⟨hlt, hk'⟩ := Array.getElem?_eq_some_iff.1 hk
      show (W.heap.modify a.block _)[a.block]? = some o
      rw [Array.getElem?_eq_getElem (by rw [Array.size_modify]; exact hlt), Array.getElem_modify_self, hk']
      cases o <;> first | rfl | (simp [book] at ho)
    · exact (Below.heap_setCell W a v k e).trans hk⟩
theorem Keep.drewN {w W : World} (h : Keep w W) (n : Nat) : Keep w (W.drewN n) := ⟨h.size, h.same⟩
theorem Keep.drew {w W : World} (h : Keep w W) : Keep w W.drew := ⟨h.size, h.same⟩
theorem Keep.grown {w W W' : World} {row : Option Nat} (h : Keep w W) (hg : W.grownBy W' row) (hrow : ∀ j o, row = some j → W.heap[j]? = some o → book o = false) : Keep w W' :=
  h.trans ⟨hg.size, fun k o hk ho => by
    refine (hg.block k (Array.getElem?_eq_some_iff.1 hk).1 ?_).trans hk
    intro e
    rw [hrow k o e.symm hk] at ho
    cases ho⟩
theorem Ctx.keep {r : Option Nat} {w w' : World} (h : Ctx r w) (k : Keep w w') : Ctx r w' := fun l hl => let ⟨c, hc⟩ := h l hl; ⟨c, k.same l _ hc rfl⟩

/-- Marks of loops over functions among deferred calls: each names a block from lo on, below hi, which is there; the later ones stand first. -/
def Marks (w : World) (lo : Nat) : List Deferred → Nat → Prop
  | [], _ => True
  | d :: ds, hi => ∃ D, d = { target := .collected D, args := #[] } ∧ lo ≤ D ∧ D < hi ∧ w.heap[D]? = some (.deferred (some [])) ∧ Marks w lo ds D
theorem Marks.keep {w w' : World} (k : Keep w w') {lo : Nat} : ∀ {ms : List Deferred} {hi : Nat}, Marks w lo ms hi → Marks w' lo ms hi
  | [], _, _ => trivial
  | _ :: _, _, ⟨D, e, h1, h2, h3, h4⟩ => ⟨D, e, h1, h2, k.same D _ h3 rfl, h4.keep k⟩
theorem Marks.mono {w : World} {lo lo' : Nat} (hl : lo' ≤ lo) : ∀ {ms : List Deferred} {hi hi' : Nat}, hi ≤ hi' → Marks w lo ms hi → Marks w lo' ms hi'
  | [], _, _, _, _ => trivial
  | _ :: _, _, _, hh, ⟨D, e, h1, h2, h3, h4⟩ => ⟨D, e, by omega, by omega, h3, h4.mono hl (Nat.le_refl _)⟩
theorem Marks.append {w : World} {lo mid : Nat} (hl : lo ≤ mid) : ∀ {ms : List Deferred} {hi : Nat} {ns : List Deferred}, mid ≤ hi → Marks w mid ms hi → Marks w lo ns mid → Marks w lo (ms ++ ns) hi
  | [], _, _, hh, _, h => h.mono (Nat.le_refl _) hh
  | _ :: _, _, _, _, ⟨D, e, h1, h2, h3, h4⟩, h => ⟨D, e, by omega, h2, h3, Marks.append (hi := D) hl h1 h4 h⟩

/-- What code comes to: what is book-keeping is kept; marks are laid, and no other deferred calls. -/
def EQ (w : World) (ds : List Deferred) (Q : Exit → Array Value → World → Prop) : Exit → Act → World → Prop := fun e a W =>
  Keep w W ∧ (∃ ms, a.defers = ms ++ ds ∧ Marks W w.heap.size ms W.heap.size) ∧ Q e a.tmps W

def Exec (P : Program) (r : Option Nat) (c : Code) (t : Array Value) (w : World) (Q : Exit → Array Value → World → Prop) : Prop :=
  Ctx r w → ∀ ds, c.wpIn (FW r) 0 P (EQ w ds Q) { tmps := t, defers := ds } w

section rules
variable {P : Program} {r : Option Nat} {Q : Exit → Array Value → World → Prop} {t : Array Value} {w : World}

theorem Exec.mono {c : Code} {Q' : Exit → Array Value → World → Prop} (h : Exec P r c t w Q) (hq : ∀ e t W, Q e t W → Q' e t W) : Exec P r c t w Q' :=
  fun hc ds => wpIn_mono (h hc ds) fun e _ W ⟨k, m, q⟩ => ⟨k, m, hq e _ W q⟩
/-- The continuation behind a first piece that ended normally. -/
def andThen (K : Array Value → World → Prop) (Q : Exit → Array Value → World → Prop) : Exit → Array Value → World → Prop
  | .normal, t, W => K t W
  | e, t, W => Q e t W

theorem exec_seq {x y : Code} (h : Exec P r x t w (andThen (fun t' W => Exec P r y t' W Q) Q)) : Exec P r (.seq x y) t w Q := by
  intro hc ds
  refine wpIn_seq (wpIn_mono (h hc ds) ?_)
  rintro e a W ⟨k, ⟨ms, hd, hm⟩, q⟩
  cases e with
  | normal =>
    show y.wpIn (FW r) 0 P _ a W
    have h2 := (show Exec P r y a.tmps W Q from q) (hc.keep k) (ms ++ ds)
    rw [show a = { tmps := a.tmps, defers := ms ++ ds } from by rw [← hd]]
    refine wpIn_mono h2 ?_
    rintro e b V ⟨k2, ⟨ns, hd2, hm2⟩, q2⟩
    exact ⟨k.trans k2, ⟨ns ++ ms, by rw [hd2, List.append_assoc], Marks.append (hi := V.heap.size) k.size k2.size hm2 (hm.keep k2)⟩, q2⟩
  | exit id => exact ⟨k, ⟨ms, hd, hm⟩, q⟩
  | goto l => exact ⟨k, ⟨ms, hd, hm⟩, q⟩
  | ret => exact ⟨k, ⟨ms, hd, hm⟩, q⟩
  | panic ch => exact ⟨k, ⟨ms, hd, hm⟩, q⟩
  | outgrown => exact ⟨k, ⟨ms, hd, hm⟩, q⟩

theorem eq_refl {e : Exit} {ds : List Deferred} (h : Q e t w) : EQ w ds Q e { tmps := t, defers := ds } w := ⟨Keep.refl w, ⟨[], rfl, trivial⟩, h⟩
theorem exec_skip (h : Q .normal t w) : Exec P r .skip t w Q := fun _ _ => wpIn_skip (eq_refl h)
theorem exec_label {l : Nat} (h : Q .normal t w) : Exec P r (.label l) t w Q := fun _ _ => wpIn_label (eq_refl h)
theorem exec_exit {id : Nat} (h : Q (.exit id) t w) : Exec P r (.exit id) t w Q := fun _ _ => wpIn_exit (eq_refl h)
theorem exec_ret (h : Q .ret t w) : Exec P r .ret t w Q := fun _ _ => wpIn_ret (eq_refl h)

def ev (t : Array Value) (x : Operand) : Value := ({ tmps := t, defers := [] } : Act).eval x
theorem ev_eq (t : Array Value) (ds : List Deferred) (x : Operand) : ({ tmps := t, defers := ds } : Act).eval x = ev t x := by cases x <;> rfl

theorem exec_cond {c : Operand} {x y : Code} {b : Bool} (hb : ev t c = .bool b) (h1 : b = true → Exec P r x t w Q) (h2 : b = false → Exec P r y t w Q) : Exec P r (.cond c x y) t w Q := fun hc ds =>
  wpIn_cond_split (t := b) (by rw [ev_eq]; exact hb) (fun e => h1 e hc ds) (fun e => h2 e hc ds)

/-- Behind a block: an exit by its own number is its normal end. -/
def inBlk (id : Nat) (Q : Exit → Array Value → World → Prop) : Exit → Array Value → World → Prop
  | .exit id', t, W => if id' = id then Q .normal t W else Q (.exit id') t W
  | e, t, W => Q e t W
theorem exec_block {id : Nat} {c : Code} (h : Exec P r c t w (inBlk id Q)) : Exec P r (.block id c) t w Q := by
  intro hc ds
  refine wpIn_block (wpIn_mono (h hc ds) ?_)
  rintro e _ W ⟨k, m, q⟩
  cases e with
  | exit id' =>
    simp only [inBlk] at q
    simp only [Exit.inBlock]
    split
    · rename_i h; rw [if_pos h] at q; exact ⟨k, m, q⟩
    · rename_i h; rw [if_neg h] at q; exact ⟨k, m, q⟩
  | normal => exact ⟨k, m, q⟩
  | goto l => exact ⟨k, m, q⟩
  | ret => exact ⟨k, m, q⟩
  | panic ch => exact ⟨k, m, q⟩
  | outgrown => exact ⟨k, m, q⟩

theorem least {p : Nat → Prop} (h : ∃ n, p n) : ∃ n, p n ∧ ∀ m, p m → n ≤ m := by
  obtain ⟨n, hn⟩ := h
  induction n using Nat.strongRecOn with
  | _ n ih =>
    by_cases hm : ∃ m, m < n ∧ p m
    · obtain ⟨m, h1, h2⟩ := hm
      exact ih m h1 h2
    · exact ⟨n, hn, fun m hp => Nat.le_of_not_lt fun hlt => hm ⟨m, hlt, hp⟩⟩
/-- A loop, by an invariant and a measure. -/
theorem exec_loop {c : Code} (I : Nat → Array Value → World → Prop) (n : Nat) (h0 : I n t w)
    (round : ∀ n t W, I n t W → Exec P r c t W (andThen (fun t' W' => ∃ m, m < n ∧ I m t' W') Q)) : Exec P r (.loop c) t w Q := by
  intro hc ds
  -- the measure as a function of the state: the least n at which the invariant holds
  let J : Act → World → Prop := fun a W => Keep w W ∧ (∃ ms, a.defers = ms ++ ds ∧ Marks W w.heap.size ms W.heap.size) ∧ ∃ n, I n a.tmps W
  classical
  let μ : Act → World → Nat := fun a W => if h : ∃ n, I n a.tmps W then Classical.choose (least h) else 0
  refine wpIn_loop J μ ⟨Keep.refl w, ⟨[], rfl, trivial⟩, n, h0⟩ ?_
  rintro a W ⟨k, ⟨ms, hd, hm⟩, hn⟩
  have hI := (Classical.choose_spec (least hn)).1
  have h2 := round _ _ _ hI (hc.keep k) (ms ++ ds)
  rw [show a = { tmps := a.tmps, defers := ms ++ ds } from by rw [← hd]]
  refine wpIn_mono h2 ?_
  rintro e b V ⟨k2, ⟨ns, hd2, hm2⟩, q2⟩
  have all : Keep w V ∧ ∃ ks, b.defers = ks ++ ds ∧ Marks V w.heap.size ks V.heap.size :=
    ⟨k.trans k2, ns ++ ms, by rw [hd2, List.append_assoc], Marks.append (hi := V.heap.size) k.size k2.size hm2 (hm.keep k2)⟩
  cases e with
  | normal =>
    obtain ⟨m, hlt, hm'⟩ := q2
    refine ⟨⟨all.1, all.2, m, hm'⟩, ?_⟩
    have e1 : μ b V ≤ m := by
      show (if h : ∃ n, I n b.tmps V then Classical.choose (least h) else 0) ≤ m
      rw [dif_pos ⟨m, hm'⟩]
      exact (Classical.choose_spec (least ⟨m, hm'⟩)).2 m hm'
    have e2 : μ { tmps := a.tmps, defers := ms ++ ds } W = Classical.choose (least hn) := by
      show (if h : ∃ n, I n a.tmps W then Classical.choose (least h) else 0) = _
      rw [dif_pos hn]
    omega
  | exit id => exact ⟨all.1, all.2, q2⟩
  | goto l => exact ⟨all.1, all.2, q2⟩
  | ret => exact ⟨all.1, all.2, q2⟩
  | panic ch => exact ⟨all.1, all.2, q2⟩
  | outgrown => exact ⟨all.1, all.2, q2⟩
end rules

/-! ### A range over a function -/
/-- The blocks of S hold what they held. -/
def Same (S : Nat → Prop) (W W' : World) : Prop := ∀ k, S k → W'.heap[k]? = W.heap[k]?
theorem Same.refl (S : Nat → Prop) (W : World) : Same S W W := fun _ _ => rfl
theorem Same.trans {S : Nat → Prop} {X Y Z : World} (h : Same S X Y) (k : Same S Y Z) : Same S X Z := fun i hi => (k i hi).trans (h i hi)
theorem Same.of_below {S : Nat → Prop} {n : Nat} {W W' : World} (h : Below n W W') (hS : ∀ k, S k → k < n) : Same S W W' := fun k hk => h.block k (hS k hk)

/-- THE ITERATOR: handed a yield, the function value yields L's elements, one after the other, as long as it is told to go on; it makes new blocks alone; it wants the blocks of S kept. -/
def Iter {α : Type} (P : Program) (gf : Nat) (lb : Array Value) (encs : α → Array Value) (L : List α) (S : Nat → Prop) (w : World) : Prop :=
  ∀ (l : Nat) (J : Nat → World → Prop) (Jx : World → Prop) (W : World), Same S w W →
    (∀ k X Y, J k X → Below X.heap.size X Y → J k Y) → (∀ X Y, Jx X → Below X.heap.size X Y → Jx Y) →
    (∀ (k : Nat) (hk : k < L.length) (W1 : World), J k W1 → YieldAt Fence.wide 0 P l (encs (L[k]'hk)) W1 fun e W' =>
      (e = .returned (.bool true) ∧ J (k + 1) W' ∧ Same S W1 W') ∨ (e = .returned (.bool false) ∧ Jx W')) →
    J 0 W →
    CallsIn Fence.wide 0 P gf (#[.func (.yield l) #[] #[]] ++ lb) W fun e W' => (∃ v, e = .returned v) ∧ (J L.length W' ∨ Jx W')

theorem Iter.same {α : Type} {P : Program} {gf : Nat} {lb : Array Value} {encs : α → Array Value} {L : List α} {S : Nat → Prop} {w w' : World} (h : Iter P gf lb encs L S w) (hs : Same S w w') : Iter P gf lb encs L S w' :=
  fun l J Jx W hW => h l J Jx W (hs.trans hW)

/-- What a round's body leaves behind, by the way in which it is left. -/
def bodyEnd (S : Nat → Prop) (I : World → Prop) (Ix : Code → World → Prop) (W : World) : Exit → Array Value → World → Prop
  | .normal, _, W' => Same S W W' ∧ I W'
  | .ret, _, W' => Ix .ret W'
  | .exit id, _, W' => Ix (.exit id) W'
  | _, _, _ => False

section range
variable {P : Program}

theorem keep_putBook {w W : World} {l : Nat} (o' : Obj) (h : Keep w W) (hl : w.heap.size ≤ l) : Keep w (W.putObj l o') :=
  ⟨by simp; exact h.size, fun k o hk ho => by
    have := (Array.getElem?_eq_some_iff.1 hk).1
    exact (World.putObj_heap_other (by omega)).trans (h.same k o hk ho)⟩

theorem same_putBook {S : Nat → Prop} {W : World} {l : Nat} (o' : Obj) (hS : ∀ k, S k → k < l) : Same S W (W.putObj l o') := fun k hk => World.putObj_heap_other (by have := hS k hk; omega)

/-- The rounds, whatever encloses them: rec is the loop's record, at l; D, where it is laid, the block of the rounds' deferred calls. -/
theorem range_core {α : Type} {ps : Array Tmp} {assign body : Code} {t : Array Value} {w W1 : World} {gf : Nat} {lb : Array Value} {encs : α → Array Value} {L : List α} {S : Nat → Prop}
    (hit : Iter P gf lb encs L S w) (hS : ∀ k, S k → k < w.heap.size) (hps : ∀ x, (encs x).size = ps.size)
    (I : Nat → World → Prop) (Ix : Code → World → Prop) (hI : ∀ k, Stab w.heap.size (I k)) (hIx : ∀ c, Stab w.heap.size (Ix c))
    (hround : ∀ (l k : Nat) (hk : k < L.length) (W : World), w.heap.size < W.heap.size → I k W →
      Exec P (some l) assign ((ps.zip (encs (L[k]'hk))).foldl (fun t (p, v) => t.setIfInBounds p v) t) W fun e t' W' => e = .normal ∧ Same S W W' ∧
        ∀ V, Grow w.heap.size W' V → V.heap.size = W'.heap.size → Exec P (some l) body t' V (bodyEnd S (I (k + 1)) Ix V))
    (fn l dd : Nat) (hl : w.heap.size ≤ l) (rec : LoopState → Option Code → Loop) (hrec : ∀ st pe, rec st pe = { state := st, pending := pe, fn, tmps := t, params := ps, assign, body, defers := dd })
    (B : World → Prop) (hB : ∀ X Y, B X → Keep X Y → B Y) (hB2 : ∀ X o, B X → B (X.putObj l o))
    (hk1 : Keep w W1) (hs1 : Same S w W1) (h0 : I 0 W1) (hb1 : B W1) (hl1 : W1.heap[l]? = some (.loop (rec .ready none))) :
    CallsIn Fence.wide 0 P gf (#[.func (.yield l) #[] #[]] ++ lb) W1 fun e W' => (∃ v, e = .returned v) ∧
      ((I L.length W' ∧ Keep w W' ∧ B W' ∧ W'.heap[l]? = some (.loop (rec .ready none))) ∨
       (∃ c, (c = .ret ∨ ∃ id, c = .exit id) ∧ Ix c W' ∧ Keep w W' ∧ B W' ∧ W'.heap[l]? = some (.loop (rec .done (some c))))) := by
  have below_keep : ∀ {X Y : World}, Below X.heap.size X Y → Keep X Y := Keep.of_below
  refine (hit l (fun k W => I k W ∧ Keep w W ∧ B W ∧ W.heap[l]? = some (.loop (rec .ready none)))
    (fun W => ∃ c, (c = .ret ∨ ∃ id, c = .exit id) ∧ Ix c W ∧ Keep w W ∧ B W ∧ W.heap[l]? = some (.loop (rec .done (some c)))) W1 hs1
    (fun k X Y ⟨a, b, c, d⟩ hXY => ⟨hI k X Y a (Grow.of_below hXY), b.trans (below_keep hXY), hB X Y c (below_keep hXY), (below_keep hXY).same _ _ d rfl⟩)
    (fun X Y ⟨cd, hcd, a, b, c, d⟩ hXY => ⟨cd, hcd, hIx cd X Y a (Grow.of_below hXY), b.trans (below_keep hXY), hB X Y c (below_keep hXY), (below_keep hXY).same _ _ d rfl⟩)
    ?_ ⟨h0, hk1, hb1, hl1⟩).mono (fun e W' h => h)
  rintro k hk W ⟨hi, hkW, hbW, hlW⟩
  have hltW : l < W.heap.size := (Array.getElem?_eq_some_iff.1 hlW).1
  have hy := run_yield (P := P) (args := encs (L[k]'hk)) hlW (by rw [hrec]; exact hps _)
  rw [hrec] at hy
  refine ⟨fn, _, assign, body, hy, roundIn_of_wpIn trivial ?_⟩
  refine wpIn_mono ((hround l k hk W (by omega) hi) (fun l' e => by cases e; exact ⟨_, hlW⟩) []) ?_
  rintro e a Wa ⟨hka, _, rfl, hsa, hAa⟩
  have hla := hka.same l _ hlW rfl
  have hlta : l < Wa.heap.size := (Array.getElem?_eq_some_iff.1 hla).1
  refine ⟨_, run_beginRound hla (by rw [hrec]), ?_⟩
  -- the round's own world
  obtain ⟨Wb, hWb⟩ : ∃ Wb, Wa.putObj l (.loop { rec .ready none with state := .busy }) = Wb := ⟨_, rfl⟩
  have hlb : Wb.heap[l]? = some (.loop (rec .busy none)) := by rw [← hWb, World.putObj_heap_same hlta, hrec, hrec]
  have hszb : Wb.heap.size = Wa.heap.size := by rw [← hWb]; simp
  have hAb : Grow w.heap.size Wa Wb := by rw [← hWb]; exact Grow.putBook _ hl hla rfl
  have hkb : Keep w Wb := by rw [← hWb]; exact keep_putBook _ (hkW.trans hka) hl
  have hbb : B Wb := by rw [← hWb]; exact hB2 _ _ (hB _ _ hbW hka)
  have hsb : Same S W Wb := by rw [← hWb]; exact hsa.trans (same_putBook _ fun k hk => by have := hS k hk; omega)
  rw [hWb]
  have hb := (hAa Wb hAb hszb) (fun l' e => by cases e; exact ⟨_, hlb⟩) a.defers
  refine wpIn_mono hb ?_
  rintro e2 b V ⟨hkV, _, hq⟩
  have hlV := hkV.same l _ hlb rfl
  have hltV : l < V.heap.size := (Array.getElem?_eq_some_iff.1 hlV).1
  have fin : ∀ (jump : Option Code), (Instr.endRound l jump).run P V = .ok (.bool jump.isNone) (V.putObj l (.loop (rec (if jump.isNone then .ready else .done) jump))) := fun jump => by
    have := run_endRound (P := P) jump hlV
    rw [hrec] at this ⊢
    exact this
  have at_ : ∀ o, (V.putObj l o).heap[l]? = some o := fun o => World.putObj_heap_same hltV
  have kp : ∀ o, Keep w (V.putObj l o) := fun o => keep_putBook _ (hkb.trans hkV) hl
  have bp : ∀ o, B (V.putObj l o) := fun o => hB2 _ _ (hB _ _ hbb hkV)
  cases e2 with
  | normal =>
    obtain ⟨hs, hi2⟩ := hq
    exact ⟨_, _, fin none, .inl ⟨rfl, ⟨hI _ _ _ hi2 (Grow.putBook _ hl hlV rfl), kp _, bp _, at_ _⟩, (hsb.trans hs).trans (same_putBook _ fun k hk => by have := hS k hk; omega)⟩⟩
  | ret => exact ⟨_, _, fin (some .ret), .inr ⟨rfl, .ret, .inl rfl, hIx _ _ _ hq (Grow.putBook _ hl hlV rfl), kp _, bp _, at_ _⟩⟩
  | exit id => exact ⟨_, _, fin (some (.exit id)), .inr ⟨rfl, .exit id, .inr ⟨id, rfl⟩, hIx _ _ _ hq (Grow.putBook _ hl hlV rfl), kp _, bp _, at_ _⟩⟩
  | goto l => exact hq.elim
  | panic ch => exact hq.elim
  | outgrown => exact hq.elim

theorem exec_range {α : Type} {r : Option Nat} {Q : Exit → Array Value → World → Prop} {g : Operand} {ps : Array Tmp} {assign body : Code} {t : Array Value} {w : World} {gf : Nat} {lb : Array Value} {encs : α → Array Value} {L : List α} {S : Nat → Prop}
    (hg : ev t g = .func (.func gf) #[] lb) (eg : ∀ args w, (callFunc gf args).run P w = .ok (.enter gf args) w)
    (hit : Iter P gf lb encs L S w) (hS : ∀ k, S k → k < w.heap.size) (hps : ∀ x, (encs x).size = ps.size)
    (I : Nat → World → Prop) (Ix : Code → World → Prop) (hI : ∀ k, Stab w.heap.size (I k)) (hIx : ∀ c, Stab w.heap.size (Ix c))
    (h0 : I 0 w)
    (hround : ∀ (l k : Nat) (hk : k < L.length) (W : World), w.heap.size < W.heap.size → I k W →
      Exec P (some l) assign ((ps.zip (encs (L[k]'hk))).foldl (fun t (p, v) => t.setIfInBounds p v) t) W fun e t' W' => e = .normal ∧ Same S W W' ∧
        ∀ V, Grow w.heap.size W' V → V.heap.size = W'.heap.size → Exec P (some l) body t' V (bodyEnd S (I (k + 1)) Ix V))
    (hdone : ∀ W, I L.length W → Q .normal t W) (hret : ∀ W, Ix .ret W → Q .ret t W) (hexit : ∀ id W, Ix (.exit id) W → Q (.exit id) t W) :
    Exec P r (.rangeFunc g ps assign body) t w Q := by
  intro hc ds
  refine wpIn_rangeFunc ?_
  intro fn _
  have hev : ∀ X : World, (resolve ({ tmps := t, defers := ds } : Act).eval (rangeCall g 0) 0).run P X = (resolve ({ tmps := t, defers := ds } : Act).eval (rangeCall g 0) 0).run P X := fun _ => rfl
  clear hev
  cases r with
  | none =>
    obtain ⟨rec, hrec⟩ : ∃ rec : LoopState → Option Code → Loop, ∀ st pe, rec st pe = { state := st, pending := pe, fn, tmps := t, params := ps, assign, body, defers := w.heap.size } := ⟨_, fun _ _ => rfl⟩
    obtain ⟨W1, hW1⟩ : ∃ W1, (w.alloc (.deferred (some []))).alloc (.loop (rec .ready none)) = W1 := ⟨_, rfl⟩
    have hL1 : W1.heap[w.heap.size + 1]? = some (.loop (rec .ready none)) := by
      rw [← hW1]; have := World.alloc_heap_new (w.alloc (.deferred (some []))) (.loop (rec .ready none)); rwa [World.size_alloc] at this
    have hK1 : W1.heap[w.heap.size]? = some (.deferred (some [])) := by
      rw [← hW1]; exact (Below.heap_alloc _ _ _ (by simp)).trans (World.alloc_heap_new w _)
    have hb1 : Below w.heap.size w W1 := by rw [← hW1]; exact ((Below.refl _ w).alloc (Nat.le_refl _) _).alloc (by simp) _
    refine ⟨w.heap.size + 1, [{ target := .collected w.heap.size, args := #[] }], W1, { target := .fn (.func gf) lb, args := #[.func (.yield (w.heap.size + 1)) #[] #[]] }, W1, gf,
      #[.func (.yield (w.heap.size + 1)) #[] #[]] ++ lb, W1, ?_, ?_, fun _ _ => trivial, ?_, (fun h => by cases h), ?_⟩
    · rw [← hW1, hrec]; exact run_enterLoop_outer _ _ _ _ _
    · simp only [resolve, ev_eq, hg]
      simp [go_sem]
    · simp [invoke, go_sem, eg]
    · refine (range_core hit hS hps I Ix hI hIx hround fn (w.heap.size + 1) w.heap.size (by omega) rec hrec (fun X => X.heap[w.heap.size]? = some (.deferred (some [])))
        (fun X Y h k => k.same _ _ h rfl) (fun X o h => (World.putObj_heap_other (by omega)).trans h) (Keep.of_below hb1) (Same.of_below hb1 hS) (hI 0 _ _ h0 (Grow.of_below hb1)) hK1 hL1).mono ?_
      rintro e W2 ⟨⟨v, rfl⟩, (⟨hi, hk, hd, hl⟩ | ⟨c, hc', hi, hk, hd, hl⟩)⟩
      · have hlt := (Array.getElem?_eq_some_iff.1 hl).1
        refine ⟨none, _, by have := run_endLoop (P := P) hl (by rw [hrec]; simp); rw [hrec] at this; exact this, keep_putBook _ hk (by omega), ⟨[{ target := .collected w.heap.size, args := #[] }], rfl, ⟨w.heap.size, rfl, Nat.le_refl _, by simp; omega, (World.putObj_heap_other (by omega)).trans hd, trivial⟩⟩, hdone _ (hI _ _ _ hi (Grow.putBook _ (by omega) hl rfl))⟩
      · have hlt := (Array.getElem?_eq_some_iff.1 hl).1
        refine ⟨some c, _, by have := run_endLoop (P := P) hl (by rw [hrec]; simp); rw [hrec] at this; exact this, ?_⟩
        have hx := hIx _ _ _ hi (Grow.putBook (.loop { rec .done (some c) with state := .exhausted }) (by omega) hl rfl)
        rw [hrec] at hx
        have post : ∀ e, Q e t _ → EQ w ds Q e { tmps := t, defers := [{ target := .collected w.heap.size, args := #[] }] ++ ds } _ := fun e hq =>
          ⟨keep_putBook (.loop { state := .exhausted, pending := some c, fn, tmps := t, params := ps, assign, body, defers := w.heap.size }) hk (Nat.le_succ w.heap.size), ⟨[{ target := .collected w.heap.size, args := #[] }], rfl, ⟨w.heap.size, rfl, Nat.le_refl _, by simp; omega, (World.putObj_heap_other (by omega)).trans hd, trivial⟩⟩, hq⟩
        rcases hc' with rfl | ⟨id, rfl⟩
        · exact wpIn_ret (post _ (hret _ hx))
        · exact wpIn_exit (post _ (hexit _ _ hx))
  | some l₀ =>
    obtain ⟨r₀, hr₀⟩ := hc l₀ rfl
    obtain ⟨rec, hrec⟩ : ∃ rec : LoopState → Option Code → Loop, ∀ st pe, rec st pe = { state := st, pending := pe, fn, tmps := t, params := ps, assign, body, defers := r₀.defers } := ⟨_, fun _ _ => rfl⟩
    obtain ⟨W1, hW1⟩ : ∃ W1, w.alloc (.loop (rec .ready none)) = W1 := ⟨_, rfl⟩
    have hL1 : W1.heap[w.heap.size]? = some (.loop (rec .ready none)) := by rw [← hW1]; exact World.alloc_heap_new w _
    have hb1 : Below w.heap.size w W1 := by rw [← hW1]; exact (Below.refl _ w).alloc (Nat.le_refl _) _
    refine ⟨w.heap.size, [], W1, { target := .fn (.func gf) lb, args := #[.func (.yield w.heap.size) #[] #[]] }, W1, gf,
      #[.func (.yield w.heap.size) #[] #[]] ++ lb, W1, ?_, ?_, fun _ _ => trivial, ?_, (fun h => by cases h), ?_⟩
    · rw [← hW1, hrec]; exact run_enterLoop_inner hr₀ _ _ _ _ _
    · simp only [resolve, ev_eq, hg]
      simp [go_sem]
    · simp [invoke, go_sem, eg]
    · refine CallsIn.mono (F := Fence.wide.inRound l₀) (CallsIn.inRound l₀ (range_core hit hS hps I Ix hI hIx hround fn w.heap.size r₀.defers (Nat.le_refl _) rec hrec (fun _ => True)
        (fun _ _ _ _ => trivial) (fun _ _ _ => trivial) (Keep.of_below hb1) (Same.of_below hb1 hS) (hI 0 _ _ h0 (Grow.of_below hb1)) trivial hL1)) ?_
      rintro e W2 ⟨⟨v, rfl⟩, (⟨hi, hk, _, hl⟩ | ⟨c, hc', hi, hk, _, hl⟩)⟩
      · exact ⟨none, _, by have := run_endLoop (P := P) hl (by rw [hrec]; simp); rw [hrec] at this; exact this, keep_putBook _ hk (Nat.le_refl _), ⟨[], rfl, trivial⟩, hdone _ (hI _ _ _ hi (Grow.putBook _ (Nat.le_refl _) hl rfl))⟩
      · refine ⟨some c, _, by have := run_endLoop (P := P) hl (by rw [hrec]; simp); rw [hrec] at this; exact this, ?_⟩
        have hx := hIx _ _ _ hi (Grow.putBook (.loop { rec .done (some c) with state := .exhausted }) (Nat.le_refl _) hl rfl)
        rw [hrec] at hx
        have post : ∀ e, Q e t _ → EQ w ds Q e { tmps := t, defers := [] ++ ds } _ := fun e hq =>
          ⟨keep_putBook (.loop { state := .exhausted, pending := some c, fn, tmps := t, params := ps, assign, body, defers := r₀.defers }) hk (Nat.le_refl _), ⟨[], rfl, trivial⟩, hq⟩
        rcases hc' with rfl | ⟨id, rfl⟩
        · exact wpIn_ret (post _ (hret _ hx))
        · exact wpIn_exit (post _ (hexit _ _ hx))
end range

/-! ### A function's contract -/
section fns
variable {P : Program}

theorem leaves_marks {fn : Func} {t : Array Value} {R : Ending → World → Prop} {u : FrameMode} (hu : u ≠ .run) {lo : Nat} {ds : List Deferred} : ∀ {ms : List Deferred} {hi : Nat} {W : World}, Marks W lo ms hi →
    (∀ W', Grow lo W W' → W'.heap.size = W.heap.size → LeavesInM Fence.wide 0 P fn t R ds u W') → LeavesInM Fence.wide 0 P fn t R (ms ++ ds) u W
  | [], _, W, _, h => h W (Grow.refl _ _) rfl
  | _ :: ms, _, W, ⟨D, e, h1, h2, h3, h4⟩, h => by
    subst e
    refine ⟨hu, .inl ⟨D, _, rfl, run_takeDeferred h3, ?_⟩⟩
    have hg : Grow lo W (W.putObj D (.deferred none)) := Grow.putBook _ h1 h3 rfl
    have hm : Marks (W.putObj D (.deferred none)) lo ms D := by
      have go : ∀ {ns : List Deferred} {k : Nat}, k ≤ D → Marks W lo ns k → Marks (W.putObj D (.deferred none)) lo ns k := by
        intro ns
        induction ns with
        | nil => exact fun _ _ => trivial
        | cons n ns ih => exact fun hk ⟨E, e, a, b, c, d⟩ => ⟨E, e, a, b, (World.putObj_heap_other (by omega)).trans c, ih (by omega) d⟩
      exact go (Nat.le_refl _) h4
    exact leaves_marks hu hm fun W' g hs => h W' (hg.trans g) (by simp at hs; exact hs)

theorem leaves_nil {fn : Func} {t : Array Value} {R : Ending → World → Prop} {W : World} (h : ∃ v, (results fn t).run P W = .ok v W ∧ R (.returned v) W) : LeavesInM Fence.wide 0 P fn t R [] .returning W := h

/-- A function that defers nothing. -/
theorem calls_of_exec {f : FuncId} {fn : Func} {c : Code} {args : Array Value} {w : World} {R : Ending → World → Prop} (hf : P.funcs[f]? = some fn) (hb : fn.body = some c)
    (h : Exec P none c (args ++ Array.replicate (fn.ntmps - args.size) undef) w fun e t W =>
      ((e = .normal ∨ e = .ret) ∧ ∀ W', Grow w.heap.size W W' → ∃ v, (results fn t).run P W' = .ok v W' ∧ R (.returned v) W')) : Calls P f args w R := by
  refine (callsIn_wide (n := 0)).1 (callsIn_of_wp_marks hf hb trivial ?_)
  refine wpIn_mono (h (Ctx.none w) []) ?_
  rintro e a W ⟨hk, ⟨ms, hd, hm⟩, he, hq⟩
  have := leaves_marks (P := P) (fn := fn) (t := a.tmps) (R := R) (u := .returning) (by simp) (ds := []) hm fun W' hg _ => leaves_nil (hq W' hg)
  rcases he with rfl | rfl <;> (show LeavesInM _ _ _ _ _ _ a.defers _ _; rw [hd]; exact this)

/-- A deferred function that catches the package's own panic (an error in a struct of type T), and stores the error into a box. -/
structure Catches (P : Program) (G : FuncId) (cargs : Nat → Array Value) (T : TypeId) : Prop where
  calm : ∀ (b : Nat) (W : World), b < W.heap.size → CallsDIn Fence.wide 0 P G (cargs b) .returning W fun e u W' => (∃ v, e = .returned v) ∧ u = .returning ∧ Below W.heap.size W W'
  caught : ∀ (b : Nat) (t : TypeId) (x code : Int) (W : World), Boxed W b t (.int .i64 x) →
    CallsDIn Fence.wide 0 P G (cargs b) (.panicking [{ v := .iface T (.agg #[.int .i64 code]), recovered := false }]) W fun e u W' =>
      (∃ v, e = .returned v) ∧ u = .panicking [{ v := .iface T (.agg #[.int .i64 code]), recovered := true }] ∧ ∃ W1, Below W.heap.size W W1 ∧ W' = W1.setCell ⟨b, 0, none⟩ (.int .i64 code)

/-- What a guarded body comes to. -/
def guardEnd (fn : Func) (T : TypeId) (b lo : Nat) (R : Ending → World → Prop) (P : Program) : Exit → Array Value → World → Prop := fun e t W =>
  ((e = .normal ∨ e = .ret) ∧ b < W.heap.size ∧ ∀ W', Grow lo W W' → ∃ v, (results fn t).run P W' = .ok v W' ∧ R (.returned v) W') ∨
  (∃ code ty x, e = .panic [{ v := .iface T (.agg #[.int .i64 code]), recovered := false }] ∧ Boxed W b ty (.int .i64 x) ∧
    ∀ W' W'', Grow lo W W' → W'' = W'.setCell ⟨b, 0, none⟩ (.int .i64 code) → ∃ v, (results fn t).run P W'' = .ok v W'' ∧ R (.returned v) W'')

/-- Behind the deferral: the rest of a guarded function's body. -/
theorem guard_rest {fn : Func} {R : Ending → World → Prop} {rest : Code} {t : Array Value} {w : World} {G : FuncId} {cargs : Nat → Array Value} {T : TypeId} {b lo : Nat} {d : Deferred} (hG : Catches P G cargs T)
    (hd1 : ∃ fv cap, d.target = .fn fv cap) (hinv : ∀ W, (invoke d.target d.args).run P W = .ok (.enter G (cargs b)) W) (hlo : lo ≤ w.heap.size)
    (h : Exec P none rest t w (guardEnd fn T b lo R P)) :
    rest.wpIn Fence.wide 0 P (bodyPostM Fence.wide 0 P fn R) { tmps := t, defers := [d] } w := by
  refine wpIn_mono (h (Ctx.none w) [d]) ?_
  rintro e a W ⟨hk, ⟨ms, hd, hm⟩, hq⟩
  have hm' : Marks W lo ms W.heap.size := hm.mono hlo (Nat.le_refl _)
  obtain ⟨fv, cap, htar⟩ := hd1
  rcases hq with ⟨he, hb, hq⟩ | ⟨code, ty, x, rfl, hbox, hq⟩
  · have := leaves_marks (P := P) (fn := fn) (t := a.tmps) (R := R) (u := .returning) (by simp) (ds := [d]) hm' fun W' hg hs => by
      refine ⟨by simp, .inr ⟨(fun h => by cases h), fv, cap, G, cargs b, htar, hinv W', fun _ _ => trivial, ?_⟩⟩
      refine (hG.calm b W' (by omega)).mono ?_
      rintro e' u W'' ⟨⟨v, rfl⟩, rfl, hb2⟩
      exact leaves_nil (hq W'' (hg.trans (Grow.of_below hb2)))
    rcases he with rfl | rfl <;> (show LeavesInM _ _ _ _ _ _ a.defers _ _; rw [hd]; exact this)
  · show LeavesInM _ _ _ _ _ _ a.defers _ _
    rw [hd]
    refine leaves_marks (P := P) (by simp) (ds := [d]) hm' fun W' hg hs => ?_
    refine ⟨by simp, .inr ⟨(fun h => by cases h), fv, cap, G, cargs b, htar, hinv W', fun _ _ => trivial, ?_⟩⟩
    refine (hG.caught b ty x code W' (hg.boxed hbox)).mono ?_
    rintro e' u W'' ⟨⟨v, rfl⟩, rfl, W1, hb2, rfl⟩
    exact leaves_nil (hq W1 _ (hg.trans (Grow.of_below hb2)) rfl)
end fns
/-! ### Small words -/
def updObj (a : Addr) (v : Value) : Obj → Obj
  | .cells c e f => .cells (if a.spot.isSome then c else c.setIfInBounds a.off v) e f
  | o => o
theorem heap_set_at (w : World) (a : Addr) (v : Value) (k : Nat) : (w.setCell a v).heap[k]? = if k = a.block then (w.heap[k]?).map (updObj a v) else w.heap[k]? := by
  show (w.heap.modify a.block _)[k]? = _
  rw [Array.getElem?_modify]
  by_cases h : a.block = k
  · subst h
    simp only [if_true]
    cases w.heap[a.block]? with
    | none => rfl
    | some o => cases o <;> rfl
  · rw [if_neg h, if_neg (fun e => h e.symm)]
theorem heap_alloc_at (w : World) (o : Obj) (k : Nat) : (w.alloc o).heap[k]? = if k = w.heap.size then some o else w.heap[k]? := by
  show (w.heap.push o)[k]? = _
  rw [Array.getElem?_push]
section
variable {P : Program} {t : Array Value} {Q : Exit → Array Value → World → Prop} {c : Code}
theorem exec_world {r : Option Nat} {W : World} (F : World → Prop) (hF : F W) (h : ∀ W', F W' → Exec P r c t W' Q) : Exec P r c t W Q := h W hF
theorem exec_region_r {l : Nat} {w : World} (h : ∀ ds, c.wpIn (Fence.wide.inRound l) 0 P (EQ w ds Q) { tmps := t, defers := ds } w) : Exec P (some l) c t w Q := fun _ ds => h ds
theorem exec_region_o {w : World} (h : ∀ ds, c.wpIn Fence.wide 0 P (EQ w ds Q) { tmps := t, defers := ds } w) : Exec P none c t w Q := fun _ ds => h ds
/-- Behind a piece that makes no marks of its own. -/
theorem eq_mk {w : World} {ds : List Deferred} {e : Exit} {W : World} (hk : Keep w W) (h : Q e t W) : EQ w ds Q e { tmps := t, defers := ds } W := ⟨hk, ⟨[], rfl, trivial⟩, h⟩
/-- A piece of code, by what it is to come to. -/
theorem exec_cut {r : Option Nat} {x y : Code} {w : World} (M : Array Value → World → Prop) (h1 : Exec P r x t w (andThen M Q)) (h2 : ∀ t' W, M t' W → Exec P r y t' W Q) : Exec P r (.seq x y) t w Q :=
  exec_seq (h1.mono fun e t' W h => by cases e <;> first | exact h2 t' W h | exact h)
end
theorem foldl_take {α β : Type} (f : β → α → β) (s : β) (l : List α) (k : Nat) (h : k < l.length) : (l.take (k + 1)).foldl f s = f ((l.take k).foldl f s) (l[k]'h) := by
  rw [List.take_succ_eq_append_getElem h, List.foldl_append]; rfl
/-- A box of a struct of two whole numbers. -/
def Box2 (W : World) (B : Nat) (t : TypeId) (a b : Int) : Prop := W.heap[B]? = some (.cells #[.int .i64 a, .int .i64 b] t (0, 0))
theorem Box2.cell0 {W : World} {B : Nat} {t : TypeId} {a b : Int} (h : Box2 W B t a b) : W.cell? ⟨B, 0, none⟩ = some (.int .i64 a) := by simp [World.cell?, show W.heap[B]? = _ from h]
theorem Box2.cell1 {W : World} {B : Nat} {t : TypeId} {a b : Int} (h : Box2 W B t a b) : W.cell? ⟨B, 1, none⟩ = some (.int .i64 b) := by simp [World.cell?, show W.heap[B]? = _ from h]
theorem Box2.new (W : World) (t : TypeId) (a b : Int) : Box2 (W.alloc (.cells #[.int .i64 a, .int .i64 b] t)) W.heap.size t a b := World.alloc_heap_new W _
theorem Box2.frozen {W : World} {B : Nat} {t : TypeId} {a b : Int} (h : Box2 W B t a b) (o : Nat) : W.frozen? ⟨B, o, none⟩ = false := by simp [World.frozen?, show W.heap[B]? = _ from h]
theorem Box2.lt {W : World} {B : Nat} {t : TypeId} {a b : Int} (h : Box2 W B t a b) : B < W.heap.size := (Array.getElem?_eq_some_iff.1 h).1
theorem Grow.box2 {B b : Nat} {t : TypeId} {x y : Int} {W W' : World} (h : Grow B W W') (hb : Box2 W b t x y) : Box2 W' b t x y := h.same b _ hb (.inr rfl)
theorem Stab.box2 (B b : Nat) (t : TypeId) (x y : Int) : Stab B (fun W => Box2 W b t x y) := fun _ _ h hg => hg.box2 h
end Go.TL
end

section
set_option linter.unusedVariables false
set_option linter.unusedSimpArgs false
namespace Go.TL
open Go Go.RowKit

def isDefer : Op → Bool
  | .defer _ => true
  | _ => false

section
variable {P : Program} {ops : Array Oper} {Q : Exit → Act → World → Prop} {r : Option Nat}

theorem callsIn_any {n : Nat} {f : FuncId} {args : Array Value} {w : World} {R : Ending → World → Prop} (h : Calls P f args w R) : CallsIn (FW r) n P f args w R := by
  cases r with
  | none => exact callsIn_wide.2 h
  | some l => exact CallsIn.inRound l (callsIn_wide.2 h)

theorem rowsIn_any {n : Nat} {row : String} {args : Array Value} {w : World} {R : Value → World → Prop} (h : Rows P row args w R) : RowsIn (FW r) n P row args w R := fun c cs _ =>
  let ⟨v, w', hr, hs⟩ := h c cs
  ⟨v, w', hr, by cases r <;> exact stepsIn_wide.2 hs⟩

theorem upon_in {o : Oper} {a : Act} {next next' : Act → World → Prop} (hn : ∀ a w, next a w → next' a w) (hQ : ∀ a w, ¬ Q .outgrown a w) {res : Result Next} (h : o.upon P a next Q res) : o.uponIn (FW r) 0 P a next' Q res := by
  have hd : ∀ {p : Prop}, ((FW r).depth.isSome = true → p) := fun {p} h => by cases r <;> cases h
  cases res with
  | ok x w =>
    cases x with
    | value v => exact hn _ _ h
    | skip => exact hn _ _ h
    | defer d => exact hn _ _ h
    | enter f args =>
      refine ⟨hd, callsIn_any (Calls.mono h ?_)⟩
      rintro e w' he
      cases e with
      | returned v => exact hn _ _ he
      | panicked c => exact he
      | outgrown => exact absurd he (fun ⟨a, w, hq⟩ => hQ a w hq)
    | row row args => exact ⟨hd, (rowsIn_any (P := P) (r := r) h).mono fun v w' hv => hn _ _ hv⟩
    | _ => exact False.elim h
  | halt x w =>
    cases x with
    | panic v => exact h
    | _ => exact False.elim h

theorem ops_in (hnd : ops.all (fun o => !isDefer o.op) = true) (hQ : ∀ a w, ¬ Q .outgrown a w) : ∀ (l : List Nat) (a : Act) (w : World), wpOps P ops Q l a w → wpOpsIn (FW r) 0 P ops Q l a w
  | [], _, _, h => h
  | i :: rest, a, w, h => by
    simp only [wpOps] at h
    simp only [wpOpsIn]
    cases ho : ops[i]? with
    | none => simp only [ho] at h ⊢; exact ops_in hnd hQ rest a w h
    | some o =>
      simp only [ho] at h ⊢
      have hfn : ∀ f, (FW r).fn f := fun f => by cases r <;> exact trivial
      by_cases hw : Region.wanted o (yielded ops a.tmps) = true
      · simp only [hw, if_true] at h ⊢
        rcases h with h | ⟨_, a₀, w₀, hq⟩
        · refine ⟨fun f _ => hfn f, ?_⟩
          have hop : ∀ c, o.op ≠ .defer c := fun c e => by
            obtain ⟨hi, he⟩ := Array.getElem?_eq_some_iff.1 ho
            have := Array.all_eq_true.1 hnd i hi
            rw [he, e] at this
            simp [isDefer] at this
          rw [Oper.semAt_plain (FW r) _ _ hop]
          exact upon_in (fun a w => ops_in hnd hQ rest a w) hQ h
        · exact absurd hq (hQ a₀ w₀)
      · simp only [hw, if_false, Bool.false_eq_true] at h ⊢
        exact ⟨fun f _ => hfn f, ops_in hnd hQ rest _ _ h⟩
end

section
variable {P : Program} {r : Option Nat} {Q : Exit → Array Value → World → Prop} {t : Array Value} {w : World} {ops : Array Oper} {id : Nat}

theorem region_of_quiet (hm : P.follows .mixedOrders = true) (hnd : ops.all (fun o => !isDefer o.op) = true) (hB : Region.lexB .any ops = true) (C : World → Prop) (hC : C w.drew)
    (h : ∀ ds, wpQuiet P ops C (fun a' => a'.defers = ds ∧ ∀ W', C W' → Keep w W' ∧ Q .normal a'.tmps W') ops.toList { tmps := t, defers := ds }) : Exec P r (.region id ops true) t w Q := by
  intro hc ds
  refine wpIn_mono (Q := EQ w ds fun e t' W' => e = .normal ∧ Q .normal t' W') ?_ (by rintro e a W ⟨k, m, rfl, q⟩; exact ⟨k, m, q⟩)
  refine wpIn_region_draw fun tt => ?_
  simp only [Region.schedule, hm, Bool.true_or, if_true]
  refine ops_in hnd (fun a W ⟨_, _, e, _⟩ => by cases e) _ _ _ (wpAny_sound ops.size tt _ _ _ ?_)
  simp only [Region.lexB, Bool.and_eq_true] at hB
  refine wpAny_of_quiet (Q := fun a' => a'.defers = ds ∧ ∀ W', C W' → Keep w W' ∧ Q .normal a'.tmps W') (fun a' W' hW' hq => ⟨(hq.2 W' hW').1, ⟨[], hq.1, trivial⟩, rfl, (hq.2 W' hW').2⟩) _ _ _ _ hC ?_
  have := wpAnyQ_lex (C := C) (md := .any) hB.1 ops.toList 0 (Array.replicate ops.size false) { tmps := t, defers := ds } (by simp) (by simpa using hB.2) (h ds)
  simpa using this

end

/-! ### A scope that nothing jumps within -/
section
variable {P : Program} {r : Option Nat} {Q : Exit → Array Value → World → Prop} {t : Array Value} {w : World}
def noJump (Q : Exit → Array Value → World → Prop) : Exit → Array Value → World → Prop
  | .goto _, _, _ => False
  | e, t, W => Q e t W
theorem exec_scope {c : Code} (h : Exec P r c t w (noJump Q)) : Exec P r (.scope c) t w Q := by
  intro hc ds b k cs hro hb hr
  have s1 : step P (lone (b.atR { tmps := t, defers := ds } (.code (.scope c) :: k)) cs w) = .next (lone (b.atR { tmps := t, defers := ds } (.code c :: .inScope c :: k)) cs w) := step_lone_go (by simp [stepG, stepG.exec, Frame.atR])
  have h0 : (lone (b.atR { tmps := t, defers := ds } (.code (.scope c) :: k)) cs w).fenced P (FW r) := fenced_calm hb hr rfl
  obtain ⟨e, a₁, w₁, ⟨hk, hm, hq⟩, harr⟩ := h hc ds b (.inScope c :: k) cs hro hb hr
  have s2 : ∀ a w, step P (lone (b.atR a (.inScope c :: k)) cs w) = .next (lone (b.atR a k) cs w) := fun a w => step_lone_go (by simp [stepG, stepG.exec, Frame.atR])
  have hx : ∀ id, exitTo id (.inScope c :: k) = exitTo id k := fun id => by simp [exitTo]
  cases e with
  | normal => exact ⟨.normal, a₁, w₁, ⟨hk, hm, hq⟩, .head h0 s1 (StepsIn.trans harr (.one (fenced_calm hb hr rfl) (s2 _ _)))⟩
  | exit id => exact ⟨.exit id, a₁, w₁, ⟨hk, hm, hq⟩, fun k' hk' => .head h0 s1 (harr.1 k' (by rw [hx]; exact hk')), fun hr' hk' => let ⟨k₁, h1, h2⟩ := harr.2 hr' (by rw [hx]; exact hk'); ⟨k₁, h1, .head h0 s1 h2⟩⟩
  | goto l => exact hq.elim
  | ret => exact ⟨_, a₁, w₁, ⟨hk, hm, hq⟩, .of_steps (.one h0 s1) harr⟩
  | panic ch => exact ⟨_, a₁, w₁, ⟨hk, hm, hq⟩, .of_steps (.one h0 s1) harr⟩
  | outgrown => exact ⟨_, a₁, w₁, ⟨hk, hm, hq⟩, .of_steps (.one h0 s1) harr⟩
end
end Go.TL
end

section
set_option linter.unusedVariables false
set_option linter.unusedSimpArgs false
namespace Go.TL
open Go Go.RowKit
open Go.ChangeMaps (setBlock heap_setBlock_same heap_setBlock_other modify_eq_set)

structure KeyEnc (P : Program) (k : TypeId) {κ : Type} (enc : κ → Value) (ok : κ → Prop) : Prop where
  keyed : Maps.Keyed P k
  lit : ∀ x, ok x → ∃ l, keyOf P k (enc x) = some l
  inj : ∀ x y, enc x = enc y → x = y

section
variable {κ : Type}

/-- The entries es hold the keys and values l. -/
structure EntR (enc : κ → Value) (ok : κ → Prop) (es : Array MapEntry) (clock : Nat) (l : List (κ × Value)) : Prop where
  map : es.toList.map (fun e => (e.key, e.val)) = l.map (fun p => (enc p.1, p.2))
  nodup : (l.map (·.1)).Nodup
  ok : ∀ p ∈ l, ok p.1
  born : (es.toList.map (·.born)).Nodup
  old : ∀ e ∈ es.toList, e.born < clock

def MapR (enc : κ → Value) (ok : κ → Prop) (W : World) (b : Nat) (l : List (κ × Value)) : Prop :=
  ∃ es clock, W.heap[b]? = some (.map es clock) ∧ EntR enc ok es clock l

/-- What is held at a key. -/
def at? [DecidableEq κ] (l : List (κ × Value)) (x : κ) : Option Value := (l.find? fun p => decide (p.1 = x)).map (·.2)
def put [DecidableEq κ] (l : List (κ × Value)) (x : κ) (v : Value) : List (κ × Value) := if x ∈ l.map (·.1) then l.map fun p => if p.1 = x then (x, v) else p else l ++ [(x, v)]

theorem MapR.new (enc : κ → Value) (ok : κ → Prop) (W : World) : MapR enc ok (W.alloc (.map #[] 0)) W.heap.size [] :=
  ⟨#[], 0, World.alloc_heap_new W _, ⟨rfl, List.nodup_nil, by simp, by simp, by simp⟩⟩

theorem MapR.lt {enc : κ → Value} {ok : κ → Prop} {W : World} {b : Nat} {l : List (κ × Value)} (h : MapR enc ok W b l) : b < W.heap.size := by
  obtain ⟨es, c, h, _⟩ := h
  exact (Array.getElem?_eq_some_iff.1 h).1
theorem MapR.kept {enc : κ → Value} {ok : κ → Prop} {W W' : World} {b : Nat} {l : List (κ × Value)} (h : MapR enc ok W b l) (hb : W'.heap[b]? = W.heap[b]?) : MapR enc ok W' b l := by
  obtain ⟨es, c, h, k⟩ := h
  exact ⟨es, c, hb.trans h, k⟩
theorem MapR.grow {B : Nat} {enc : κ → Value} {ok : κ → Prop} {W W' : World} {b : Nat} {l : List (κ × Value)} (h : MapR enc ok W b l) (hg : Grow B W W') : MapR enc ok W' b l := by
  obtain ⟨es, c, h, k⟩ := h
  exact ⟨es, c, hg.same _ _ h (.inr rfl), k⟩
theorem entR_at {enc : κ → Value} {ok : κ → Prop} {es : Array MapEntry} {clock : Nat} {l : List (κ × Value)} (h : EntR enc ok es clock l) (j : Nat) : (es.toList[j]?).map (fun e => (e.key, e.val)) = (l[j]?).map (fun p => (enc p.1, p.2)) := by
  have := congrArg (fun m => m[j]?) h.map
  simpa using this

theorem entR_find {P : Program} {k : TypeId} {enc : κ → Value} {ok : κ → Prop} (E : KeyEnc P k enc ok) {es : Array MapEntry} {clock : Nat} {l : List (κ × Value)} (h : EntR enc ok es clock l) (w : World) {x : κ} (hx : ok x) :
    ((Instr.findKey k (enc x) es.toList).run P w = .ok none w ∧ x ∉ l.map (·.1)) ∨
    ∃ j v e, (Instr.findKey k (enc x) es.toList).run P w = .ok (some (j, v)) w ∧ l[j]? = some (x, v) ∧ es.toList[j]? = some e ∧ e.key = enc x ∧ e.val = v := by
  obtain ⟨lx, hlx⟩ := E.lit x hx
  have hk : ∀ e ∈ es.toList, ∃ l', keyOf P k e.key = some l' := by
    intro e he
    have hm : (e.key, e.val) ∈ es.toList.map (fun e => (e.key, e.val)) := List.mem_map.2 ⟨e, he, rfl⟩
    rw [h.map] at hm
    obtain ⟨p, hp, hpe⟩ := List.mem_map.1 hm
    obtain ⟨l', hl'⟩ := E.lit p.1 (h.ok p hp)
    exact ⟨l', by rw [show e.key = enc p.1 from (congrArg Prod.fst hpe).symm]; exact hl'⟩
  rcases E.keyed.find w hlx es.toList hk with ⟨h1, h2⟩ | ⟨j, e, h1, h2, h3⟩
  · refine .inl ⟨h1, fun hm => ?_⟩
    obtain ⟨p, hp, rfl⟩ := List.mem_map.1 hm
    have hm : (enc p.1, p.2) ∈ l.map (fun p => (enc p.1, p.2)) := List.mem_map.2 ⟨p, hp, rfl⟩
    rw [← h.map] at hm
    obtain ⟨e, he, hpe⟩ := List.mem_map.1 hm
    exact h2 e he (congrArg Prod.fst hpe)
  · have ha := entR_at h j
    rw [h2] at ha
    cases hl : l[j]? with
    | none => rw [hl] at ha; simp at ha
    | some p =>
      rw [hl] at ha
      simp at ha
      have hpx : p.1 = x := E.inj _ _ (by rw [← ha.1, h3])
      refine .inr ⟨j, e.val, e, h1, ?_, h2, h3, rfl⟩
      rw [ha.2, ← hpx]; exact hl

theorem at_none [DecidableEq κ] {l : List (κ × Value)} {x : κ} (h : x ∉ l.map (·.1)) : at? l x = none := by
  unfold at?
  rw [List.find?_eq_none.2]
  · rfl
  · intro p hp he
    exact h (List.mem_map.2 ⟨p, hp, by simpa using he⟩)
theorem at_some [DecidableEq κ] {l : List (κ × Value)} (hn : (l.map (·.1)).Nodup) {x : κ} {v : Value} {j : Nat} (h : l[j]? = some (x, v)) : at? l x = some v := by
  have hm : (x, v) ∈ l := List.mem_of_getElem? h
  unfold at?
  cases hf : l.find? (fun p => decide (p.1 = x)) with
  | none =>
    have := List.find?_eq_none.1 hf _ hm
    simp at this
  | some q =>
    have hq := List.find?_some hf
    have hqm := List.mem_of_find?_eq_some hf
    simp at hq
    have : q = (x, v) := by
      clear hf h
      induction l with
      | nil => simp at hm
      | cons a r ih =>
        simp only [List.map_cons, List.nodup_cons] at hn
        rcases List.mem_cons.1 hm with rfl | hm'
        · rcases List.mem_cons.1 hqm with h' | h'
          · exact h'
          · exact absurd (List.mem_map.2 ⟨q, h', hq⟩) hn.1
        · rcases List.mem_cons.1 hqm with h' | h'
          · subst h'
            exact absurd (List.mem_map.2 ⟨(x, v), hm', hq.symm⟩) hn.1
          · exact ih hn.2 hm' h'
    rw [this]
    rfl

variable {P : Program} {k t e : TypeId} {enc : κ → Value} {ok : κ → Prop} {W : World} {b : Nat} {l : List (κ × Value)}

theorem MapR.lookup [DecidableEq κ] (h : MapR enc ok W b l) (E : KeyEnc P k enc ok) (ht : P.underlying t = some (.map k e)) {z : Value} (hz : (zeroValue e).run P W = .ok z W) {x : κ} (hx : ok x) (c : Bool) :
    (Instr.lookup t (.map (some b)) (enc x) c).run P W = .ok (if c then .tuple #[(at? l x).getD z, .bool (at? l x).isSome] else (at? l x).getD z) W := by
  obtain ⟨es, clock, hb, R⟩ := h
  obtain ⟨lx, hlx⟩ := E.lit x hx
  rcases entR_find E R W hx with ⟨h1, h2⟩ | ⟨j, v, e0, h1, h2, h3, h4, h5⟩
  · rw [at_none h2]
    cases c <;> simp [Instr.lookup, run_underlying ht, MapKept.run_getObj_map hb, E.keyed.check W _ hlx, h1, hz, Result.andThen]
  · rw [at_some R.nodup h2]
    cases c <;> simp [Instr.lookup, run_underlying ht, MapKept.run_getObj_map hb, E.keyed.check W _ hlx, h1, Result.andThen]

theorem put_new [DecidableEq κ] {x : κ} {v : Value} (h : x ∉ l.map (·.1)) : put l x v = l ++ [(x, v)] := if_neg h
theorem put_old [DecidableEq κ] {x : κ} {v : Value} (h : x ∈ l.map (·.1)) : put l x v = l.map fun p => if p.1 = x then (x, v) else p := if_pos h

theorem MapR.update [DecidableEq κ] (h : MapR enc ok W b l) (E : KeyEnc P k enc ok) (ht : P.underlying t = some (.map k e)) {x : κ} (hx : ok x) (v : Value) :
    ∃ W', (Instr.mapUpdate t (.map (some b)) (enc x) v).run P W = .ok () W' ∧ MapR enc ok W' b (put l x v) ∧ W.grownBy W' (some b) := by
  obtain ⟨es, clock, hb, R⟩ := h
  obtain ⟨lx, hlx⟩ := E.lit x hx
  have gr : ∀ o, W.grownBy (setBlock W b o) (some b) := fun o => ⟨rfl, rfl, rfl, by simp [setBlock], fun i _ hi => heap_setBlock_other hb _ (fun e => hi (by rw [e]))⟩
  rcases entR_find E R W hx with ⟨h1, h2⟩ | ⟨j, v0, e0, h1, h2, h3, h4, h5⟩
  · refine ⟨setBlock W b (.map (es.push ⟨enc x, v, clock⟩) (clock + 1)), ?_, ⟨_, _, heap_setBlock_same hb _, ?_⟩, gr _⟩
    · simp [Instr.mapUpdate, run_underlying ht, MapKept.run_getObj_map hb, E.keyed.check W false hlx, h1, MapKept.run_setObj_map _ hb, Result.andThen, setBlock]
    · rw [put_new h2]
      refine ⟨by simp [R.map], ?_, ?_, ?_, ?_⟩
      · rw [List.map_append, List.nodup_append]
        refine ⟨R.nodup, by simp, fun a ha y hy e => ?_⟩
        simp at hy
        subst hy
        subst e
        exact h2 ha
      · intro p hp
        rcases List.mem_append.1 hp with hp | hp
        · exact R.ok p hp
        · simp at hp; subst hp; exact hx
      · rw [Array.toList_push, List.map_append, List.nodup_append]
        refine ⟨R.born, by simp, fun a ha y hy e => ?_⟩
        simp at hy
        subst hy
        subst e
        obtain ⟨e1, he1, hc⟩ := List.mem_map.1 ha
        have := R.old e1 he1
        omega
      · intro e1 he1
        rw [Array.toList_push] at he1
        rcases List.mem_append.1 he1 with he1 | he1
        · have := R.old e1 he1; omega
        · simp at he1; subst he1; simp
  · have hm : x ∈ l.map (·.1) := List.mem_map.2 ⟨_, List.mem_of_getElem? h2, rfl⟩
    have hj : es[j]? = some e0 := by simpa using h3
    refine ⟨setBlock W b (.map (es.modify j fun e' => { e' with key := enc x, val := v }) clock), ?_, ⟨_, _, heap_setBlock_same hb _, ?_⟩, gr _⟩
    · simp [Instr.mapUpdate, run_underlying ht, MapKept.run_getObj_map hb, E.keyed.check W false hlx, h1, hj, h4, E.keyed.stays W hlx, MapKept.run_setObj_map _ hb, Result.andThen, setBlock]
    · rw [put_old hm]
      have hlist : (es.modify j (fun e' => { e' with key := enc x, val := v })).toList = es.toList.set j { e0 with key := enc x, val := v } := by rw [Array.toList_modify, modify_eq_set _ _ _ _ h3]
      have hset : (l.map fun p => if p.1 = x then (x, v) else p) = l.set j (x, v) := by
        refine List.ext_getElem? fun i => ?_
        rw [List.getElem?_map, List.getElem?_set]
        by_cases hi : j = i
        · subst hi
          rw [h2]
          have hlt := (List.getElem?_eq_some_iff.1 h2).1
          simp [hlt]
        · rw [if_neg hi]
          cases hl : l[i]? with
          | none => rfl
          | some p =>
            simp only [Option.map_some]
            rw [if_neg]
            intro he
            -- two places of one key
            have n := List.pairwise_iff_getElem.1 (show (l.map (·.1)).Pairwise (· ≠ ·) from R.nodup)
            obtain ⟨hjl, hje⟩ := List.getElem?_eq_some_iff.1 h2
            obtain ⟨hil, hie⟩ := List.getElem?_eq_some_iff.1 hl
            rcases Nat.lt_trichotomy i j with hlt | heq | hlt
            · exact n i j (by simpa using hil) (by simpa using hjl) hlt (by simp [hie, hje, he])
            · exact hi heq.symm
            · exact n j i (by simpa using hjl) (by simpa using hil) hlt (by simp [hie, hje, he])
      rw [hset]
      have hjl := (List.getElem?_eq_some_iff.1 h3).1
      refine ⟨?_, ?_, ?_, ?_, ?_⟩
      · rw [hlist, List.map_set, R.map, List.map_set]
      · rw [List.map_set]
        have : (l.map (·.1)).set j x = l.map (·.1) := by
          refine List.ext_getElem? fun i => ?_
          rw [List.getElem?_set]
          by_cases hi : j = i
          · subst hi; rw [if_pos rfl, List.getElem?_map, h2]; simp [(List.getElem?_eq_some_iff.1 h2).1]
          · rw [if_neg hi]
        rw [this]; exact R.nodup
      · intro p hp
        rcases List.mem_or_eq_of_mem_set hp with hp | rfl
        · exact R.ok p hp
        · exact hx
      · rw [hlist, List.map_set]
        have : (es.toList.map (·.born)).set j e0.born = es.toList.map (·.born) := by
          refine List.ext_getElem? fun i => ?_
          rw [List.getElem?_set]
          by_cases hi : j = i
          · subst hi; rw [if_pos rfl, List.getElem?_map, h3]; simpa using hjl
          · rw [if_neg hi]
        simp only [this]
        exact R.born
      · intro e1 he1
        rw [hlist] at he1
        rcases List.mem_or_eq_of_mem_set he1 with he1 | rfl
        · exact R.old e1 he1
        · exact R.old e0 (List.mem_of_getElem? h3)

theorem heap_setBlock_any (w : World) (r k : Nat) (o : Obj) (h : k ≠ r) : (setBlock w r o).heap[k]? = w.heap[k]? := by
  simp [setBlock, Array.getElem?_setIfInBounds_ne (Ne.symm h)]

/-! ### A range over it -/
/-- The iterator at it goes over the map at b; rem: what is still to come. -/
def IterR (enc : κ → Value) (W : World) (it b : Nat) (rem : List (κ × Value)) : Prop :=
  ∃ es clock since seen c0, W.heap[b]? = some (.map es clock) ∧ W.heap[it]? = some (.mapIter (some b) since seen c0) ∧ (∀ x ∈ es.toList, x.born < since) ∧ since ≤ c0 ∧ since ≤ clock ∧ (es.toList.map (·.born)).Nodup ∧
    (leftOf es seen).toList.map (fun e => (e.key, e.val)) = rem.map (fun p => (enc p.1, p.2))

theorem IterR.kept {W' : World} {it : Nat} {rem : List (κ × Value)} (h : IterR enc W it b rem) (h1 : W'.heap[b]? = W.heap[b]?) (h2 : W'.heap[it]? = W.heap[it]?) : IterR enc W' it b rem := by
  obtain ⟨es, clock, since, seen, c0, a, b, c⟩ := h
  exact ⟨es, clock, since, seen, c0, h1.trans a, h2.trans b, c⟩
theorem IterR.grow {B : Nat} {W' : World} {it : Nat} {rem : List (κ × Value)} (h : IterR enc W it b rem) (hg : Grow B W W') : IterR enc W' it b rem := by
  obtain ⟨es, clock, since, seen, c0, a, b, c⟩ := h
  exact ⟨es, clock, since, seen, c0, hg.same _ _ a (.inr rfl), hg.same _ _ b (.inr rfl), c⟩
theorem MapR.range (h : MapR enc ok W b l) (ht : P.underlying t = some (.map k e)) : ∃ since, (Instr.range t (.map (some b))).run P W = .ok (.pointer (some ⟨W.heap.size, 0, none⟩)) (W.alloc (.mapIter (some b) since #[] since)) ∧
    IterR enc (W.alloc (.mapIter (some b) since #[] since)) W.heap.size b l := by
  obtain ⟨es, clock, hb, R⟩ := h
  have hlt := (Array.getElem?_eq_some_iff.1 hb).1
  refine ⟨clock, ?_, es, clock, clock, #[], clock, (Below.heap_alloc _ _ _ hlt).trans hb, World.alloc_heap_new _ _, R.old, Nat.le_refl _, Nat.le_refl _, R.born, ?_⟩
  · simp [Instr.range, run_underlying ht, MapKept.run_getObj_map hb, Result.andThen, run_newObj_alloc]
  · rw [← R.map]
    congr 1
    unfold leftOf
    simp

theorem IterR.next {it : Nat} {rem : List (κ × Value)} (h : IterR enc W it b rem) (ty : TypeId) (hne : it ≠ b) :
    (rem = [] ∧ (Instr.next (.pointer (some ⟨it, 0, none⟩)) false ty).run P W = .ok (.tuple #[.bool false]) W) ∨
    ∃ p pre post W', rem = pre ++ p :: post ∧ (Instr.next (.pointer (some ⟨it, 0, none⟩)) false ty).run P W = .ok (.tuple #[.bool true, enc p.1, p.2]) W' ∧ IterR enc W' it b (pre ++ post) ∧ W.grownBy W' (some it) ∧
      (Instr.entry (.pointer (some ⟨it, 0, none⟩))).run P W' = .ok (.tuple #[enc p.1, p.2]) W' := by
  obtain ⟨es, clock, since, seen, c0, hb, hr, hold, hsc, hsk, hn, hmap⟩ := h
  rcases run_next_at W ty it b since c0 seen es clock hr hb hold hsc with ⟨h0, hrun⟩ | ⟨e0, he0, w1, hw1, hrun⟩
  · left
    have : (leftOf es seen).toList = [] := by simpa using h0
    rw [this] at hmap
    exact ⟨by simpa using hmap.symm, hrun⟩
  · right
    obtain ⟨p1, p2, hsp⟩ := List.append_of_mem he0
    rw [hsp] at hmap
    simp only [List.map_append, List.map_cons] at hmap
    obtain ⟨r1, r2, hrem, hm1, hm2⟩ := List.map_eq_append_iff.1 hmap.symm
    cases r2 with
    | nil => simp at hm2
    | cons p r2 =>
      simp only [List.map_cons, List.cons.injEq, Prod.mk.injEq] at hm2
      obtain ⟨⟨hk, hv⟩, hm2⟩ := hm2
      have hmem : e0 ∈ es.toList := by
        have := he0
        unfold leftOf at this
        simp at this ⊢
        exact this.1
      have hlt := (Array.getElem?_eq_some_iff.1 hr).1
      have e1 : ∀ k : Nat, w1.heap[k]? = W.heap[k]? := fun k => by rcases hw1 with rfl | rfl <;> rfl
      have hit : (setBlock w1 it (.mapIter (some b) since (seen.push e0.born) clock)).heap[it]? = some (.mapIter (some b) since (seen.push e0.born) clock) := by
        have h9 : it < w1.heap.size := (Array.getElem?_eq_some_iff.1 ((e1 it).trans hr)).1
        simp [setBlock, h9]
      have hoth : ∀ k, k ≠ it → (setBlock w1 it (.mapIter (some b) since (seen.push e0.born) clock)).heap[k]? = W.heap[k]? := fun k hk => (heap_setBlock_any w1 it k _ hk).trans (e1 k)
      have hbb : (setBlock w1 it (.mapIter (some b) since (seen.push e0.born) clock)).heap[b]? = some (.map es clock) := (hoth b (Ne.symm hne)).trans hb
      refine ⟨p, r1, r2, setBlock w1 it (.mapIter (some b) since (seen.push e0.born) clock), hrem, by rw [hrun, hk, hv], ⟨es, clock, since, seen.push e0.born, clock, hbb, hit, hold, hsk, hsk, hn, ?_⟩, ?_, ?_⟩
      · have hL : (leftOf es (seen.push e0.born)).toList = (leftOf es seen).toList.filter (fun x => !(x.born == e0.born)) := by
          unfold leftOf
          simp [List.filter_filter]
          refine List.filter_congr fun x _ => ?_
          simp [Bool.and_comm, Bool.not_or]
          rfl
        rw [hL, hsp]
        have hnL : ((leftOf es seen).toList.map (·.born)).Nodup := by
          unfold leftOf
          simp only [Array.toList_filter]
          exact hn.sublist (List.filter_sublist.map _)
        rw [hsp] at hnL
        simp only [List.map_append, List.map_cons] at hnL
        rw [List.nodup_append] at hnL
        obtain ⟨_, n2, n3⟩ := hnL
        rw [List.nodup_cons] at n2
        have f1 : p1.filter (fun x => !(x.born == e0.born)) = p1 := List.filter_eq_self.2 fun x hx => by
          have := n3 x.born (List.mem_map.2 ⟨x, hx, rfl⟩) e0.born (by simp)
          simpa using this
        have f2 : p2.filter (fun x => !(x.born == e0.born)) = p2 := List.filter_eq_self.2 fun x hx => by
          have : x.born ≠ e0.born := fun e => n2.1 (List.mem_map.2 ⟨x, hx, e⟩)
          simpa using this
        rw [List.filter_append, List.filter_cons, f1, f2]
        simp only [beq_self_eq_true, Bool.not_true, Bool.false_eq_true, if_false, List.map_append]
        rw [← hm1, ← hm2]
      · refine ⟨?_, ?_, ?_, ?_, fun i _ hi => hoth i (fun e => hi (by rw [e]))⟩
        · rcases hw1 with rfl | rfl <;> rfl
        · rcases hw1 with rfl | rfl <;> rfl
        · rcases hw1 with rfl | rfl <;> rfl
        · rcases hw1 with rfl | rfl <;> simp [setBlock]
      · rw [hk, hv]
        exact run_entry_at _ it b since seen es clock e0 hit hbb hmem hn
end

/-! ### The operations, for the walk -/
section
variable {κ : Type} {F : Fence} {n : Nat} {P : Program} {ops : Array Oper} {rest : List Oper} {o : Oper} {a : Act} {Q : Exit → Act → World → Prop}
variable {k t e : TypeId} {enc : κ → Value} {ok : κ → Prop} {W : World} {b : Nat} {l : List (κ × Value)}

theorem walk_mapUpdate [DecidableEq κ] (hg : o.guard = none) {m x v : Operand} (hop : o.op = Op.mapUpdate t m x v) (hm : a.eval m = .map (some b)) (h : MapR enc ok W b l) (E : KeyEnc P k enc ok) (ht : P.underlying t = some (.map k e)) {y : κ} (hy : ok y) (hx : a.eval x = enc y) {u : Value} (hv : a.eval v = u)
    (hK : ∀ W', MapR enc ok W' b (put l y u) → W.grownBy W' (some b) → wpListIn F n P ops Q rest (a.put o.dst undef) W') : wpListIn F n P ops Q (o :: rest) a W := by
  refine wpListIn_plain hg fun K' hK' => ?_
  obtain ⟨w', hrun, r1, r2⟩ := h.update E ht hy u
  unfold Oper.wpIn
  refine ⟨by simp [Oper.about, hop], ?_⟩
  rw [Oper.semAt_plain F _ _ (by rw [hop]; intro c hc'; cases hc')]
  simp [execOp, hop, hm, hx, hv, hrun, Result.andThen]
  exact hK' _ _ (hK w' r1 r2)

theorem walk_range (hg : o.guard = none) {m : Operand} (hop : o.op = Op.range t m) (hm : a.eval m = .map (some b)) (h : MapR enc ok W b l) (ht : P.underlying t = some (.map k e))
    (hK : ∀ since, IterR enc (W.alloc (.mapIter (some b) since #[] since)) W.heap.size b l → wpListIn F n P ops Q rest (a.put o.dst (.pointer (some ⟨W.heap.size, 0, none⟩))) (W.alloc (.mapIter (some b) since #[] since))) : wpListIn F n P ops Q (o :: rest) a W := by
  refine wpListIn_plain hg fun K' hK' => ?_
  obtain ⟨since, hrun, r1⟩ := h.range (P := P) ht
  unfold Oper.wpIn
  refine ⟨by simp [Oper.about, hop], ?_⟩
  rw [Oper.semAt_plain F _ _ (by rw [hop]; intro c hc'; cases hc')]
  simp [execOp, hop, hm, hrun, Result.andThen]
  exact hK' _ _ (hK since r1)

theorem walk_next (hg : o.guard = none) {m : Operand} (hop : o.op = Op.next m false) {it : Nat} (hm : a.eval m = .pointer (some ⟨it, 0, none⟩)) (h : IterR enc W it b l) (hne : it ≠ b)
    (h0 : l = [] → wpListIn F n P ops Q rest (a.put o.dst (.tuple #[.bool false])) W)
    (h1 : ∀ p pre post W', l = pre ++ p :: post → IterR enc W' it b (pre ++ post) → W.grownBy W' (some it) → (Instr.entry (.pointer (some ⟨it, 0, none⟩))).run P W' = .ok (.tuple #[enc p.1, p.2]) W' →
      wpListIn F n P ops Q rest (a.put o.dst (.tuple #[.bool true, enc p.1, p.2])) W') : wpListIn F n P ops Q (o :: rest) a W := by
  refine wpListIn_plain hg fun K' hK' => ?_
  unfold Oper.wpIn
  refine ⟨by simp [Oper.about, hop], ?_⟩
  rw [Oper.semAt_plain F _ _ (by rw [hop]; intro c hc'; cases hc')]
  rcases h.next (P := P) o.type hne with ⟨hl, hrun⟩ | ⟨p, pre, post, W', hl, hrun, hi, hg', he⟩
  · simp [execOp, hop, hm, hrun, Result.andThen]
    exact hK' _ _ (h0 hl)
  · simp [execOp, hop, hm, hrun, Result.andThen]
    exact hK' _ _ (h1 p pre post W' hl hi hg' he)

theorem MapR.len (h : MapR enc ok W b l) (ht : P.underlying t = some (.map k e)) (ty : TypeId) : (Builtin.len_ #[t] ty #[.map (some b)]).run P W = .ok (.int .i64 l.length) W := by
  obtain ⟨es, clock, hb, R⟩ := h
  have e1 : es.size = l.length := by have := congrArg List.length R.map; simpa using this
  simp [Builtin.len_, run_underlying ht, MapKept.run_getObj_map hb, goInt, Result.andThen, e1]

theorem walk_len (hg : o.guard = none) {m : Operand} (hop : o.op = Op.call { callee := Callee.builtin Builtin.len, args := #[m], argTypes := #[t] }) (hm : a.eval m = .map (some b)) (h : MapR enc ok W b l) (ht : P.underlying t = some (.map k e))
    (hK : wpListIn F n P ops Q rest (a.put o.dst (.int .i64 l.length)) W) : wpListIn F n P ops Q (o :: rest) a W := by
  refine wpListIn_plain hg fun K' hK' => ?_
  unfold Oper.wpIn
  refine ⟨?_, ?_⟩
  · simp [Oper.about, hop, resolve, Target.leads, Sem.run_pure]
  · rw [Oper.semAt_plain F _ _ (by rw [hop]; intro c hc'; cases hc')]
    simp [execOp, hop, resolve, invoke, builtin, hm, h.len ht o.type, Result.andThen]
    exact hK' _ _ hK
end
end Go.TL
end

section
set_option linter.unusedVariables false
set_option linter.unusedSimpArgs false
namespace Go.Fu
/-- The whole numbers from lo on, n of them. -/
def ints (lo : Int) (n : Nat) : List Int := (List.range n).map fun (k : Nat) => lo + (k : Int)
theorem ints_len (lo : Int) (n : Nat) : (ints lo n).length = n := by simp [ints]
theorem ints_get (lo : Int) (n k : Nat) (h : k < (ints lo n).length) : (ints lo n)[k]'h = lo + (k : Int) := by simp [ints]
def bendI (a b c : Int) : Int := if 0 ≤ 2 * b - a - c then 2 * b - a - c else -(2 * b - a - c)
theorem bendI_bd (a b c : Int) (ha : -1000 ≤ a ∧ a ≤ 1000) (hb : -1000 ≤ b ∧ b ≤ 1000) (hc : -1000 ≤ c ∧ c ≤ 1000) : 0 ≤ bendI a b c ∧ bendI a b c ≤ 4000 := by unfold bendI; split <;> omega
/-- A span as a list. -/
def spanL (s : Int × Int) : List Int := ints s.1 (s.2 + 1 - s.1).toNat
def okSpan (s : Int × Int) : Prop := -1000 ≤ s.1 ∧ s.1 ≤ s.2 ∧ s.2 ≤ 1000
theorem spanL_get (s : Int × Int) (h : okSpan s) (k : Nat) (hk : k < (spanL s).length) : -1000 ≤ (spanL s)[k]'hk ∧ (spanL s)[k]'hk ≤ 1000 := by
  obtain ⟨h1, h2, h3⟩ := h
  unfold spanL at *
  rw [ints_get]
  rw [ints_len] at hk
  omega
theorem mem_spanL (s : Int × Int) (x : Int) : x ∈ spanL s ↔ s.1 ≤ x ∧ x ≤ s.2 := by
  unfold spanL ints
  rw [List.mem_map]
  constructor
  · rintro ⟨k, hk, rfl⟩
    rw [List.mem_range] at hk
    omega
  · rintro ⟨h1, h2⟩
    exact ⟨(x - s.1).toNat, by rw [List.mem_range]; omega, by omega⟩
def step1 (st : Bool × Int × Int) (n : Int) : Bool × Int × Int := (true, if st.1 then (if n < st.2.1 then n else st.2.1, if st.2.2 < n then n else st.2.2) else (n, n))
def stC (a b : Int) (C : List Int) (st : Bool × Int × Int) : Bool × Int × Int := C.foldl (fun st c => step1 st (bendI a b c)) st
def stB (a : Int) (B C : List Int) (st : Bool × Int × Int) : Bool × Int × Int := B.foldl (fun st b => stC a b C st) st
def stA (A B C : List Int) (st : Bool × Int × Int) : Bool × Int × Int := A.foldl (fun st a => stB a B C st) st
/-- The bends at a station: least and greatest. -/
def atF (l : List (Int × Int)) (s : Nat) : Int × Int := (stA (spanL (l.getD (s - 1) (0, 0))) (spanL (l.getD s (0, 0))) (spanL (l.getD (s + 1) (0, 0))) (false, 0, 0)).2

/-- Which pairs of offsets, of the stations n - 1 and n, can be reached. -/
def Reach (l : List (Int × Int)) (p : Int → Int → Bool) : Nat → Int × Int → Prop
  | 0, _ => False
  | 1, x => x.1 ∈ spanL (l.getD 0 (0, 0)) ∧ x.2 ∈ spanL (l.getD 1 (0, 0))
  | n + 2, x => x.2 ∈ spanL (l.getD (n + 2) (0, 0)) ∧ ∃ a, Reach l p (n + 1) (a, x.1) ∧ p ((n : Int) + 1) (bendI a x.1 x.2) = true
def canP (l : List (Int × Int)) (p : Int → Int → Bool) : Prop := l.length < 3 ∨ ∃ x, Reach l p (l.length - 1) x
open Classical in
noncomputable def canB (l : List (Int × Int)) (p : Int → Int → Bool) : Bool := decide (canP l p)

/-- A set's list, with an element more. -/
def ins {κ : Type} [DecidableEq κ] (ks : List κ) (x : κ) : List κ := if x ∈ ks then ks else ks ++ [x]
theorem mem_ins {κ : Type} [DecidableEq κ] (ks : List κ) (x y : κ) : y ∈ ins ks x ↔ y ∈ ks ∨ y = x := by
  unfold ins
  split
  · rename_i h
    constructor
    · exact .inl
    · rintro (h' | rfl)
      · exact h'
      · exact h
  · simp
end Go.Fu
end

section
set_option linter.unusedVariables false
set_option linter.unusedSimpArgs false
namespace Go.TL
open Go Go.RowKit
section
variable {F : Fence} {n : Nat} {P : Program} {Q : Exit → Act → List Frame → World → Prop} {a : Act} {cs : List Frame} {w : World}
theorem wpSIn_recover_first {id m : Nat} {ops : Array Oper} {o : Oper} (hF1 : F.round = none) (ho : ops[0]? = some o) (hsz : ops.size = m + 1) (hg : o.guard = none) (habout : ∀ f, o.about P w a.eval = some f → F.fn f)
    (hr : (execOp a.eval o).run P w = .ok .recover w) {v : Value} {cs' : List Frame} (hrec : recoverD cs = some (v, cs') ∨ (recoverD cs = none ∧ v = .nilIface ∧ cs' = cs))
    (h : wpOpsIn F n P ops (fun e a' w' => Q e a' cs' w') (List.range' 1 m) (a.put o.dst v) w) : (Code.region id ops false).wpSIn F n P Q a cs w := by
  intro b k hb hro hF hroom
  have hlen : cs'.length = cs.length := by
    rcases hrec with h | ⟨_, _, rfl⟩
    · exact recoverD_length h
    · rfl
  have hrange : List.range ops.size = 0 :: List.range' 1 m := by
    rw [hsz, List.range_eq_range', List.range'_succ]
  have h0 : (lone (b.atR a (.inRegion ops (0 :: List.range' 1 m) :: k)) cs w).fenced P F := fenced_oper hF hroom ho habout
  have hw : Region.wanted o (yielded ops a.tmps) = true := by simp [Region.wanted, hg]
  have hgs := stepGR_op (P := P) (b := b) (k := k) (cs := cs) (w := w) (rest := List.range' 1 m) ho hw
  rw [hro, Oper.semAt_none] at hgs
  have hfin : ∀ v, (b.atR a (.inRegion ops (0 :: List.range' 1 m) :: k)).finish v = b.atR (a.put o.dst v) (.inRegion ops (List.range' 1 m) :: k) := by
    intro v; rw [Frame.finish_atR, ho]; rfl
  have hk : (b.atR a (.inRegion ops (0 :: List.range' 1 m) :: k)).kind = .deferred := hb
  have htr := tryRecover_deferred hk cs
  obtain ⟨e, a', w', hq, harr⟩ := wp_opsIn _ _ _ h b k cs' (hro.trans hF1.symm) hF (hlen ▸ hroom)
  refine ⟨e, a', cs', w', hlen, hq, .of_steps (.one (fenced_calm hF hroom rfl) stepR_region) ?_⟩
  rw [hrange]
  refine .of_steps (.one h0 (step_lone_go ?_)) harr
  rw [hgs, ← hfin]
  simp only [Frame.atR, hro] at htr ⊢
  rcases hrec with hrec | ⟨hrec, rfl, rfl⟩
  · simp [stepG.apply, hr, htr, hrec]
  · simp [stepG.apply, hr, htr, hrec]
/-- The last operation is a call. -/
theorem opsIn_call {P : Program} {ops : Array Oper} {Q : Exit → Act → World → Prop} {a : Act} {w : World} {i : Nat} {o : Oper} {f : FuncId} {args : Array Value} (ho : ops[i]? = some o) (hg : o.guard = none) (hop : ∀ c, o.op ≠ .defer c)
    (he : (execOp a.eval o).run P w = .ok (.enter f args) w) (hc : Calls P f args w fun e w' => ∃ v, e = .returned v ∧ Q .normal (a.put o.dst v) w') : wpOpsIn Fence.wide 0 P ops Q [i] a w := by
  simp only [wpOpsIn, ho, show Region.wanted o (yielded ops a.tmps) = true from by simp [Region.wanted, hg], if_true]
  refine ⟨fun _ _ => trivial, ?_⟩
  rw [Oper.semAt_plain Fence.wide _ _ hop, he]
  refine ⟨fun h => (by cases h), (callsIn_wide.2 hc).mono ?_⟩
  rintro e w' ⟨v, rfl, h⟩
  exact h
end
end Go.TL
end

section
set_option linter.unusedVariables false
set_option linter.unusedSimpArgs false
namespace Go.Proofs.Ytafmgmaelnpehaa
open Go.RowKit Go.TL Go.Shelf Go.Fu
set_option maxHeartbeats 400000 in
theorem need_yes (e : Int) (w : World) : Calls Try.prog 87 #[.bool true, .int .i64 e] w fun r w' => r = .returned (.tuple #[]) ∧ w = w' := by
  go_enter Try.func87, Try.ntmps87
  go_wp2
  go_end0
  exact ⟨rfl, rfl⟩
set_option maxHeartbeats 400000 in
theorem need_no (e : Int) (w : World) : Calls Try.prog 87 #[.bool false, .int .i64 e] w fun r w' => r = .panicked [{ v := .iface 132 (.agg #[.int .i64 e]), recovered := false }] ∧ w = w' := by
  go_enter Try.func87, Try.ntmps87
  go_wp2
  exact ⟨rfl, rfl, rfl⟩
set_option maxRecDepth 100000 in
theorem caught_nil (b : Nat) (w : World) : Calls Try.prog 46 #[.nilIface, .pointer (some ⟨b, 0, none⟩)] w fun r w' => r = .returned (.tuple #[]) ∧ Below w.heap.size w w' := by
  refine calls_of_exec Try.func46 rfl ?_
  simp only [Try.ntmps46, List.size_toArray, List.length_cons, List.length_nil, Nat.reduceAdd, Nat.reduceSub, Array.replicate_succ, Array.replicate_zero, List.push_toArray, List.append_toArray, List.nil_append, List.cons_append]
  refine exec_seq (exec_seq (exec_region_o fun ds => ?_))
  gi_wp2
  refine eq_mk (Keep.refl _) ?_
  refine exec_cond (b := true) rfl (fun _ => ?_) (fun h => by cases h)
  refine exec_ret ⟨.inr rfl, fun W' hG => ⟨.tuple #[], by simp [results, Try.f46, go_sem], rfl, hG.below (Nat.le_refl _) (Nat.le_refl _)⟩⟩
theorem assert132 (v : Value) (w : World) : (Instr.typeAssert (.iface 132 v) 20 132 true).run Try.prog w = .ok (.tuple #[v, .bool true]) w := by
  simp [Instr.typeAssert, run_underlying Try.underlying132]
set_option maxRecDepth 100000 in
theorem caught_some (b : Nat) (t : TypeId) (code x : Int) (w : World) (h : Boxed w b t (.int .i64 x)) : Calls Try.prog 46 #[.iface 132 (.agg #[.int .i64 code]), .pointer (some ⟨b, 0, none⟩)] w fun r w' => r = .returned (.tuple #[]) ∧ ∃ W1, Below w.heap.size w W1 ∧ w' = W1.setCell ⟨b, 0, none⟩ (.int .i64 code) := by
  have h1 := h.cell
  have h2 := h.frozen
  have h4 := (Grow.alloc 0 w (.cells #[.int .i64 code] 132)).boxed h
  have h5 := h4.cell
  have h6 := h4.frozen
  have hA := assert132 (.agg #[.int .i64 code]) w
  go_enter Try.func46, Try.ntmps46
  go_wp2
  exact bodyPost_end (results_none rfl _ _ _) rfl ⟨rfl, _, (Below.refl _ w).alloc (Nat.le_refl _) _, rfl⟩

theorem catches45 : Catches Try.prog 45 (fun b => #[.pointer (some ⟨b, 0, none⟩)]) 132 where
  calm b W hb := by
    refine callsDIn_of_wpSIn Try.func45 rfl trivial fun c₀ cs hu => ?_
    refine wpSIn_recover_first rfl rfl rfl rfl (fun _ _ => trivial) rfl (v := .nilIface) (cs' := c₀ :: cs) (.inr ⟨by simp [recoverD, hu], rfl, rfl⟩) ?_
    refine opsIn_call (f := 46) (args := #[.nilIface, .pointer (some ⟨b, 0, none⟩)]) rfl rfl (fun _ h => by cases h) (by simp [go_sem, Try.ntmps45]) ((caught_nil b W).mono ?_)
    rintro e w' ⟨rfl, h⟩
    exact ⟨_, rfl, rfl, .returning, by rw [← hu], _, results_none rfl _ _ _, ⟨_, rfl⟩, rfl, h⟩
  caught b t x code W h := by
    refine callsDIn_of_wpSIn Try.func45 rfl trivial fun c₀ cs hu => ?_
    refine wpSIn_recover_first rfl rfl rfl rfl (fun _ _ => trivial) rfl (v := .iface 132 (.agg #[.int .i64 code])) (cs' := { c₀ with mode := .panicking [{ v := .iface 132 (.agg #[.int .i64 code]), recovered := true }] } :: cs) (.inl (by simp [recoverD, hu])) ?_
    refine opsIn_call (f := 46) (args := #[.iface 132 (.agg #[.int .i64 code]), .pointer (some ⟨b, 0, none⟩)]) rfl rfl (fun _ h => by cases h) (by simp [go_sem, Try.ntmps45]) ((caught_some b t code x W h).mono ?_)
    rintro e w' ⟨rfl, h⟩
    exact ⟨_, rfl, rfl, _, rfl, _, results_none rfl _ _ _, ⟨_, rfl⟩, rfl, h⟩
theorem catches52 : Catches Try.prog 52 (fun b => #[.pointer (some ⟨b, 0, none⟩)]) 132 where
  calm b W hb := by
    refine callsDIn_of_wpSIn Try.func52 rfl trivial fun c₀ cs hu => ?_
    refine wpSIn_recover_first rfl rfl rfl rfl (fun _ _ => trivial) rfl (v := .nilIface) (cs' := c₀ :: cs) (.inr ⟨by simp [recoverD, hu], rfl, rfl⟩) ?_
    refine opsIn_call (f := 46) (args := #[.nilIface, .pointer (some ⟨b, 0, none⟩)]) rfl rfl (fun _ h => by cases h) (by simp [go_sem, Try.ntmps52]) ((caught_nil b W).mono ?_)
    rintro e w' ⟨rfl, h⟩
    exact ⟨_, rfl, rfl, .returning, by rw [← hu], _, results_none rfl _ _ _, ⟨_, rfl⟩, rfl, h⟩
  caught b t x code W h := by
    refine callsDIn_of_wpSIn Try.func52 rfl trivial fun c₀ cs hu => ?_
    refine wpSIn_recover_first rfl rfl rfl rfl (fun _ _ => trivial) rfl (v := .iface 132 (.agg #[.int .i64 code])) (cs' := { c₀ with mode := .panicking [{ v := .iface 132 (.agg #[.int .i64 code]), recovered := true }] } :: cs) (.inl (by simp [recoverD, hu])) ?_
    refine opsIn_call (f := 46) (args := #[.iface 132 (.agg #[.int .i64 code]), .pointer (some ⟨b, 0, none⟩)]) rfl rfl (fun _ h => by cases h) (by simp [go_sem, Try.ntmps52]) ((caught_some b t code x W h).mono ?_)
    rintro e w' ⟨rfl, h⟩
    exact ⟨_, rfl, rfl, _, rfl, _, results_none rfl _ _ _, ⟨_, rfl⟩, rfl, h⟩
theorem catches56 : Catches Try.prog 56 (fun b => #[.pointer (some ⟨b, 0, none⟩)]) 132 where
  calm b W hb := by
    refine callsDIn_of_wpSIn Try.func56 rfl trivial fun c₀ cs hu => ?_
    refine wpSIn_recover_first rfl rfl rfl rfl (fun _ _ => trivial) rfl (v := .nilIface) (cs' := c₀ :: cs) (.inr ⟨by simp [recoverD, hu], rfl, rfl⟩) ?_
    refine opsIn_call (f := 46) (args := #[.nilIface, .pointer (some ⟨b, 0, none⟩)]) rfl rfl (fun _ h => by cases h) (by simp [go_sem, Try.ntmps56]) ((caught_nil b W).mono ?_)
    rintro e w' ⟨rfl, h⟩
    exact ⟨_, rfl, rfl, .returning, by rw [← hu], _, results_none rfl _ _ _, ⟨_, rfl⟩, rfl, h⟩
  caught b t x code W h := by
    refine callsDIn_of_wpSIn Try.func56 rfl trivial fun c₀ cs hu => ?_
    refine wpSIn_recover_first rfl rfl rfl rfl (fun _ _ => trivial) rfl (v := .iface 132 (.agg #[.int .i64 code])) (cs' := { c₀ with mode := .panicking [{ v := .iface 132 (.agg #[.int .i64 code]), recovered := true }] } :: cs) (.inl (by simp [recoverD, hu])) ?_
    refine opsIn_call (f := 46) (args := #[.iface 132 (.agg #[.int .i64 code]), .pointer (some ⟨b, 0, none⟩)]) rfl rfl (fun _ h => by cases h) (by simp [go_sem, Try.ntmps56]) ((caught_some b t code x W h).mono ?_)
    rintro e w' ⟨rfl, h⟩
    exact ⟨_, rfl, rfl, _, rfl, _, results_none rfl _ _ _, ⟨_, rfl⟩, rfl, h⟩
theorem catches60 : Catches Try.prog 60 (fun b => #[.pointer (some ⟨b, 0, none⟩)]) 132 where
  calm b W hb := by
    refine callsDIn_of_wpSIn Try.func60 rfl trivial fun c₀ cs hu => ?_
    refine wpSIn_recover_first rfl rfl rfl rfl (fun _ _ => trivial) rfl (v := .nilIface) (cs' := c₀ :: cs) (.inr ⟨by simp [recoverD, hu], rfl, rfl⟩) ?_
    refine opsIn_call (f := 46) (args := #[.nilIface, .pointer (some ⟨b, 0, none⟩)]) rfl rfl (fun _ h => by cases h) (by simp [go_sem, Try.ntmps60]) ((caught_nil b W).mono ?_)
    rintro e w' ⟨rfl, h⟩
    exact ⟨_, rfl, rfl, .returning, by rw [← hu], _, results_none rfl _ _ _, ⟨_, rfl⟩, rfl, h⟩
  caught b t x code W h := by
    refine callsDIn_of_wpSIn Try.func60 rfl trivial fun c₀ cs hu => ?_
    refine wpSIn_recover_first rfl rfl rfl rfl (fun _ _ => trivial) rfl (v := .iface 132 (.agg #[.int .i64 code])) (cs' := { c₀ with mode := .panicking [{ v := .iface 132 (.agg #[.int .i64 code]), recovered := true }] } :: cs) (.inl (by simp [recoverD, hu])) ?_
    refine opsIn_call (f := 46) (args := #[.iface 132 (.agg #[.int .i64 code]), .pointer (some ⟨b, 0, none⟩)]) rfl rfl (fun _ h => by cases h) (by simp [go_sem, Try.ntmps60]) ((caught_some b t code x W h).mono ?_)
    rintro e w' ⟨rfl, h⟩
    exact ⟨_, rfl, rfl, _, rfl, _, results_none rfl _ _ _, ⟨_, rfl⟩, rfl, h⟩
theorem catches64 : Catches Try.prog 64 (fun b => #[.pointer (some ⟨b, 0, none⟩)]) 132 where
  calm b W hb := by
    refine callsDIn_of_wpSIn Try.func64 rfl trivial fun c₀ cs hu => ?_
    refine wpSIn_recover_first rfl rfl rfl rfl (fun _ _ => trivial) rfl (v := .nilIface) (cs' := c₀ :: cs) (.inr ⟨by simp [recoverD, hu], rfl, rfl⟩) ?_
    refine opsIn_call (f := 46) (args := #[.nilIface, .pointer (some ⟨b, 0, none⟩)]) rfl rfl (fun _ h => by cases h) (by simp [go_sem, Try.ntmps64]) ((caught_nil b W).mono ?_)
    rintro e w' ⟨rfl, h⟩
    exact ⟨_, rfl, rfl, .returning, by rw [← hu], _, results_none rfl _ _ _, ⟨_, rfl⟩, rfl, h⟩
  caught b t x code W h := by
    refine callsDIn_of_wpSIn Try.func64 rfl trivial fun c₀ cs hu => ?_
    refine wpSIn_recover_first rfl rfl rfl rfl (fun _ _ => trivial) rfl (v := .iface 132 (.agg #[.int .i64 code])) (cs' := { c₀ with mode := .panicking [{ v := .iface 132 (.agg #[.int .i64 code]), recovered := true }] } :: cs) (.inl (by simp [recoverD, hu])) ?_
    refine opsIn_call (f := 46) (args := #[.iface 132 (.agg #[.int .i64 code]), .pointer (some ⟨b, 0, none⟩)]) rfl rfl (fun _ h => by cases h) (by simp [go_sem, Try.ntmps64]) ((caught_some b t code x W h).mono ?_)
    rintro e w' ⟨rfl, h⟩
    exact ⟨_, rfl, rfl, _, rfl, _, results_none rfl _ _ _, ⟨_, rfl⟩, rfl, h⟩
theorem catches69 : Catches Try.prog 69 (fun b => #[.pointer (some ⟨b, 0, none⟩)]) 132 where
  calm b W hb := by
    refine callsDIn_of_wpSIn Try.func69 rfl trivial fun c₀ cs hu => ?_
    refine wpSIn_recover_first rfl rfl rfl rfl (fun _ _ => trivial) rfl (v := .nilIface) (cs' := c₀ :: cs) (.inr ⟨by simp [recoverD, hu], rfl, rfl⟩) ?_
    refine opsIn_call (f := 46) (args := #[.nilIface, .pointer (some ⟨b, 0, none⟩)]) rfl rfl (fun _ h => by cases h) (by simp [go_sem, Try.ntmps69]) ((caught_nil b W).mono ?_)
    rintro e w' ⟨rfl, h⟩
    exact ⟨_, rfl, rfl, .returning, by rw [← hu], _, results_none rfl _ _ _, ⟨_, rfl⟩, rfl, h⟩
  caught b t x code W h := by
    refine callsDIn_of_wpSIn Try.func69 rfl trivial fun c₀ cs hu => ?_
    refine wpSIn_recover_first rfl rfl rfl rfl (fun _ _ => trivial) rfl (v := .iface 132 (.agg #[.int .i64 code])) (cs' := { c₀ with mode := .panicking [{ v := .iface 132 (.agg #[.int .i64 code]), recovered := true }] } :: cs) (.inl (by simp [recoverD, hu])) ?_
    refine opsIn_call (f := 46) (args := #[.iface 132 (.agg #[.int .i64 code]), .pointer (some ⟨b, 0, none⟩)]) rfl rfl (fun _ h => by cases h) (by simp [go_sem, Try.ntmps69]) ((caught_some b t code x W h).mono ?_)
    rintro e w' ⟨rfl, h⟩
    exact ⟨_, rfl, rfl, _, rfl, _, results_none rfl _ _ _, ⟨_, rfl⟩, rfl, h⟩
theorem catches72 : Catches Try.prog 72 (fun b => #[.pointer (some ⟨b, 0, none⟩)]) 132 where
  calm b W hb := by
    refine callsDIn_of_wpSIn Try.func72 rfl trivial fun c₀ cs hu => ?_
    refine wpSIn_recover_first rfl rfl rfl rfl (fun _ _ => trivial) rfl (v := .nilIface) (cs' := c₀ :: cs) (.inr ⟨by simp [recoverD, hu], rfl, rfl⟩) ?_
    refine opsIn_call (f := 46) (args := #[.nilIface, .pointer (some ⟨b, 0, none⟩)]) rfl rfl (fun _ h => by cases h) (by simp [go_sem, Try.ntmps72]) ((caught_nil b W).mono ?_)
    rintro e w' ⟨rfl, h⟩
    exact ⟨_, rfl, rfl, .returning, by rw [← hu], _, results_none rfl _ _ _, ⟨_, rfl⟩, rfl, h⟩
  caught b t x code W h := by
    refine callsDIn_of_wpSIn Try.func72 rfl trivial fun c₀ cs hu => ?_
    refine wpSIn_recover_first rfl rfl rfl rfl (fun _ _ => trivial) rfl (v := .iface 132 (.agg #[.int .i64 code])) (cs' := { c₀ with mode := .panicking [{ v := .iface 132 (.agg #[.int .i64 code]), recovered := true }] } :: cs) (.inl (by simp [recoverD, hu])) ?_
    refine opsIn_call (f := 46) (args := #[.iface 132 (.agg #[.int .i64 code]), .pointer (some ⟨b, 0, none⟩)]) rfl rfl (fun _ h => by cases h) (by simp [go_sem, Try.ntmps72]) ((caught_some b t code x W h).mono ?_)
    rintro e w' ⟨rfl, h⟩
    exact ⟨_, rfl, rfl, _, rfl, _, results_none rfl _ _ _, ⟨_, rfl⟩, rfl, h⟩
end Go.Proofs.Ytafmgmaelnpehaa
end

section
set_option linter.unusedVariables false
set_option linter.unusedSimpArgs false
namespace Go.Proofs.Ytafmgmaelnpehaa
open Go.RowKit Go.TL Go.Shelf Go.Fu
attribute [local go_sem] Oper.semAt_some
set_option maxHeartbeats 400000 in
theorem all_any (a b : Int) (w : World) : Calls Try.prog 57 #[.agg #[.int .i64 a, .int .i64 b]] w fun e w' => e = .returned (.func (.func 93) #[] #[.pointer (some ⟨w.heap.size, 0, none⟩)]) ∧ w' = w.alloc (.cells #[.int .i64 a, .int .i64 b] 89) := by
  have hmf : ∀ (fn : Fn) (first cap : Array Value) (w : World), (Instr.makeFunc fn first cap).run Try.prog w = .ok (.func fn first cap) w := fun _ _ _ _ => rfl
  go_enter Try.func57, Try.ntmps57
  go_wp2

  go_ret
  exact ⟨rfl, rfl⟩

set_option maxRecDepth 100000 in
set_option maxHeartbeats 1000000 in
theorem all1_iter (B : Nat) (lo hi : Int) (n : Nat) (hn : hi + 1 - lo = n) (h1 : -1000000 ≤ lo) (h2 : hi ≤ 1000000) (w : World) (hb : Box2 w B 89 lo hi) :
    Iter Try.prog 93 #[.pointer (some ⟨B, 0, none⟩)] (fun x : Int => #[.int .i64 x]) (ints lo n) (fun k => k = B) w := by
  intro l J Jx W hW hJ hJx hY h0
  rw [ints_len] at *
  have hbW : Box2 W B 89 lo hi := (hW B rfl).trans hb
  clear hb hW
  refine callsIn_of_wp Try.func93 rfl trivial ?_ rfl
  simp only [Try.ntmps93, List.size_toArray, List.length_cons, List.length_nil, Nat.reduceAdd, Nat.reduceSub, Array.replicate_succ, Array.replicate_zero, List.push_toArray, List.append_toArray, List.nil_append, List.cons_append]
  have c0 := hbW.cell0
  gi_wp2

  gi_loopw [3] (fun v wr => ∃ k : Nat, k ≤ n ∧ v = .int .i64 (lo + k) ∧ Box2 wr B 89 lo hi ∧ J k wr) (fun v _ => (hi + 1 - intOf v).toNat)
  case atStart => exact ⟨0, Nat.zero_le _, by simp, hbW, h0⟩
  case round =>
    obtain ⟨k, hk, rfl, hbx, hj⟩ := hrel
    have c1 := hbx.cell1
    by_cases hlt : k < n
    · obtain ⟨fn, tmps, assign, body, hy, hR⟩ := hY k (by rw [ints_len]; exact hlt) wr hj
      rw [ints_get] at hy
      have ht : lo + (k : Int) ≤ hi := by omega
      gi_wp2
      refine ⟨rfl, ?_⟩
      refine hR.mono ?_
      rintro e W3 (⟨rfl, hJ3, hk3⟩ | ⟨rfl, hJx3⟩)
      · gi_wp2
        go_roundw
        case rel => exact ⟨k + 1, by omega, by rw [show lo + (k : Int) + 1 = lo + ((k + 1 : Nat) : Int) from by omega], (hk3 B rfl).trans hbx, hJ3⟩
        case measure => simp [intOf]; omega
      · gi_wp2
        refine bodyPost_ret (results_none rfl _ _ _) rfl ?_
        exact ⟨⟨_, rfl⟩, .inr hJx3⟩
    · obtain rfl : k = n := by omega
      have ht : ¬ lo + (k : Int) ≤ hi := by omega
      gi_wp2
      go_end0
      exact ⟨⟨_, rfl⟩, .inl hj⟩
end Go.Proofs.Ytafmgmaelnpehaa
end

section
set_option linter.unusedVariables false
set_option linter.unusedSimpArgs false
namespace Go.Proofs.Ytafmgmaelnpehaa
open Go.RowKit Go.TL Go.Shelf Go.Fu
attribute [local go_sem] Oper.semAt_some
set_option maxHeartbeats 400000 in
theorem bend_any (a b c : Int) (w : World) (ha : -1000 ≤ a ∧ a ≤ 1000) (hb : -1000 ≤ b ∧ b ≤ 1000) (hc : -1000 ≤ c ∧ c ≤ 1000) : Calls Try.prog 89 #[.agg #[.int .i64 a, .int .i64 b], .int .i64 c] w fun e w' => e = .returned (.int .i64 (bendI a b c)) ∧ w' = w.alloc (.cells #[.int .i64 a, .int .i64 b] 137) := by
  obtain ⟨ha1, ha2⟩ := ha
  obtain ⟨hb1, hb2⟩ := hb
  obtain ⟨hc1, hc2⟩ := hc
  go_enter Try.func89, Try.ntmps89
  go_wp2
  all_goals
    go_ret
    exact ⟨congrArg (fun x => Ending.returned (.int .i64 x)) (by unfold bendI; split <;> omega), rfl⟩

def Spans (W : World) (A : Option Addr) (l : List (Int × Int)) : Prop :=
  l = [] ∨ ∃ g off, A = some ⟨g, off, none⟩ ∧ ∀ i (h : i < l.length), W.cell? ⟨g, off + i * 2, none⟩ = some (.int .i64 (l[i]'h).1) ∧ W.cell? ⟨g, off + i * 2 + 1, none⟩ = some (.int .i64 (l[i]'h).2)
theorem Spans.grow {B : Nat} {W W' : World} {A : Option Addr} {l : List (Int × Int)} (h : Spans W A l) (hg : Grow B W W') : Spans W' A l :=
  h.imp id fun ⟨g, off, e, hc⟩ => ⟨g, off, e, fun i hi => ⟨hg.cell (hc i hi).1, hg.cell (hc i hi).2⟩⟩
theorem Spans.stab (B : Nat) (A : Option Addr) (l : List (Int × Int)) : Stab B (fun W => Spans W A l) := fun _ _ h hg => h.grow hg
/-- What a slice's element reads as. -/
theorem Spans.at_ {W : World} {A : Option Addr} {l : List (Int × Int)} (h : Spans W A l) (hp : 0 < l.length) : ∃ g off, A = some ⟨g, off, none⟩ ∧ ∀ i (h : i < l.length), W.cell? ⟨g, off + i * 2, none⟩ = some (.int .i64 (l[i]'h).1) ∧ W.cell? ⟨g, off + i * 2 + 1, none⟩ = some (.int .i64 (l[i]'h).2) := by
  rcases h with rfl | h
  · simp at hp
  · exact h

theorem all_iter (W : World) (s : Int × Int) (h : okSpan s) : Iter Try.prog 93 #[.pointer (some ⟨W.heap.size, 0, none⟩)] (fun x : Int => #[.int .i64 x]) (spanL s) (fun k => k = W.heap.size) (W.alloc (.cells #[.int .i64 s.1, .int .i64 s.2] 89)) := by
  obtain ⟨h1, h2, h3⟩ := h
  exact all1_iter W.heap.size s.1 s.2 _ (by omega) (by omega) (by omega) _ (Box2.new W 89 s.1 s.2)

/-- The boxes of 'at'. -/
structure AtB (B0 : Nat) (A : Option Addr) (n c : Nat) (s : Nat) (st : Bool × Int × Int) (w W : World) : Prop where
  f : Boxed W B0 79 (.slice A n c)
  s : Boxed W (B0 + 1) 3 (.int .i64 s)
  o : Box2 W (B0 + 2) 28 st.2.1 st.2.2
  b : Boxed W (B0 + 3) 4 (.bool st.1)
  below : Below B0 w W
theorem AtB.stab {B B0 : Nat} {A : Option Addr} {n c s : Nat} {st : Bool × Int × Int} {w : World} (h : B0 ≤ B) (hw : B0 ≤ w.heap.size) : Stab B (fun W => AtB B0 A n c s st w W) := fun W W' h1 hg =>
  ⟨hg.boxed h1.f, hg.boxed h1.s, hg.same _ _ h1.o (.inr rfl), hg.boxed h1.b, h1.below.trans (hg.below h (Nat.le_trans hw h1.below.size))⟩

set_option maxRecDepth 100000 in
set_option maxHeartbeats 2000000 in
theorem at_any (A : Option Addr) (c : Nat) (l : List (Int × Int)) (s : Nat) (hs : 1 ≤ s) (hs2 : s + 1 < l.length) (hl : l.length ≤ 8) (hok : ∀ x ∈ l, okSpan x) (w : World) (hf : Spans w A l) :
    Calls Try.prog 48 #[.slice A l.length c, .int .i64 s] w fun e w' => e = .returned (.agg #[.int .i64 (atF l s).1, .int .i64 (atF l s).2]) ∧ Below w.heap.size w w' := by
  obtain ⟨g, off, rfl, hf2⟩ := hf.at_ (by omega)
  replace hf := hf2
  clear hf2
  have h1 : (s : Int) ≤ 8 := by omega
  have h2 : (1 : Int) ≤ s := by omega
  have h3 : l.length ≤ 100 := by omega
  have eA : l.getD (s - 1) (0, 0) = l[s - 1]'(by omega) := by simp [List.getD_eq_getElem?_getD, show s - 1 < l.length by omega]
  have eB : l.getD s (0, 0) = l[s]'(by omega) := by simp [List.getD_eq_getElem?_getD, show s < l.length by omega]
  have eC : l.getD (s + 1) (0, 0) = l[s + 1]'(by omega) := by simp [List.getD_eq_getElem?_getD, show s + 1 < l.length by omega]
  have fA := hf (s - 1) (by omega)
  have fB := hf s (by omega)
  have fC := hf (s + 1) (by omega)
  have oA := hok _ (List.getElem_mem (show s - 1 < l.length by omega))
  have oB := hok _ (List.getElem_mem (show s < l.length by omega))
  have oC := hok _ (List.getElem_mem (show s + 1 < l.length by omega))
  unfold atF
  rw [eA, eB, eC]
  clear eA eB eC
  generalize l[s - 1]'(by omega) = sA at *
  generalize l[s]'(by omega) = sB at *
  generalize l[s + 1]'(by omega) = sC at *
  have hg : g < w.heap.size := World.block_lt_of_cell? w _ fA.1
  clear hf hok
  refine calls_of_exec Try.func48 rfl ?_
  simp only [Try.ntmps48, List.size_toArray, List.length_cons, List.length_nil, Nat.reduceAdd, Nat.reduceSub, Array.replicate_succ, Array.replicate_zero, List.push_toArray, List.append_toArray, List.nil_append, List.cons_append]
  refine exec_seq (exec_region_o fun ds => ?_)
  gi_wp2
  refine eq_mk (((Keep.refl w).alloc _).alloc _ |>.alloc _) ?_
  show Exec _ _ _ _ _ _
  refine exec_seq (exec_region_o fun ds => ?_)
  gi_wp2
  refine eq_mk ((Keep.refl _).alloc _) ?_
  show Exec _ _ _ _ _ _
  refine exec_world (fun W => AtB w.heap.size (some ⟨g, off, none⟩) l.length c s (false, 0, 0) w W) ⟨?_, ?_, ?_, ?_, ?_⟩ ?_
  · (simp only [Boxed, Box2, heap_alloc_at, heap_set_at, World.size_alloc, World.size_setCell]; repeat (first | rfl | rw [if_pos (by omega)] | rw [if_neg (by omega)]))
  · (simp only [Boxed, Box2, heap_alloc_at, heap_set_at, World.size_alloc, World.size_setCell]; repeat (first | rfl | rw [if_pos (by omega)] | rw [if_neg (by omega)]))
  · (simp only [Boxed, Box2, heap_alloc_at, heap_set_at, World.size_alloc, World.size_setCell]; repeat (first | rfl | rw [if_pos (by omega)] | rw [if_neg (by omega)]))
  · (simp only [Boxed, Box2, heap_alloc_at, heap_set_at, World.size_alloc, World.size_setCell]; repeat (first | rfl | rw [if_pos (by omega)] | rw [if_neg (by omega)]))
  · exact ((((Below.refl _ w).alloc (Nat.le_refl _) _).alloc (by simp) _).alloc (by simp; omega) _).alloc (by simp; omega) _
  intro W hW
  have gA := hW.below.cell (p := ⟨g, off + (s - 1) * 2, none⟩) hg
  have gA2 := hW.below.cell (p := ⟨g, off + (s - 1) * 2 + 1, none⟩) hg
  rw [fA.1] at gA
  rw [fA.2] at gA2
  have k1 := hW.f.cell
  have k2 := hW.s.cell
  refine exec_seq (exec_seq (exec_region_o fun ds => ?_))
  gi_wp2_with fail
  refine ⟨trivial, rfl, (callsIn_wide.2 (all_any _ _ _)).mono ?_⟩
  rintro e w' ⟨rfl, rfl⟩
  gi_wp2_with fail
  refine eq_mk ((Keep.refl _).alloc _) ?_
  show Exec _ _ _ _ _ _
  refine exec_block ?_
  have hs0 := hW.below.size
  have stab : ∀ (st : Bool × Int × Int) (B : Nat), w.heap.size ≤ B → Stab B (fun V => AtB w.heap.size (some ⟨g, off, none⟩) l.length c s st w V) := fun st B hB => AtB.stab hB (Nat.le_refl _)
  have itA := all_iter W sA oA
  have hW0 : AtB w.heap.size (some ⟨g, off, none⟩) l.length c s (false, 0, 0) w (W.alloc (.cells #[.int .i64 sA.1, .int .i64 sA.2] 89)) := stab _ (W.heap.size) hs0 _ _ hW (Grow.alloc _ _ _)
  have bxA := Box2.new W 89 sA.1 sA.2
  have b3 := hW.b.lt
  have hszA : (W.alloc (.cells #[.int .i64 sA.1, .int .i64 sA.2] 89)).heap.size = W.heap.size + 1 := by simp
  generalize hWA : W.alloc (.cells #[.int .i64 sA.1, .int .i64 sA.2] 89) = WA at *
  clear hWA
  generalize hBa : W.heap.size = Ba at *
  clear hBa gA gA2 k1 k2 hW
  refine exec_range (L := spanL sA) rfl (enters_of Try.func93 (by kernel_rfl) rfl) itA (fun k hk => by omega) (fun _ => rfl)
    (fun k V => AtB w.heap.size (some ⟨g, off, none⟩) l.length c s (stA ((spanL sA).take k) (spanL sB) (spanL sC) (false, 0, 0)) w V ∧ Box2 V Ba 89 sA.1 sA.2)
    (fun _ _ => False)
    (fun k => Stab.and (stab _ _ (by omega)) (Stab.box2 _ _ _ _ _)) (fun _ => Stab.pure _ _)
    ⟨hW0, bxA⟩ ?roundA ?doneA (fun _ h => h.elim) (fun _ _ h => h.elim)
  case roundA =>
    rintro l1 k hk V hV ⟨hi, bxV⟩
    have bA := spanL_get sA oA k hk
    have st1 : stA ((spanL sA).take (k + 1)) (spanL sB) (spanL sC) (false, 0, 0) = stB ((spanL sA)[k]'hk) (spanL sB) (spanL sC) (stA ((spanL sA).take k) (spanL sB) (spanL sC) (false, 0, 0)) := foldl_take _ _ _ _ hk
    rw [st1]
    clear st1
    generalize stA ((spanL sA).take k) (spanL sB) (spanL sC) (false, 0, 0) = stk at *
    generalize (spanL sA)[k]'hk = a at *
    refine exec_region_r fun ds => ?_
    gi_wp2
    refine eq_mk ((Keep.refl _).alloc _) ⟨rfl, Same.of_below ((Below.refl _ V).alloc (Nat.le_refl _) _) (fun k hk => by omega), ?_⟩
    intro V1 hG hsz1
    have bV := hG.boxed (Boxed.new V 3 (.int .i64 a))
    have hV1 := stab _ _ (by omega) _ _ (stab _ WA.heap.size (by omega) _ _ hi (Grow.alloc _ V (.cells #[.int .i64 a] 3))) hG
    have bx1 := hG.box2 ((Grow.alloc WA.heap.size V (.cells #[.int .i64 a] 3)).box2 bxV)
    rw [World.size_alloc] at hsz1
    generalize hVs : V.heap.size = Va at *
    have hlt1 : Va < V1.heap.size := by omega
    clear hG hi bxV hVs hsz1
    clear V
    -- the second loop
    refine exec_block ?_
    have gB := hV1.below.cell (p := ⟨g, off + s * 2, none⟩) hg
    have gB2 := hV1.below.cell (p := ⟨g, off + s * 2 + 1, none⟩) hg
    rw [fB.1] at gB
    rw [fB.2] at gB2
    have m1 := hV1.f.cell
    have m2 := hV1.s.cell
    refine exec_seq (exec_region_r fun ds => ?_)
    gi_wp2_with fail
    refine ⟨trivial, rfl, (CallsIn.inRound l1 (callsIn_wide.2 (all_any _ _ _))).mono ?_⟩
    rintro e w' ⟨rfl, rfl⟩
    gi_wp2_with fail
    refine eq_mk ((Keep.refl _).alloc _) ?_
    show Exec _ _ _ _ _ _
    refine exec_block ?_
    have itB := all_iter V1 sB oB
    have hW1 := stab _ V1.heap.size (by omega) _ _ hV1 (Grow.alloc _ V1 (.cells #[.int .i64 sB.1, .int .i64 sB.2] 89))
    have bx2 := (Grow.alloc V1.heap.size V1 (.cells #[.int .i64 sB.1, .int .i64 sB.2] 89)).box2 bx1
    have bV2 := (Grow.alloc V1.heap.size V1 (.cells #[.int .i64 sB.1, .int .i64 sB.2] 89)).boxed bV
    have bxB := Box2.new V1 89 sB.1 sB.2
    have hszB : (V1.alloc (.cells #[.int .i64 sB.1, .int .i64 sB.2] 89)).heap.size = V1.heap.size + 1 := by simp
    generalize hWB : V1.alloc (.cells #[.int .i64 sB.1, .int .i64 sB.2] 89) = WB at *
    clear hWB
    generalize hBb : V1.heap.size = Bb at *
    clear gB gB2 m1 m2 hV1 bV
    refine exec_range (L := spanL sB) rfl (enters_of Try.func93 (by kernel_rfl) rfl) itB (fun k hk => by omega) (fun _ => rfl)
      (fun k V => AtB w.heap.size (some ⟨g, off, none⟩) l.length c s (stB a ((spanL sB).take k) (spanL sC) stk) w V ∧ Box2 V Ba 89 sA.1 sA.2 ∧ Boxed V Va 3 (.int .i64 a) ∧ Box2 V Bb 89 sB.1 sB.2)
      (fun _ _ => False)
      (fun k => Stab.and (stab _ _ (by omega)) (Stab.and (Stab.box2 _ _ _ _ _) (Stab.and (Stab.boxed _ _ _ _) (Stab.box2 _ _ _ _ _)))) (fun _ => Stab.pure _ _)
      ⟨hW1, bx2, bV2, bxB⟩ ?roundB ?doneB (fun _ h => h.elim) (fun _ _ h => h.elim)
    case doneB =>
      rintro V2 ⟨h1, h2, h3, h4⟩
      rw [List.take_length] at h1
      exact ⟨fun k hk => by rw [hk, show V2.heap[Ba]? = _ from h2, show V1.heap[Ba]? = _ from bx1], h1, h2⟩
    rintro l2 k hk V hV ⟨hi, bxV, bVV, bxVB⟩
    have bB := spanL_get sB oB k hk
    have st1 : stB a ((spanL sB).take (k + 1)) (spanL sC) stk = stC a ((spanL sB)[k]'hk) (spanL sC) (stB a ((spanL sB).take k) (spanL sC) stk) := foldl_take _ _ _ _ hk
    rw [st1]
    clear st1
    generalize stB a ((spanL sB).take k) (spanL sC) stk = stk2 at *
    generalize (spanL sB)[k]'hk = b at *
    refine exec_region_r fun ds => ?_
    gi_wp2
    refine eq_mk ((Keep.refl _).alloc _) ⟨rfl, Same.of_below ((Below.refl _ V).alloc (Nat.le_refl _) _) (fun k hk => by omega), ?_⟩
    intro V2 hG hsz2
    have bV2 := hG.boxed (Boxed.new V 3 (.int .i64 b))
    have gr := Grow.alloc WB.heap.size V (.cells #[.int .i64 b] 3)
    have hV2 := stab _ _ (by omega) _ _ (stab _ WB.heap.size (by omega) _ _ hi gr) hG
    have by1 := hG.box2 (gr.box2 bxV)
    have by2 := hG.boxed (gr.boxed bVV)
    have by3 := hG.box2 (gr.box2 bxVB)
    rw [World.size_alloc] at hsz2
    generalize hVs : V.heap.size = Vb at *
    have hlt2 : Vb < V2.heap.size := by omega
    clear hG hi bxV bVV bxVB hVs hsz2 gr
    clear V
    -- the third loop
    refine exec_block ?_
    have gC := hV2.below.cell (p := ⟨g, off + (s + 1) * 2, none⟩) hg
    have gC2 := hV2.below.cell (p := ⟨g, off + (s + 1) * 2 + 1, none⟩) hg
    rw [fC.1] at gC
    rw [fC.2] at gC2
    have m1 := hV2.f.cell
    have m2 := hV2.s.cell
    refine exec_seq (exec_region_r fun ds => ?_)
    gi_wp2_with fail
    refine ⟨trivial, rfl, (CallsIn.inRound l2 (callsIn_wide.2 (all_any _ _ _))).mono ?_⟩
    rintro e w' ⟨rfl, rfl⟩
    gi_wp2_with fail
    refine eq_mk ((Keep.refl _).alloc _) ?_
    show Exec _ _ _ _ _ _
    refine exec_block ?_
    have itC := all_iter V2 sC oC
    have gr := Grow.alloc V2.heap.size V2 (.cells #[.int .i64 sC.1, .int .i64 sC.2] 89)
    have hW2 := stab _ V2.heap.size (by omega) _ _ hV2 gr
    have bz1 := gr.box2 by1
    have bz2 := gr.boxed by2
    have bz3 := gr.box2 by3
    have bz4 := gr.boxed bV2
    have bxC := Box2.new V2 89 sC.1 sC.2
    have hszC : (V2.alloc (.cells #[.int .i64 sC.1, .int .i64 sC.2] 89)).heap.size = V2.heap.size + 1 := by simp
    have hltC := by2.lt
    have hltC2 := bV2.lt
    generalize hWC : V2.alloc (.cells #[.int .i64 sC.1, .int .i64 sC.2] 89) = WC at *
    clear hWC
    generalize hBc : V2.heap.size = Bc at *
    clear gC gC2 m1 m2 hV2 gr
    refine exec_range (L := spanL sC) rfl (enters_of Try.func93 (by kernel_rfl) rfl) itC (fun k hk => by omega) (fun _ => rfl)
      (fun k V => AtB w.heap.size (some ⟨g, off, none⟩) l.length c s (stC a b ((spanL sC).take k) stk2) w V ∧ Box2 V Ba 89 sA.1 sA.2 ∧ Boxed V Va 3 (.int .i64 a) ∧ Box2 V Bb 89 sB.1 sB.2 ∧ Boxed V Vb 3 (.int .i64 b) ∧ Box2 V Bc 89 sC.1 sC.2)
      (fun _ _ => False)
      (fun k => Stab.and (stab _ _ (by omega)) (Stab.and (Stab.box2 _ _ _ _ _) (Stab.and (Stab.boxed _ _ _ _) (Stab.and (Stab.box2 _ _ _ _ _) (Stab.and (Stab.boxed _ _ _ _) (Stab.box2 _ _ _ _ _)))))) (fun _ => Stab.pure _ _)
      ⟨hW2, bz1, bz2, bz3, bz4, bxC⟩ ?roundC ?doneC (fun _ h => h.elim) (fun _ _ h => h.elim)
    case doneC =>
      rintro V3 ⟨h1, h2, h3, h4, h5, h6⟩
      rw [List.take_length] at h1
      exact ⟨fun k hk => by rw [hk, show V3.heap[Bb]? = _ from h4, show V2.heap[Bb]? = _ from by3], h1, h2, h3, h4⟩
    rintro l3 k hk V hV ⟨hi, c1, c2, c3, c4, c5⟩
    have bC := spanL_get sC oC k hk
    have st1 : stC a b ((spanL sC).take (k + 1)) stk2 = step1 (stC a b ((spanL sC).take k) stk2) (bendI a b ((spanL sC)[k]'hk)) := foldl_take _ _ _ _ hk
    rw [st1]
    clear st1
    generalize stC a b ((spanL sC).take k) stk2 = stk3 at *
    generalize (spanL sC)[k]'hk = cc at *
    refine exec_region_r fun ds => ?_
    gi_wp2
    refine eq_mk (Keep.refl _) ⟨rfl, Same.refl _ _, ?_⟩
    intro V3 hG hsz3
    have d0 := stab _ _ (by omega) _ _ hi hG
    have d1 := hG.box2 c1
    have d2 := hG.boxed c2
    have d3 := hG.box2 c3
    have d4 := hG.boxed c4
    have d5 := hG.box2 c5
    clear hi c1 c2 c3 c4 c5 hG
    have e2 := d2.cell
    have e4 := d4.cell
    have hlt5 := d5.lt
    refine exec_block (exec_seq (exec_region_r fun ds => ?_))
    gi_wp2_with fail
    refine ⟨trivial, rfl, (CallsIn.inRound l3 (callsIn_wide.2 (bend_any _ _ _ _ bA bB bC))).mono ?_⟩
    rintro e w' ⟨rfl, rfl⟩
    gi_wp2_with fail
    refine eq_mk ((Keep.refl _).alloc _) ?_
    show Exec _ _ _ _ _ _
    have gr := Grow.alloc V3.heap.size V3 (.cells #[.int .i64 a, .int .i64 b] 137)
    have f0 := stab _ V3.heap.size (by omega) _ _ d0 gr
    have f1 := gr.box2 d1
    have f2 := gr.boxed d2
    have f3 := gr.box2 d3
    have f4 := gr.boxed d4
    have f5 := gr.box2 d5
    have hszD : (V3.alloc (.cells #[.int .i64 a, .int .i64 b] 137)).heap.size = V3.heap.size + 1 := by simp
    have same3 : ∀ V4 : World, Box2 V4 Bc 89 sC.1 sC.2 → Same (fun k => k = Bc) V3 V4 := fun V4 h k hk => by rw [hk, show V4.heap[Bc]? = _ from h, show V3.heap[Bc]? = _ from d5]
    generalize hWD : V3.alloc (.cells #[.int .i64 a, .int .i64 b] 137) = WD at *
    have hltD : Bc < WD.heap.size := by omega
    clear hWD hszD gr d0 d1 d2 d3 d4 d5 e2 e4
    obtain ⟨bo, lo, hi0⟩ := stk3
    obtain ⟨g1, g2, g3, g4, g5⟩ := f0
    simp only at g3 g4
    have q1 := g4.cell
    have q2 := g4.frozen
    have q3 := g3.cell0
    have q4 := g3.cell1
    have q5 := g3.frozen 0
    have q6 := g3.frozen 1
    have g4l := g4.lt
    have fin : ∀ (W4 : World) (lo' hi' x y : Int), AtB w.heap.size (some ⟨g, off, none⟩) l.length c s (true, lo', hi') w W4 → Box2 W4 Ba 89 sA.1 sA.2 → Boxed W4 Va 3 (.int .i64 a) → Box2 W4 Bb 89 sB.1 sB.2 → Boxed W4 Vb 3 (.int .i64 b) → Box2 W4 Bc 89 sC.1 sC.2 →
        step1 (bo, lo, hi0) (bendI a b cc) = (true, x, y) →
        bodyEnd (fun k => k = Bc) (fun V => AtB w.heap.size (some { block := g, off := off }) l.length c s (step1 (bo, lo, hi0) (bendI a b cc)) w V ∧ Box2 V Ba 89 sA.1 sA.2 ∧ Boxed V Va 3 (.int .i64 a) ∧ Box2 V Bb 89 sB.1 sB.2 ∧ Boxed V Vb 3 (.int .i64 b) ∧ Box2 V Bc 89 sC.1 sC.2) (fun _ _ => False) V3 .normal #[] ((W4.setCell ⟨w.heap.size + 1 + 1, 0, none⟩ (.int .i64 x)).setCell ⟨w.heap.size + 1 + 1, 1, none⟩ (.int .i64 y)) := by
      intro W4 lo' hi' x y ⟨u1, u2, u3, u4, u5⟩ o1 o2 o3 o4 o5 hst
      rw [hst]
      simp only at u3 u4
      refine ⟨same3 _ ?_, ⟨?_, ?_, ?_, ?_, ?_⟩, ?_, ?_, ?_, ?_, ?_⟩
      · (simp only [Boxed, Box2, heap_alloc_at, heap_set_at, World.size_alloc, World.size_setCell]; repeat (first | rfl | exact o5 | rw [if_pos (by omega)] | rw [if_neg (by omega)] | rw [show _ = _ from o5]))
      · (simp only [Boxed, Box2, heap_alloc_at, heap_set_at, World.size_alloc, World.size_setCell]; repeat (first | rfl | exact u1 | rw [if_pos (by omega)] | rw [if_neg (by omega)] | rw [show _ = _ from u1]))
      · (simp only [Boxed, Box2, heap_alloc_at, heap_set_at, World.size_alloc, World.size_setCell]; repeat (first | rfl | exact u2 | rw [if_pos (by omega)] | rw [if_neg (by omega)] | rw [show _ = _ from u2]))
      · (simp only [Boxed, Box2, heap_alloc_at, heap_set_at, World.size_alloc, World.size_setCell]; repeat (first | rfl | exact u3 | rw [if_pos (by omega)] | rw [if_neg (by omega)] | rw [show _ = _ from u3]))
      · (simp only [Boxed, Box2, heap_alloc_at, heap_set_at, World.size_alloc, World.size_setCell]; repeat (first | rfl | exact u4 | rw [if_pos (by omega)] | rw [if_neg (by omega)] | rw [show _ = _ from u4]))
      · exact (u5.setCell (by simp; omega) _).setCell (by simp; omega) _
      · (simp only [Boxed, Box2, heap_alloc_at, heap_set_at, World.size_alloc, World.size_setCell]; repeat (first | rfl | exact o1 | rw [if_pos (by omega)] | rw [if_neg (by omega)] | rw [show _ = _ from o1]))
      · (simp only [Boxed, Box2, heap_alloc_at, heap_set_at, World.size_alloc, World.size_setCell]; repeat (first | rfl | exact o2 | rw [if_pos (by omega)] | rw [if_neg (by omega)] | rw [show _ = _ from o2]))
      · (simp only [Boxed, Box2, heap_alloc_at, heap_set_at, World.size_alloc, World.size_setCell]; repeat (first | rfl | exact o3 | rw [if_pos (by omega)] | rw [if_neg (by omega)] | rw [show _ = _ from o3]))
      · (simp only [Boxed, Box2, heap_alloc_at, heap_set_at, World.size_alloc, World.size_setCell]; repeat (first | rfl | exact o4 | rw [if_pos (by omega)] | rw [if_neg (by omega)] | rw [show _ = _ from o4]))
      · (simp only [Boxed, Box2, heap_alloc_at, heap_set_at, World.size_alloc, World.size_setCell]; repeat (first | rfl | exact o5 | rw [if_pos (by omega)] | rw [if_neg (by omega)] | rw [show _ = _ from o5]))
    cases bo with
    | false =>
      refine exec_seq (exec_seq (exec_region_r fun ds => ?_))
      gi_wp2
      refine eq_mk (Keep.refl _) ?_
      refine exec_cond (b := true) rfl (fun _ => ?_) (fun h => by cases h)
      refine exec_region_r fun ds => ?_
      gi_wp2
      refine eq_mk (((Keep.refl _).setCell _ _).setCell _ _ |>.setCell _ _) ?_
      show Exec _ _ _ _ _ _
      refine exec_world (fun W => AtB w.heap.size (some ⟨g, off, none⟩) l.length c s (true, bendI a b cc, bendI a b cc) w W ∧ Box2 W Ba 89 sA.1 sA.2 ∧ Boxed W Va 3 (.int .i64 a) ∧ Box2 W Bb 89 sB.1 sB.2 ∧ Boxed W Vb 3 (.int .i64 b) ∧ Box2 W Bc 89 sC.1 sC.2) ⟨⟨?_, ?_, ?_, ?_, ?_⟩, ?_, ?_, ?_, ?_, ?_⟩ ?_
      · (simp only [Boxed, Box2, heap_alloc_at, heap_set_at, World.size_alloc, World.size_setCell]; repeat (first | rfl | exact g1 | rw [if_pos (by omega)] | rw [if_neg (by omega)] | rw [show _ = _ from g1]))
      · (simp only [Boxed, Box2, heap_alloc_at, heap_set_at, World.size_alloc, World.size_setCell]; repeat (first | rfl | exact g2 | rw [if_pos (by omega)] | rw [if_neg (by omega)] | rw [show _ = _ from g2]))
      · (simp only [Boxed, Box2, heap_alloc_at, heap_set_at, World.size_alloc, World.size_setCell]; repeat (first | rfl | exact g3 | rw [if_pos (by omega)] | rw [if_neg (by omega)] | rw [show _ = _ from g3]))
      · (simp only [Boxed, Box2, heap_alloc_at, heap_set_at, World.size_alloc, World.size_setCell]; repeat (first | rfl | exact g4 | rw [if_pos (by omega)] | rw [if_neg (by omega)] | rw [show _ = _ from g4]))
      · exact ((g5.setCell (by simp; omega) _).setCell (by simp; omega) _).setCell (by simp; omega) _
      · (simp only [Boxed, Box2, heap_alloc_at, heap_set_at, World.size_alloc, World.size_setCell]; repeat (first | rfl | exact f1 | rw [if_pos (by omega)] | rw [if_neg (by omega)] | rw [show _ = _ from f1]))
      · (simp only [Boxed, Box2, heap_alloc_at, heap_set_at, World.size_alloc, World.size_setCell]; repeat (first | rfl | exact f2 | rw [if_pos (by omega)] | rw [if_neg (by omega)] | rw [show _ = _ from f2]))
      · (simp only [Boxed, Box2, heap_alloc_at, heap_set_at, World.size_alloc, World.size_setCell]; repeat (first | rfl | exact f3 | rw [if_pos (by omega)] | rw [if_neg (by omega)] | rw [show _ = _ from f3]))
      · (simp only [Boxed, Box2, heap_alloc_at, heap_set_at, World.size_alloc, World.size_setCell]; repeat (first | rfl | exact f4 | rw [if_pos (by omega)] | rw [if_neg (by omega)] | rw [show _ = _ from f4]))
      · (simp only [Boxed, Box2, heap_alloc_at, heap_set_at, World.size_alloc, World.size_setCell]; repeat (first | rfl | exact f5 | rw [if_pos (by omega)] | rw [if_neg (by omega)] | rw [show _ = _ from f5]))
      rintro W4 ⟨o0, o1, o2, o3, o4, o5⟩
      have r3 := o0.o.cell0
      have r4 := o0.o.cell1
      have r5 := o0.o.frozen 0
      have r6 := o0.o.frozen 1
      refine exec_region_r fun ds => ?_
      gi_wp2
      refine eq_mk ((Keep.refl _).setCell _ _ |>.setCell _ _) ?_
      exact fin _ _ _ _ _ o0 o1 o2 o3 o4 o5 rfl
    | true =>
      refine exec_seq (exec_seq (exec_region_r fun ds => ?_))
      gi_wp2
      refine eq_mk (Keep.refl _) ?_
      refine exec_cond (b := false) rfl (fun h => by cases h) (fun _ => ?_)
      refine exec_skip ?_
      show Exec _ _ _ _ _ _
      refine exec_region_r fun ds => ?_
      gi_wp2
      all_goals
        refine eq_mk ((Keep.refl _).setCell _ _ |>.setCell _ _) ?_
        refine fin _ _ _ _ _ ⟨g1, g2, g3, g4, g5⟩ f1 f2 f3 f4 f5 ?_
        simp only [step1, if_true, Prod.mk.injEq, true_and]
        exact ⟨by split <;> omega, by split <;> omega⟩
  case doneA =>
    rintro V2 ⟨hi, h2⟩
    rw [List.take_length] at hi
    generalize stA (spanL sA) (spanL sB) (spanL sC) (false, 0, 0) = st at *
    have r3 := hi.o.cell0
    have r4 := hi.o.cell1
    have r5 := hi.o.frozen 0
    have r6 := hi.o.frozen 1
    have hb := hi.below
    have hlt := hi.o.lt
    have ho := hi.o
    show Exec _ _ _ _ _ _
    refine exec_seq (exec_region_o fun ds => ?_)
    gi_wp2
    refine eq_mk ((Keep.refl _).setCell _ _ |>.setCell _ _) ?_
    refine exec_ret ⟨.inr rfl, fun W' hG => ?_⟩
    have hb2 : Box2 W' (w.heap.size + 2) 28 st.2.1 st.2.2 := hG.box2 (by (simp only [Boxed, Box2, heap_alloc_at, heap_set_at, World.size_alloc, World.size_setCell]; repeat (first | rfl | exact ho | rw [if_pos (by omega)] | rw [if_neg (by omega)] | rw [show _ = _ from ho])))
    have c0 := hb2.cell0
    have c1 := hb2.cell1
    refine ⟨.agg #[.int .i64 st.2.1, .int .i64 st.2.2], ?_, rfl, ((hb.setCell (by simp; omega) _).setCell (by simp; omega) _).trans (hG.below (Nat.le_refl _) (by simp; omega))⟩
    simp [results, Try.f48, go_sem, c0, c1]
end Go.Proofs.Ytafmgmaelnpehaa
end

section
namespace Go.TL
open Go Go.RowKit
def Fits : List (Option Value) → List Value → Prop
  | [], [] => True
  | none :: r, _ :: s => Fits r s
  | some v :: r, u :: s => u = v ∧ Fits r s
  | _, _ => False
def fill : List (Option Value) → Nat → (Nat → Value) → List Value
  | [], _, _ => []
  | none :: r, i, x => x i :: fill r (i + 1) x
  | some v :: r, i, x => v :: fill r (i + 1) x
theorem fits_open : ∀ {p : List (Option Value)} {l : List Value} (i : Nat), Fits p l → ∃ x : Nat → Value, l = fill p i x
  | [], [], _, _ => ⟨fun _ => .bool true, rfl⟩
  | none :: r, u :: s, i, h => by
    obtain ⟨x, hx⟩ := fits_open (i + 1) (show Fits r s from h)
    refine ⟨fun j => if j = i then u else x j, ?_⟩
    have : ∀ (r : List (Option Value)) (k : Nat), i < k → fill r k (fun j => if j = i then u else x j) = fill r k x := by
      intro r
      induction r with
      | nil => intros; rfl
      | cons a r ih =>
        intro k hk
        cases a with
        | none => show _ :: _ = _ :: _; rw [ih (k + 1) (by omega)]; show (if k = i then u else x k) :: _ = _; rw [if_neg (by omega)]
        | some v => show _ :: _ = _ :: _; rw [ih (k + 1) (by omega)]
    show u :: s = (if i = i then u else x i) :: fill r (i + 1) _
    rw [this r (i + 1) (by omega), if_pos rfl, ← hx]
  | some v :: r, u :: s, i, h => by
    obtain ⟨x, hx⟩ := fits_open (i + 1) (show Fits r s from h.2)
    exact ⟨x, by rw [h.1]; show v :: s = v :: _; rw [← hx]⟩
  | [], _ :: _, _, h => h.elim
  | none :: _, [], _, h => h.elim
  | some _ :: _, [], _, h => h.elim
def Slots (p : List (Option Value)) (t : Array Value) : Prop := Fits p t.toList
theorem Slots.open_ {p : List (Option Value)} {t : Array Value} (h : Slots p t) : ∃ x : Nat → Value, t = (fill p 0 x).toArray := by
  obtain ⟨x, hx⟩ := fits_open 0 h
  exact ⟨x, by rw [← hx]⟩

/-! ### Operations of a region that draws its order -/
section
variable {P : Program} {C : World → Prop} {o : Oper} {a : Act} {K : Act → Prop}
theorem quiet_val (v : Value) (h : ∀ w, C w → (execOp a.eval o).run P w = .ok (.value v) w) (hk : K (a.put o.dst v)) : o.quiet P a C K :=
  ⟨v, fun w hw => by unfold Oper.quietAt; rw [h w hw]; exact ⟨rfl, rfl⟩, hk⟩
theorem quiet_call {f : FuncId} {args : Array Value} (v : Value) (h : ∀ w, C w → (execOp a.eval o).run P w = .ok (.enter f args) w) (hc : ∀ w, C w → Calls P f args w fun e w' => e = .returned v ∧ C w') (hk : K (a.put o.dst v)) : o.quiet P a C K :=
  ⟨v, fun w hw => by unfold Oper.quietAt; rw [h w hw]; exact ⟨rfl, hc w hw⟩, hk⟩
end
/-- A part of some code. -/
def sub : Code → List Nat → Code
  | c, [] => c
  | .seq a _, 0 :: r => sub a r
  | .seq _ b, _ :: r => sub b r
  | .block _ c, _ :: r => sub c r
  | .loop c, _ :: r => sub c r
  | .scope c, _ :: r => sub c r
  | .cond _ a _, 0 :: r => sub a r
  | .cond _ _ b, _ :: r => sub b r
  | .rangeFunc _ _ a _, 0 :: r => sub a r
  | .rangeFunc _ _ _ b, _ :: r => sub b r
  | c, _ :: _ => c
end Go.TL
end

section
namespace Go.Proofs.Ytafmgmaelnpehaa.PFurrowAsks
open Go.RowKit Go.Proofs.YtafmgmaelnpehaaW.PrintWords Go.Proofs.YtafmgmaelnpehaaW.PrintLast Go.Proofs.YtafmgmaelnpehaaW.PrintMore
attribute [local go_sem] max2_int min2_int max_two min_two max_three min_three max_four min_four   -- for this text's walks alone
set_option linter.unusedVariables false
set_option linter.unusedSimpArgs false



def errW : Option Int → Value
  | none => .nilIface
  | some c => .iface 0 (.int .i64 c)
theorem errW_none : errW none = .nilIface := rfl
theorem errW_some (c : Int) : errW (some c) = .iface 0 (.int .i64 c) := rfl

theorem info3 : (Try.prog.info? 3).map (fun i => (i.zero, i.size, i.bytes)) = some (some (.int .i64 0), 1, 8) := by kernel_rfl
theorem info28 : (Try.prog.info? 28).map (fun i => (i.zero, i.size, i.bytes)) = some (some (.agg #[(.int .i64 0), (.int .i64 0)]), 2, 16) := by kernel_rfl
-- the values' own types
/-! #### struct type 28 -/
structure S28 where
  f0 : Int
  f1 : Int
def z28 : S28 := ⟨(0 : Int), (0 : Int)⟩
def k28 : Kd S28 := Kd.iso (Kd.pair (Kd.int .i64) (Kd.int .i64)) (fun x : S28 => (x.f0, x.f1))
theorem k28_open {w : World} {x : S28} {cs : List Value} (h : k28.K w x cs) : cs = [.int .i64 x.f0, .int .i64 x.f1] := by
  obtain ⟨_, _, rfl, rfl, rfl⟩ := h
  exact rfl
theorem k28_mk (w : World) (x : S28)  : k28.K w x [.int .i64 x.f0, .int .i64 x.f1] := ⟨[.int .i64 x.f0], [.int .i64 x.f1], rfl, rfl, rfl⟩
theorem k28_mkM (w : World) (base : Nat) (ok : Nat → Prop) (x : S28)  : k28.M w base ok x [.int .i64 x.f0, .int .i64 x.f1] := ⟨[.int .i64 x.f0], [.int .i64 x.f1], rfl, rfl, rfl⟩
def rd_T28 (xs : List S28) (i : Int) : S28 := xs.getD i.toNat z28
theorem at_T28 {w : World} {A : Option Addr} {n : Nat} {xs : List S28} (h : Kd.C k28 w A n xs) (i : Int) (h0 : 0 ≤ i) (h1 : i < n) : ∃ ad , A = some ad ∧ w.cell? (ad.add (i.toNat * 2)) = some (.int .i64 (rd_T28 xs i).f0) ∧ w.cell? ⟨(ad.add (i.toNat * 2)).block, (ad.add (i.toNat * 2)).off + 1, none⟩ = some (.int .i64 (rd_T28 xs i).f1) := by
  obtain ⟨ad, c, e, _, hK, hc0⟩ := Kd.C_get h z28 i h0 h1
  have hc : ∀ j u, c[j]? = some u → w.cell? (ad.add (i.toNat * 2 + j)) = some u := hc0
  obtain rfl := k28_open hK
  exact ⟨ad, e, hc 0 _ rfl, by rw [← add_field _ _ 1 (by omega)]; exact hc 1 _ rfl⟩

end Go.Proofs.Ytafmgmaelnpehaa.PFurrowAsks
end

section
namespace Go.Proofs.Ytafmgmaelnpehaa.PFurrowAsks
open Go.RowKit Go.Proofs.YtafmgmaelnpehaaW.PrintWords Go.Proofs.YtafmgmaelnpehaaW.PrintLast Go.Proofs.YtafmgmaelnpehaaW.PrintMore
attribute [local go_sem] max2_int min2_int max_two min_two max_three min_three max_four min_four   -- for this text's walks alone
set_option linter.unusedVariables false
set_option linter.unusedSimpArgs false

/-! ### furrow_isInner: function 53 -/
def furrow_isInner.f (l0_0 : List (S28)) (l0_1 : List (S28)) (l0_2 : List (S28)) (a1 : Int) : Option (Bool) := if 0 < a1 then (some (decide (a1 < (wrap64 ((l0_0.length : Int) - 1))))) else (some false)
set_option maxHeartbeats 8000000 in
set_option maxRecDepth 100000 in
theorem furrow_isInner.calls (A0_0 : Option Addr) (c0_0 : Nat) (l0_0 : List (S28)) (A0_1 : Option Addr) (c0_1 : Nat) (l0_1 : List (S28)) (A0_2 : Option Addr) (c0_2 : Nat) (l0_2 : List (S28)) (a1 : Int) (r : Bool) (w : World) (hr0_0 : Kd.C k28 w A0_0 l0_0.length l0_0) (hc0_0 : l0_0.length ≤ c0_0) (hr0_1 : Kd.C k28 w A0_1 l0_1.length l0_1) (hc0_1 : l0_1.length ≤ c0_1) (hr0_2 : Kd.C k28 w A0_2 l0_2.length l0_2) (hc0_2 : l0_2.length ≤ c0_2) (h : furrow_isInner.f l0_0 l0_1 l0_2 a1 = some r) :
    Calls Try.prog 53 #[.agg #[.slice A0_0 l0_0.length c0_0, .slice A0_1 l0_1.length c0_1, .slice A0_2 l0_2.length c0_2], .int .i64 a1] w fun e w' => e = .returned (.bool r) ∧ Below w.heap.size w w' := by
  have hu24 := Try.underlying24
  have HR0_0 := Aside0.mk hr0_0
  have HC0_0 := Aside0.mk hc0_0
  clear hr0_0 hc0_0
  have HR0_1 := Aside0.mk hr0_1
  have HC0_1 := Aside0.mk hc0_1
  clear hr0_1 hc0_1
  have HR0_2 := Aside0.mk hr0_2
  have HC0_2 := Aside0.mk hc0_2
  clear hr0_2 hc0_2
  have HB := Aside0.mk (Below.refl w.heap.size w)
  have H : (if 0 < a1 then (some (decide (a1 < (wrap64 ((l0_0.length : Int) - 1))))) else (some false)) = some r := h
  clear h
  by_cases c3 : 0 < a1
  · rw [if_pos c3] at H
    have c3b0 : decide (0 < a1) = true := decide_eq_true c3
    clear c3
    obtain rfl := Option.some.inj H
    go_enter Try.func53, Try.ntmps53
    go_wp2_with (first | ((with_reducible refine gate_dst (N := 2) rfl ?_); (try (refine gate_guard (by rfl) ?_; dsimp only)); refine box_event ?hg (N := 2) ?hd (cs := #[.slice A0_0 l0_0.length c0_0, .slice A0_1 l0_1.length c0_1, .slice A0_2 l0_2.length c0_2]) (t := 24) ?hr ?_; (case hd => rfl); (case hg => rfl); (case hr => first | (go_simp; done) | (go_simp; rfl)); intro gb123 hg w4 hbox hb; have n0_ := Aside0.mk (below_step (by repeat (first | (with_reducible first | exact HB.out | apply below_alloc | apply pw_below_drewN | apply below_drew1) | exact HB.out)) hb); have n1_ := Aside0.mk (hbox); have n2_ := Aside0.mk ((by rw [hg]; exact (below_size (by repeat (first | (with_reducible first | exact HB.out | apply below_alloc | apply pw_below_drewN | apply below_drew1) | exact HB.out))) : w.heap.size ≤ gb123)); have n3_ := Aside0.mk ((by rw [hg]; exact (below_size (by repeat (first | (with_reducible first | exact HB.out | apply below_alloc | apply pw_below_drewN | apply below_drew1) | exact HB.out))) : w.heap.size ≤ gb123)); clear HB; have HB := n0_; have BK123 := n1_; have GW123 := n2_; have GE123 := n3_; clear n0_ n1_ n2_ n3_; clear hb hbox hg; have hcz5_0 : w4.cell? ⟨gb123, 0, none⟩ = some (.slice A0_0 l0_0.length c0_0) := (blk_cell BK123.out 0).trans rfl; have hcz5_1 : w4.cell? ⟨gb123, 1, none⟩ = some (.slice A0_1 l0_1.length c0_1) := (blk_cell BK123.out 1).trans rfl; have hcz5_2 : w4.cell? ⟨gb123, 2, none⟩ = some (.slice A0_2 l0_2.length c0_2) := (blk_cell BK123.out 2).trans rfl; have hfz5_0 := blk_frozen BK123.out 0; have hfz5_1 := blk_frozen BK123.out 1; have hfz5_2 := blk_frozen BK123.out 2))
    go_ret
    exact ⟨by first | rfl | (simp [errW_none, errW_some] <;> rfl) | (simp [*, errW_none, errW_some] <;> rfl), by repeat (first | (with_reducible first | exact HB.out | apply below_alloc | apply pw_below_drewN | apply below_drew1 | refine below_set ?_ GE123.out) | exact HB.out)⟩
  · rw [if_neg c3] at H
    have c3b0 : decide (0 < a1) = false := decide_eq_false c3
    clear c3
    obtain rfl := Option.some.inj H
    go_enter Try.func53, Try.ntmps53
    go_wp2_with (first | ((with_reducible refine gate_dst (N := 2) rfl ?_); (try (refine gate_guard (by rfl) ?_; dsimp only)); refine box_event ?hg (N := 2) ?hd (cs := #[.slice A0_0 l0_0.length c0_0, .slice A0_1 l0_1.length c0_1, .slice A0_2 l0_2.length c0_2]) (t := 24) ?hr ?_; (case hd => rfl); (case hg => rfl); (case hr => first | (go_simp; done) | (go_simp; rfl)); intro gb123 hg w6 hbox hb; have n0_ := Aside0.mk (below_step (by repeat (first | (with_reducible first | exact HB.out | apply below_alloc | apply pw_below_drewN | apply below_drew1) | exact HB.out)) hb); have n1_ := Aside0.mk (hbox); have n2_ := Aside0.mk ((by rw [hg]; exact (below_size (by repeat (first | (with_reducible first | exact HB.out | apply below_alloc | apply pw_below_drewN | apply below_drew1) | exact HB.out))) : w.heap.size ≤ gb123)); have n3_ := Aside0.mk ((by rw [hg]; exact (below_size (by repeat (first | (with_reducible first | exact HB.out | apply below_alloc | apply pw_below_drewN | apply below_drew1) | exact HB.out))) : w.heap.size ≤ gb123)); clear HB; have HB := n0_; have BK123 := n1_; have GW123 := n2_; have GE123 := n3_; clear n0_ n1_ n2_ n3_; clear hb hbox hg))
    go_ret
    exact ⟨by first | rfl | (simp [errW_none, errW_some] <;> rfl) | (simp [*, errW_none, errW_some] <;> rfl), by repeat (first | (with_reducible first | exact HB.out | apply below_alloc | apply pw_below_drewN | apply below_drew1 | refine below_set ?_ GE123.out) | exact HB.out)⟩

end Go.Proofs.Ytafmgmaelnpehaa.PFurrowAsks
end

section
namespace Go.Proofs.Ytafmgmaelnpehaa.PFurrowAsks
open Go.RowKit Go.Proofs.YtafmgmaelnpehaaW.PrintWords Go.Proofs.YtafmgmaelnpehaaW.PrintLast Go.Proofs.YtafmgmaelnpehaaW.PrintMore
attribute [local go_sem] max2_int min2_int max_two min_two max_three min_three max_four min_four   -- for this text's walks alone
set_option linter.unusedVariables false
set_option linter.unusedSimpArgs false

/-! ### bits_OnesCount64: function 96 -/
def bits_OnesCount64.f (a0 : Int) : Option (Int) := some (Go.bits .and .i64 (wrap64 (IntKind.u64.wrap ((IntKind.u64.wrap ((IntKind.u64.wrap ((Go.bits .and .u64 (IntKind.u64.wrap (((IntKind.u64.wrap ((Go.bits .and .u64 ((IntKind.u64.wrap ((Go.bits .and .u64 (a0 / 2) 6148914691236517205) + (Go.bits .and .u64 a0 6148914691236517205))) / 4) 3689348814741910323) + (Go.bits .and .u64 (IntKind.u64.wrap ((Go.bits .and .u64 (a0 / 2) 6148914691236517205) + (Go.bits .and .u64 a0 6148914691236517205))) 3689348814741910323))) / 16) + (IntKind.u64.wrap ((Go.bits .and .u64 ((IntKind.u64.wrap ((Go.bits .and .u64 (a0 / 2) 6148914691236517205) + (Go.bits .and .u64 a0 6148914691236517205))) / 4) 3689348814741910323) + (Go.bits .and .u64 (IntKind.u64.wrap ((Go.bits .and .u64 (a0 / 2) 6148914691236517205) + (Go.bits .and .u64 a0 6148914691236517205))) 3689348814741910323))))) 1085102592571150095) + ((Go.bits .and .u64 (IntKind.u64.wrap (((IntKind.u64.wrap ((Go.bits .and .u64 ((IntKind.u64.wrap ((Go.bits .and .u64 (a0 / 2) 6148914691236517205) + (Go.bits .and .u64 a0 6148914691236517205))) / 4) 3689348814741910323) + (Go.bits .and .u64 (IntKind.u64.wrap ((Go.bits .and .u64 (a0 / 2) 6148914691236517205) + (Go.bits .and .u64 a0 6148914691236517205))) 3689348814741910323))) / 16) + (IntKind.u64.wrap ((Go.bits .and .u64 ((IntKind.u64.wrap ((Go.bits .and .u64 (a0 / 2) 6148914691236517205) + (Go.bits .and .u64 a0 6148914691236517205))) / 4) 3689348814741910323) + (Go.bits .and .u64 (IntKind.u64.wrap ((Go.bits .and .u64 (a0 / 2) 6148914691236517205) + (Go.bits .and .u64 a0 6148914691236517205))) 3689348814741910323))))) 1085102592571150095) / 256))) + ((IntKind.u64.wrap ((Go.bits .and .u64 (IntKind.u64.wrap (((IntKind.u64.wrap ((Go.bits .and .u64 ((IntKind.u64.wrap ((Go.bits .and .u64 (a0 / 2) 6148914691236517205) + (Go.bits .and .u64 a0 6148914691236517205))) / 4) 3689348814741910323) + (Go.bits .and .u64 (IntKind.u64.wrap ((Go.bits .and .u64 (a0 / 2) 6148914691236517205) + (Go.bits .and .u64 a0 6148914691236517205))) 3689348814741910323))) / 16) + (IntKind.u64.wrap ((Go.bits .and .u64 ((IntKind.u64.wrap ((Go.bits .and .u64 (a0 / 2) 6148914691236517205) + (Go.bits .and .u64 a0 6148914691236517205))) / 4) 3689348814741910323) + (Go.bits .and .u64 (IntKind.u64.wrap ((Go.bits .and .u64 (a0 / 2) 6148914691236517205) + (Go.bits .and .u64 a0 6148914691236517205))) 3689348814741910323))))) 1085102592571150095) + ((Go.bits .and .u64 (IntKind.u64.wrap (((IntKind.u64.wrap ((Go.bits .and .u64 ((IntKind.u64.wrap ((Go.bits .and .u64 (a0 / 2) 6148914691236517205) + (Go.bits .and .u64 a0 6148914691236517205))) / 4) 3689348814741910323) + (Go.bits .and .u64 (IntKind.u64.wrap ((Go.bits .and .u64 (a0 / 2) 6148914691236517205) + (Go.bits .and .u64 a0 6148914691236517205))) 3689348814741910323))) / 16) + (IntKind.u64.wrap ((Go.bits .and .u64 ((IntKind.u64.wrap ((Go.bits .and .u64 (a0 / 2) 6148914691236517205) + (Go.bits .and .u64 a0 6148914691236517205))) / 4) 3689348814741910323) + (Go.bits .and .u64 (IntKind.u64.wrap ((Go.bits .and .u64 (a0 / 2) 6148914691236517205) + (Go.bits .and .u64 a0 6148914691236517205))) 3689348814741910323))))) 1085102592571150095) / 256))) / 65536))) + ((IntKind.u64.wrap ((IntKind.u64.wrap ((Go.bits .and .u64 (IntKind.u64.wrap (((IntKind.u64.wrap ((Go.bits .and .u64 ((IntKind.u64.wrap ((Go.bits .and .u64 (a0 / 2) 6148914691236517205) + (Go.bits .and .u64 a0 6148914691236517205))) / 4) 3689348814741910323) + (Go.bits .and .u64 (IntKind.u64.wrap ((Go.bits .and .u64 (a0 / 2) 6148914691236517205) + (Go.bits .and .u64 a0 6148914691236517205))) 3689348814741910323))) / 16) + (IntKind.u64.wrap ((Go.bits .and .u64 ((IntKind.u64.wrap ((Go.bits .and .u64 (a0 / 2) 6148914691236517205) + (Go.bits .and .u64 a0 6148914691236517205))) / 4) 3689348814741910323) + (Go.bits .and .u64 (IntKind.u64.wrap ((Go.bits .and .u64 (a0 / 2) 6148914691236517205) + (Go.bits .and .u64 a0 6148914691236517205))) 3689348814741910323))))) 1085102592571150095) + ((Go.bits .and .u64 (IntKind.u64.wrap (((IntKind.u64.wrap ((Go.bits .and .u64 ((IntKind.u64.wrap ((Go.bits .and .u64 (a0 / 2) 6148914691236517205) + (Go.bits .and .u64 a0 6148914691236517205))) / 4) 3689348814741910323) + (Go.bits .and .u64 (IntKind.u64.wrap ((Go.bits .and .u64 (a0 / 2) 6148914691236517205) + (Go.bits .and .u64 a0 6148914691236517205))) 3689348814741910323))) / 16) + (IntKind.u64.wrap ((Go.bits .and .u64 ((IntKind.u64.wrap ((Go.bits .and .u64 (a0 / 2) 6148914691236517205) + (Go.bits .and .u64 a0 6148914691236517205))) / 4) 3689348814741910323) + (Go.bits .and .u64 (IntKind.u64.wrap ((Go.bits .and .u64 (a0 / 2) 6148914691236517205) + (Go.bits .and .u64 a0 6148914691236517205))) 3689348814741910323))))) 1085102592571150095) / 256))) + ((IntKind.u64.wrap ((Go.bits .and .u64 (IntKind.u64.wrap (((IntKind.u64.wrap ((Go.bits .and .u64 ((IntKind.u64.wrap ((Go.bits .and .u64 (a0 / 2) 6148914691236517205) + (Go.bits .and .u64 a0 6148914691236517205))) / 4) 3689348814741910323) + (Go.bits .and .u64 (IntKind.u64.wrap ((Go.bits .and .u64 (a0 / 2) 6148914691236517205) + (Go.bits .and .u64 a0 6148914691236517205))) 3689348814741910323))) / 16) + (IntKind.u64.wrap ((Go.bits .and .u64 ((IntKind.u64.wrap ((Go.bits .and .u64 (a0 / 2) 6148914691236517205) + (Go.bits .and .u64 a0 6148914691236517205))) / 4) 3689348814741910323) + (Go.bits .and .u64 (IntKind.u64.wrap ((Go.bits .and .u64 (a0 / 2) 6148914691236517205) + (Go.bits .and .u64 a0 6148914691236517205))) 3689348814741910323))))) 1085102592571150095) + ((Go.bits .and .u64 (IntKind.u64.wrap (((IntKind.u64.wrap ((Go.bits .and .u64 ((IntKind.u64.wrap ((Go.bits .and .u64 (a0 / 2) 6148914691236517205) + (Go.bits .and .u64 a0 6148914691236517205))) / 4) 3689348814741910323) + (Go.bits .and .u64 (IntKind.u64.wrap ((Go.bits .and .u64 (a0 / 2) 6148914691236517205) + (Go.bits .and .u64 a0 6148914691236517205))) 3689348814741910323))) / 16) + (IntKind.u64.wrap ((Go.bits .and .u64 ((IntKind.u64.wrap ((Go.bits .and .u64 (a0 / 2) 6148914691236517205) + (Go.bits .and .u64 a0 6148914691236517205))) / 4) 3689348814741910323) + (Go.bits .and .u64 (IntKind.u64.wrap ((Go.bits .and .u64 (a0 / 2) 6148914691236517205) + (Go.bits .and .u64 a0 6148914691236517205))) 3689348814741910323))))) 1085102592571150095) / 256))) / 65536))) / 4294967296)))) 127)
set_option maxHeartbeats 8000000 in
set_option maxRecDepth 100000 in
theorem bits_OnesCount64.calls (a0 : Int) (r : Int) (w : World) (h : bits_OnesCount64.f a0 = some r) :
    Calls Try.prog 96 #[.int .u64 a0] w fun e w' => e = .returned (.int .i64 r) ∧ Drawn0 w w' := by
  have H : (some (Go.bits .and .i64 (wrap64 (IntKind.u64.wrap ((IntKind.u64.wrap ((IntKind.u64.wrap ((Go.bits .and .u64 (IntKind.u64.wrap (((IntKind.u64.wrap ((Go.bits .and .u64 ((IntKind.u64.wrap ((Go.bits .and .u64 (a0 / 2) 6148914691236517205) + (Go.bits .and .u64 a0 6148914691236517205))) / 4) 3689348814741910323) + (Go.bits .and .u64 (IntKind.u64.wrap ((Go.bits .and .u64 (a0 / 2) 6148914691236517205) + (Go.bits .and .u64 a0 6148914691236517205))) 3689348814741910323))) / 16) + (IntKind.u64.wrap ((Go.bits .and .u64 ((IntKind.u64.wrap ((Go.bits .and .u64 (a0 / 2) 6148914691236517205) + (Go.bits .and .u64 a0 6148914691236517205))) / 4) 3689348814741910323) + (Go.bits .and .u64 (IntKind.u64.wrap ((Go.bits .and .u64 (a0 / 2) 6148914691236517205) + (Go.bits .and .u64 a0 6148914691236517205))) 3689348814741910323))))) 1085102592571150095) + ((Go.bits .and .u64 (IntKind.u64.wrap (((IntKind.u64.wrap ((Go.bits .and .u64 ((IntKind.u64.wrap ((Go.bits .and .u64 (a0 / 2) 6148914691236517205) + (Go.bits .and .u64 a0 6148914691236517205))) / 4) 3689348814741910323) + (Go.bits .and .u64 (IntKind.u64.wrap ((Go.bits .and .u64 (a0 / 2) 6148914691236517205) + (Go.bits .and .u64 a0 6148914691236517205))) 3689348814741910323))) / 16) + (IntKind.u64.wrap ((Go.bits .and .u64 ((IntKind.u64.wrap ((Go.bits .and .u64 (a0 / 2) 6148914691236517205) + (Go.bits .and .u64 a0 6148914691236517205))) / 4) 3689348814741910323) + (Go.bits .and .u64 (IntKind.u64.wrap ((Go.bits .and .u64 (a0 / 2) 6148914691236517205) + (Go.bits .and .u64 a0 6148914691236517205))) 3689348814741910323))))) 1085102592571150095) / 256))) + ((IntKind.u64.wrap ((Go.bits .and .u64 (IntKind.u64.wrap (((IntKind.u64.wrap ((Go.bits .and .u64 ((IntKind.u64.wrap ((Go.bits .and .u64 (a0 / 2) 6148914691236517205) + (Go.bits .and .u64 a0 6148914691236517205))) / 4) 3689348814741910323) + (Go.bits .and .u64 (IntKind.u64.wrap ((Go.bits .and .u64 (a0 / 2) 6148914691236517205) + (Go.bits .and .u64 a0 6148914691236517205))) 3689348814741910323))) / 16) + (IntKind.u64.wrap ((Go.bits .and .u64 ((IntKind.u64.wrap ((Go.bits .and .u64 (a0 / 2) 6148914691236517205) + (Go.bits .and .u64 a0 6148914691236517205))) / 4) 3689348814741910323) + (Go.bits .and .u64 (IntKind.u64.wrap ((Go.bits .and .u64 (a0 / 2) 6148914691236517205) + (Go.bits .and .u64 a0 6148914691236517205))) 3689348814741910323))))) 1085102592571150095) + ((Go.bits .and .u64 (IntKind.u64.wrap (((IntKind.u64.wrap ((Go.bits .and .u64 ((IntKind.u64.wrap ((Go.bits .and .u64 (a0 / 2) 6148914691236517205) + (Go.bits .and .u64 a0 6148914691236517205))) / 4) 3689348814741910323) + (Go.bits .and .u64 (IntKind.u64.wrap ((Go.bits .and .u64 (a0 / 2) 6148914691236517205) + (Go.bits .and .u64 a0 6148914691236517205))) 3689348814741910323))) / 16) + (IntKind.u64.wrap ((Go.bits .and .u64 ((IntKind.u64.wrap ((Go.bits .and .u64 (a0 / 2) 6148914691236517205) + (Go.bits .and .u64 a0 6148914691236517205))) / 4) 3689348814741910323) + (Go.bits .and .u64 (IntKind.u64.wrap ((Go.bits .and .u64 (a0 / 2) 6148914691236517205) + (Go.bits .and .u64 a0 6148914691236517205))) 3689348814741910323))))) 1085102592571150095) / 256))) / 65536))) + ((IntKind.u64.wrap ((IntKind.u64.wrap ((Go.bits .and .u64 (IntKind.u64.wrap (((IntKind.u64.wrap ((Go.bits .and .u64 ((IntKind.u64.wrap ((Go.bits .and .u64 (a0 / 2) 6148914691236517205) + (Go.bits .and .u64 a0 6148914691236517205))) / 4) 3689348814741910323) + (Go.bits .and .u64 (IntKind.u64.wrap ((Go.bits .and .u64 (a0 / 2) 6148914691236517205) + (Go.bits .and .u64 a0 6148914691236517205))) 3689348814741910323))) / 16) + (IntKind.u64.wrap ((Go.bits .and .u64 ((IntKind.u64.wrap ((Go.bits .and .u64 (a0 / 2) 6148914691236517205) + (Go.bits .and .u64 a0 6148914691236517205))) / 4) 3689348814741910323) + (Go.bits .and .u64 (IntKind.u64.wrap ((Go.bits .and .u64 (a0 / 2) 6148914691236517205) + (Go.bits .and .u64 a0 6148914691236517205))) 3689348814741910323))))) 1085102592571150095) + ((Go.bits .and .u64 (IntKind.u64.wrap (((IntKind.u64.wrap ((Go.bits .and .u64 ((IntKind.u64.wrap ((Go.bits .and .u64 (a0 / 2) 6148914691236517205) + (Go.bits .and .u64 a0 6148914691236517205))) / 4) 3689348814741910323) + (Go.bits .and .u64 (IntKind.u64.wrap ((Go.bits .and .u64 (a0 / 2) 6148914691236517205) + (Go.bits .and .u64 a0 6148914691236517205))) 3689348814741910323))) / 16) + (IntKind.u64.wrap ((Go.bits .and .u64 ((IntKind.u64.wrap ((Go.bits .and .u64 (a0 / 2) 6148914691236517205) + (Go.bits .and .u64 a0 6148914691236517205))) / 4) 3689348814741910323) + (Go.bits .and .u64 (IntKind.u64.wrap ((Go.bits .and .u64 (a0 / 2) 6148914691236517205) + (Go.bits .and .u64 a0 6148914691236517205))) 3689348814741910323))))) 1085102592571150095) / 256))) + ((IntKind.u64.wrap ((Go.bits .and .u64 (IntKind.u64.wrap (((IntKind.u64.wrap ((Go.bits .and .u64 ((IntKind.u64.wrap ((Go.bits .and .u64 (a0 / 2) 6148914691236517205) + (Go.bits .and .u64 a0 6148914691236517205))) / 4) 3689348814741910323) + (Go.bits .and .u64 (IntKind.u64.wrap ((Go.bits .and .u64 (a0 / 2) 6148914691236517205) + (Go.bits .and .u64 a0 6148914691236517205))) 3689348814741910323))) / 16) + (IntKind.u64.wrap ((Go.bits .and .u64 ((IntKind.u64.wrap ((Go.bits .and .u64 (a0 / 2) 6148914691236517205) + (Go.bits .and .u64 a0 6148914691236517205))) / 4) 3689348814741910323) + (Go.bits .and .u64 (IntKind.u64.wrap ((Go.bits .and .u64 (a0 / 2) 6148914691236517205) + (Go.bits .and .u64 a0 6148914691236517205))) 3689348814741910323))))) 1085102592571150095) + ((Go.bits .and .u64 (IntKind.u64.wrap (((IntKind.u64.wrap ((Go.bits .and .u64 ((IntKind.u64.wrap ((Go.bits .and .u64 (a0 / 2) 6148914691236517205) + (Go.bits .and .u64 a0 6148914691236517205))) / 4) 3689348814741910323) + (Go.bits .and .u64 (IntKind.u64.wrap ((Go.bits .and .u64 (a0 / 2) 6148914691236517205) + (Go.bits .and .u64 a0 6148914691236517205))) 3689348814741910323))) / 16) + (IntKind.u64.wrap ((Go.bits .and .u64 ((IntKind.u64.wrap ((Go.bits .and .u64 (a0 / 2) 6148914691236517205) + (Go.bits .and .u64 a0 6148914691236517205))) / 4) 3689348814741910323) + (Go.bits .and .u64 (IntKind.u64.wrap ((Go.bits .and .u64 (a0 / 2) 6148914691236517205) + (Go.bits .and .u64 a0 6148914691236517205))) 3689348814741910323))))) 1085102592571150095) / 256))) / 65536))) / 4294967296)))) 127)) = some r := h
  clear h
  obtain rfl := Option.some.inj H
  go_enter Try.func96, Try.ntmps96
  go_wp2
  go_ret
  exact ⟨by first | rfl | (simp; done) | (simp [*]; done), by repeat (first | exact Drawn0.refl _ | apply Drawn0.step)⟩

end Go.Proofs.Ytafmgmaelnpehaa.PFurrowAsks
end

section
namespace Go.Proofs.Ytafmgmaelnpehaa.PFurrowAsks
open Go.RowKit Go.Proofs.YtafmgmaelnpehaaW.PrintWords Go.Proofs.YtafmgmaelnpehaaW.PrintLast Go.Proofs.YtafmgmaelnpehaaW.PrintMore
attribute [local go_sem] max2_int min2_int max_two min_two max_three min_three max_four min_four   -- for this text's walks alone
set_option linter.unusedVariables false
set_option linter.unusedSimpArgs false

/-! ### bits_OnesCount: function 65 -/
def bits_OnesCount.f (a0 : Int) : Option (Int) := (bits_OnesCount64.f a0).bind fun t126 => (some t126)
set_option maxHeartbeats 8000000 in
set_option maxRecDepth 100000 in
theorem bits_OnesCount.calls (a0 : Int) (r : Int) (w : World) (h : bits_OnesCount.f a0 = some r) :
    Calls Try.prog 65 #[.int .u64 a0] w fun e w' => e = .returned (.int .i64 r) ∧ Drawn0 w w' := by
  have H : ((bits_OnesCount64.f a0).bind fun t126 => (some t126)) = some r := h
  clear h
  replace H := Option.bind_eq_some_iff.mp H
  obtain ⟨t126, A20, H⟩ := H
  replace H : (some t126) = some r := H
  have A2 := Aside0.mk A20
  clear A20
  obtain rfl := Option.some.inj H
  go_enter Try.func65, Try.ntmps65
  go_wp2_with (first | ((with_reducible refine gate_callee (f := 96) rfl ?_); refine goesL_ (some 7) rfl rfl Try.func96 (by kernel_rfl) rfl #[.int .u64 a0] rfl (by (try simp only [List.map_toArray, List.map_cons, List.map_nil]); first | done | rfl | (simp only [List.length_drop, List.length_take]; rfl)) ?_; (with_reducible refine (bits_OnesCount64.calls a0 t126 _ A2.out).mono ?_); rintro e w' ⟨rfl, ⟨nd, rfl⟩⟩; refine ⟨_, rfl, ?_⟩))
  go_ret
  exact ⟨by first | rfl | (simp; done) | (simp [*]; done), by repeat (first | exact Drawn0.refl _ | apply Drawn0.step)⟩

end Go.Proofs.Ytafmgmaelnpehaa.PFurrowAsks
end

section
set_option linter.unusedVariables false
set_option linter.unusedSimpArgs false
namespace Go.TL
open Go Go.RowKit

/-- The later ones wait for all of the first ones; these wait, and are guarded, by earlier ones alone. -/
def tailOk (md : Region.Mode) (pre tail : Array Oper) : Bool :=
  (tail.all fun o => (List.range pre.size).all fun j => o.after.any fun e => Region.binds md e && e.on == j) &&
  ((List.range pre.size).all fun j => match pre[j]? with
    | some o => (o.after.all fun e => !Region.binds md e || decide (e.on < j)) && (match o.guard with | some (g, _) => decide (g < pre.size) | none => true)
    | none => true)

section
variable {P : Program} {md : Region.Mode} {pre tail : Array Oper} {Q : Exit → Act → World → Prop}

theorem tailOk_tail (h : tailOk md pre tail = true) {o : Oper} {i : Nat} (ho : tail[i]? = some o) {j : Nat} (hj : j < pre.size) : ∃ e ∈ o.after, Region.binds md e = true ∧ e.on = j := by
  obtain ⟨hi, rfl⟩ := Array.getElem?_eq_some_iff.1 ho
  have h1 := (Bool.and_eq_true _ _ ▸ h : _ ∧ _).1
  have h2 := Array.all_eq_true.1 h1 i hi
  have h3 := List.all_eq_true.1 h2 j (List.mem_range.2 hj)
  obtain ⟨e, he, hb⟩ := Array.any_eq_true'.1 h3
  simp only [Bool.and_eq_true, beq_iff_eq] at hb
  exact ⟨e, he, hb.1, hb.2⟩
theorem tailOk_pre (h : tailOk md pre tail = true) {o : Oper} {j : Nat} (ho : pre[j]? = some o) : (∀ e ∈ o.after, Region.binds md e = true → e.on < j) ∧ ∀ g b, o.guard = some (g, b) → g < pre.size := by
  have hj := (Array.getElem?_eq_some_iff.1 ho).1
  have h1 := (Bool.and_eq_true _ _ ▸ h : _ ∧ _).2
  have h2 := List.all_eq_true.1 h1 j (List.mem_range.2 hj)
  simp only [ho, Bool.and_eq_true] at h2
  refine ⟨fun e he hb => ?_, fun g b hg => ?_⟩
  · have := (Array.all_eq_true_iff_forall_mem.1 h2.1) e he
    simp only [Bool.or_eq_true, Bool.not_eq_true', hb, decide_eq_true_eq] at this
    rcases this with h | h
    · cases h
    · exact h
  · have := h2.2
    rw [hg] at this
    simpa using this

/-- How many have not come up yet. -/
def left (listed : Array Bool) : Nat := (listed.toList.filter (fun b => !b)).length
theorem left_set {listed : Array Bool} {i : Nat} (h : listed.getD i true = false) : left (listed.setIfInBounds i true) + 1 = left listed := by
  obtain ⟨l⟩ := listed
  unfold left
  simp only [List.setIfInBounds_toArray] at *
  induction l generalizing i with
  | nil => simp at h
  | cons b l ih =>
    cases i with
    | zero =>
      have : b = false := by simpa using h
      subst this
      simp
    | succ i =>
      have h' : (l.toArray).getD i true = false := by simpa using h
      have := ih h'
      cases b <;> simp at this ⊢ <;> omega
theorem left_zero {listed : Array Bool} (h : left listed = 0) : listed = Array.replicate listed.size true := by
  obtain ⟨l⟩ := listed
  unfold left at h
  have h2 : ∀ b ∈ l, b = true := by
    intro b hb
    have := List.filter_eq_nil_iff.1 (List.length_eq_zero_iff.1 h) b hb
    simpa using this
  apply Array.ext'
  simpa using List.eq_replicate_of_mem h2
theorem left_pos {listed : Array Bool} (h : left listed ≠ 0) : ∃ j, listed.getD j true = false := by
  obtain ⟨l⟩ := listed
  unfold left at h
  obtain ⟨b, hb⟩ := List.exists_mem_of_length_pos (Nat.pos_of_ne_zero h)
  rw [List.mem_filter] at hb
  obtain ⟨j, hj, e⟩ := List.getElem_of_mem hb.1
  have : b = false := by simpa using hb.2
  refine ⟨j, ?_⟩
  simp [hj, e, this]

theorem ready_some (h : tailOk md pre tail = true) {listed : Array Bool} (hs : listed.size = pre.size) (hl : left listed ≠ 0) : Region.ready md pre listed ≠ [] := by
  obtain ⟨j, hj, hmin⟩ := least (left_pos hl)
  intro e
  have hlt : j < listed.size := by
    rcases Nat.lt_or_ge j listed.size with h | h
    · exact h
    · simp [Array.getElem?_eq_none h] at hj
  have : j ∈ Region.ready md pre listed := by
    refine mem_ready.2 ⟨hj, pre[j]'(hs ▸ hlt), Array.getElem?_eq_getElem _, fun e he hb => ?_⟩
    have := (tailOk_pre h (Array.getElem?_eq_getElem (hs ▸ hlt))).1 e he hb
    have h2 : ¬ listed.getD e.on true = false := fun h => by have := hmin _ h; omega
    have h3 : e.on < listed.size := by omega
    simp [h3] at h2 ⊢
    exact h2
  rw [e] at this
  cases this

theorem getD_app {listed : Array Bool} {k j : Nat} (d : Bool) (h : j < listed.size) : (listed ++ Array.replicate k false).getD j d = listed.getD j d := by
  simp [Array.getElem?_append_left h, h]
theorem getD_app2 {listed : Array Bool} {k j : Nat} (h : listed.size ≤ j) : (listed ++ Array.replicate k false).getD j false = false := by
  rw [Array.getD_eq_getD_getElem?, Array.getElem?_append_right h]
  by_cases hk : j - listed.size < k
  · simp [hk]
  · simp [Array.getElem?_eq_none (show (Array.replicate k false).size ≤ j - listed.size by simp; omega)]

theorem ready_pre (h : tailOk md pre tail = true) {listed : Array Bool} (hs : listed.size = pre.size) (hl : left listed ≠ 0) {j : Nat} :
    j ∈ Region.ready md (pre ++ tail) (listed ++ Array.replicate tail.size false) → j ∈ Region.ready md pre listed := by
  intro hj
  obtain ⟨h1, o, ho, h2⟩ := mem_ready.1 hj
  by_cases hlt : j < pre.size
  · rw [Array.getElem?_append_left hlt] at ho
    rw [getD_app _ (by omega)] at h1
    refine mem_ready.2 ⟨h1, o, ho, fun e he hb => ?_⟩
    have := h2 e he hb
    have hlt2 := (tailOk_pre h ho).1 e he hb
    rwa [getD_app _ (by omega)] at this
  · exfalso
    rw [Array.getElem?_append_right (by omega)] at ho
    obtain ⟨j0, hj0⟩ := left_pos hl
    have hj1 : j0 < listed.size := by
      rcases Nat.lt_or_ge j0 listed.size with h | h
      · exact h
      · simp [Array.getElem?_eq_none h] at hj0
    obtain ⟨e, he, hb, rfl⟩ := tailOk_tail h ho (hs ▸ hj1)
    have := h2 e he hb
    rw [getD_app _ hj1] at this
    simp [hj1] at hj0 this
    rw [hj0] at this
    cases this

/-- What stands behind the first ones. -/
def behind (P : Program) (md : Region.Mode) (pre tail : Array Oper) (Q : Exit → Act → World → Prop) : Exit → Act → World → Prop
  | .normal, a, w => wpAny P md (pre ++ tail) Q tail.size (Array.replicate pre.size true ++ Array.replicate tail.size false) a w
  | .outgrown, _, _ => False
  | e, a, w => Q e a w

theorem wpOp_app (h : tailOk md pre tail = true) {i : Nat} (hi : i < pre.size) {K K' : Act → World → Prop} {a : Act} {w : World} (hK : ∀ a w, K a w → K' a w)
    (hw : wpOp P pre (behind P md pre tail Q) i K a w) : wpOp P (pre ++ tail) Q i K' a w := by
  have ho : pre[i]? = some pre[i] := Array.getElem?_eq_getElem hi
  have ho' : (pre ++ tail)[i]? = some pre[i] := by rw [Array.getElem?_append_left hi]; exact ho
  have hpre := fun g b => (tailOk_pre h ho).2 g b
  unfold wpOp at *
  simp only [ho, ho'] at hw ⊢
  have hy : Region.wanted pre[i] (yielded (pre ++ tail) a.tmps) = Region.wanted pre[i] (yielded pre a.tmps) := by
    unfold Region.wanted
    cases hg : (pre[i]).guard with
    | none => rfl
    | some gb =>
      obtain ⟨g, b⟩ := gb
      have hlt := hpre g b hg
      simp only [yielded, Array.getElem?_append_left hlt]
  rw [hy]
  split
  · rename_i hc
    rw [if_pos hc] at hw
    rcases hw with hw | ⟨_, a', w', hq⟩
    · left
      unfold Oper.wp at *
      generalize (execOp a.eval pre[i]).run P w = r at *
      cases r with
      | ok n w' =>
        cases n <;> simp only [Oper.upon] at hw ⊢ <;>
          first
            | exact hK _ _ hw
            | exact Calls.mono hw (fun e w'' he => by cases e <;> first | exact hK _ _ he | exact he | (obtain ⟨_, _, hq⟩ := he; exact hq.elim))
            | exact Rows.mono hw (fun _ _ he => hK _ _ he)
      | halt x w' => cases x <;> simp only [Oper.upon] at hw ⊢ <;> exact hw
    · exact hq.elim
  · rename_i hc
    rw [if_neg hc] at hw
    exact hK _ _ hw

theorem set_app {listed : Array Bool} {k i : Nat} (h : i < listed.size) : (listed ++ Array.replicate k false).setIfInBounds i true = listed.setIfInBounds i true ++ Array.replicate k false := by
  obtain ⟨l⟩ := listed
  apply Array.ext'
  simp at h ⊢
  rw [List.set_append_left _ _ h]

theorem wpAny_tail (h : tailOk md pre tail = true) : ∀ (fuel : Nat) (listed : Array Bool) (a : Act) (w : World), listed.size = pre.size → left listed = fuel →
    wpAny P md pre (behind P md pre tail Q) fuel listed a w → wpAny P md (pre ++ tail) Q (fuel + tail.size) (listed ++ Array.replicate tail.size false) a w
  | 0, listed, a, w, hs, hf, hw => by
    have e := left_zero hf
    rw [hs] at e
    rw [e, Nat.zero_add]
    exact hw.2
  | fuel + 1, listed, a, w, hs, hf, hw => by
    have hne : left listed ≠ 0 := by omega
    rw [show fuel + 1 + tail.size = (fuel + tail.size) + 1 by omega]
    refine ⟨fun e => ?_, fun i hi => ?_⟩
    · exfalso
      obtain ⟨j, hj⟩ := List.exists_mem_of_ne_nil _ (ready_some h hs hne)
      have : j ∈ Region.ready md (pre ++ tail) (listed ++ Array.replicate tail.size false) := by
        obtain ⟨h1, o, ho, h2⟩ := mem_ready.1 hj
        have hlt := (Array.getElem?_eq_some_iff.1 ho).1
        refine mem_ready.2 ⟨by rw [getD_app _ (by omega)]; exact h1, o, by rw [Array.getElem?_append_left hlt]; exact ho, fun e he hb => ?_⟩
        have := (tailOk_pre h ho).1 e he hb
        rw [getD_app _ (by omega)]
        exact h2 e he hb
      rw [e] at this
      cases this
    · have hr := ready_pre h hs hne hi
      obtain ⟨h1, o, ho, h2⟩ := mem_ready.1 hr
      have hlt := (Array.getElem?_eq_some_iff.1 ho).1
      rw [set_app (by omega)]
      exact wpOp_app h hlt (fun a' w' hK => wpAny_tail h fuel _ a' w' (by simp [hs]) (by have := left_set h1; omega) hK) (hw.2 i hr)
end

section
variable {P : Program} {r : Option Nat} {Q : Exit → Array Value → World → Prop} {t : Array Value} {w : World} {ops : Array Oper} {id : Nat}

theorem region_of_tail (n : Nat) (hm : P.follows .mixedOrders = true) (hnd : ops.all (fun o => !isDefer o.op) = true) (hok : tailOk .any (ops.toList.take n).toArray (ops.toList.drop n).toArray = true) (S : World → Prop) (Pn : List PanicEntry → Array Value → World → Prop)
    (hPn : ∀ c t W, Pn c t W → Q (.panic c) t W)
    (h : ∀ ds, wpAnyH P .any (ops.toList.take n).toArray (behind P .any (ops.toList.take n).toArray (ops.toList.drop n).toArray fun e a W => match e with
        | .normal => a.defers = ds ∧ Keep w W ∧ Q .normal a.tmps W
        | .panic c => a.defers = ds ∧ Keep w W ∧ Pn c a.tmps W
        | _ => False) S (ops.toList.take n).toArray.size (Array.replicate (ops.toList.take n).toArray.size false) { tmps := t, defers := ds } w.drew) : Exec P r (.region id ops true) t w Q := by
  intro hc ds
  refine wpIn_mono (Q := fun e a W => match e with
        | .normal => a.defers = ds ∧ Keep w W ∧ Q .normal a.tmps W
        | .panic c => a.defers = ds ∧ Keep w W ∧ Pn c a.tmps W
        | _ => False) ?_ ?_
  · refine wpIn_region_draw fun tt => ?_
    simp only [Region.schedule, hm, Bool.true_or, if_true]
    have e : (ops.toList.take n).toArray ++ (ops.toList.drop n).toArray = ops := by
      apply Array.ext'
      simp
    have h1 := wpAny_tail hok _ _ _ _ (by simp) (by simp [left]) (wpAny_of_held _ _ _ _ (h ds))
    have e2 : Array.replicate (ops.toList.take n).toArray.size false ++ Array.replicate (ops.toList.drop n).toArray.size false = Array.replicate ops.size false := by
      conv => rhs; rw [← e]
      simp only [Array.size_append, Array.replicate_append_replicate]
    have e3 : (ops.toList.take n).toArray.size + (ops.toList.drop n).toArray.size = ops.size := by
      conv => rhs; rw [← e]
      simp only [Array.size_append]
    rw [e, e2, e3] at h1
    exact ops_in hnd (fun a W hq => hq) _ _ _ (wpAny_sound ops.size tt _ _ _ h1)
  · rintro e a W hq
    cases e with
    | normal => exact ⟨hq.2.1, ⟨[], hq.1, trivial⟩, hq.2.2⟩
    | panic c => exact ⟨hq.2.1, ⟨[], hq.1, trivial⟩, hPn _ _ _ hq.2.2⟩
    | exit id => exact hq.elim
    | goto l => exact hq.elim
    | ret => exact hq.elim
    | outgrown => exact hq.elim
end

/-! ### The moves -/
section
variable {P : Program} {md : Region.Mode} {ops : Array Oper} {Q : Exit → Act → World → Prop} {S : World → Prop} {i : Nat} {o : Oper} {fuel : Nat} {listed : Array Bool} {a : Act} {w : World}

theorem held_take (i : Nat) (v : Value) (hi : ops[i]? = some o) (hs : Region.noSelect ops = true) (hf : Region.free md ops listed i = true) (hr : (Region.ready md ops listed).contains i = true)
    (hQ : ∀ c a w, Q (.panic c) (a.put o.dst v) w → Q (.panic c) a w) (hw : Region.wanted o (yielded ops a.tmps) = true) (hS : S w) (hv : ∀ w, S w → (execOp a.eval o).run P w = .ok (.value v) w)
    (h : wpAnyH P md ops Q S fuel (listed.setIfInBounds i true) (a.put o.dst v) w) : wpAnyH P md ops Q S (fuel + 1) listed a w :=
  wpAnyH_take hi hs hf hr hQ (.inl ⟨hw, hv⟩) hS h
/-- The one that comes up is a call. -/
theorem held_call (i : Nat) {f : FuncId} {args : Array Value} (hi : ops[i]? = some o) (hr : Region.ready md ops listed = [i]) (hw : Region.wanted o (yielded ops a.tmps) = true) (he : (execOp a.eval o).run P w = .ok (.enter f args) w)
    (hc : Calls P f args w fun e w' => (∃ v, e = .returned v ∧ S w' ∧ wpAnyH P md ops Q S fuel (listed.setIfInBounds i true) (a.put o.dst v) w') ∨ ∃ c, e = .panicked c ∧ Q (.panic c) a w') : wpAnyH P md ops Q S (fuel + 1) listed a w := by
  refine wpAnyH_all hr (by simp) fun j hj => ?_
  obtain rfl : j = i := by simpa using hj
  unfold wpOp
  simp only [hi, hw, if_true]
  left
  unfold Oper.wp
  rw [he]
  refine Calls.mono hc fun e w' h => ?_
  rcases h with ⟨v, rfl, h1, h2⟩ | ⟨c, rfl, h⟩
  · exact ⟨h1, h2⟩
  · exact h
theorem held_done (hr : Region.ready md ops listed = []) (h : Q .normal a w) : wpAnyH P md ops Q S fuel listed a w := wpAnyH_done hr h fuel
/-- The one that comes up, in the end. -/
theorem any_val (i : Nat) (v : Value) (hi : ops[i]? = some o) (hr : Region.ready md ops listed = [i]) (hw : Region.wanted o (yielded ops a.tmps) = true) (he : (execOp a.eval o).run P w = .ok (.value v) w)
    (h : wpAny P md ops Q fuel (listed.setIfInBounds i true) (a.put o.dst v) w) : wpAny P md ops Q (fuel + 1) listed a w := by
  refine ⟨fun h0 => (by rw [h0] at hr; cases hr), fun j hj => ?_⟩
  rw [hr] at hj
  obtain rfl : j = i := by simpa using hj
  unfold wpOp
  simp only [hi, hw, if_true]
  left
  unfold Oper.wp
  rw [he]
  exact h
theorem any_skip (i : Nat) (w' : World) (hi : ops[i]? = some o) (hr : Region.ready md ops listed = [i]) (hw : Region.wanted o (yielded ops a.tmps) = true) (he : (execOp a.eval o).run P w = .ok .skip w')
    (h : wpAny P md ops Q fuel (listed.setIfInBounds i true) (a.put o.dst undef) w') : wpAny P md ops Q (fuel + 1) listed a w := by
  refine ⟨fun h0 => (by rw [h0] at hr; cases hr), fun j hj => ?_⟩
  rw [hr] at hj
  obtain rfl : j = i := by simpa using hj
  unfold wpOp
  simp only [hi, hw, if_true]
  left
  unfold Oper.wp
  rw [he]
  exact h
theorem any_done (hr : Region.ready md ops listed = []) (h : Q .normal a w) : ∀ {fuel}, wpAny P md ops Q fuel listed a w
  | 0 => ⟨hr, h⟩
  | _ + 1 => ⟨fun _ => h, by rw [hr]; simp⟩
end
end Go.TL
end

section
set_option linter.unusedVariables false
set_option linter.unusedSimpArgs false
namespace Go.TL
open Go Go.RowKit
structure It where
  op : Op
  dst : Option Tmp
  ty : TypeId
  take : Bool
  gd : Option (Tmp × Bool)
def mkO (x : It) : Oper := { dst := x.dst, op := x.op, type := x.ty, pos := "", after := #[], guard := none }
def itemOf (ops : Array Oper) (i : Nat) (t : Bool) : Option It :=
  match ops[i]? with
  | none => none
  | some o => match o.guard with
    | none => some ⟨o.op, o.dst, o.type, t, none⟩
    | some (g, b) => match (ops[g]?).bind (·.dst) with
      | some d => some ⟨o.op, o.dst, o.type, t, some (d, b)⟩
      | none => none
def itemsOf (ops : Array Oper) : List (Nat × Bool) → List It
  | [] => []
  | (i, t) :: r => match itemOf ops i t with
    | some x => x :: itemsOf ops r
    | none => []
def okSched (md : Region.Mode) (ops : Array Oper) : List (Nat × Bool) → Array Bool → Bool
  | [], listed => (Region.ready md ops listed).isEmpty
  | (i, t) :: r, listed => (itemOf ops i t).isSome && (if t then Region.free md ops listed i && (Region.ready md ops listed).contains i else Region.ready md ops listed == [i]) && okSched md ops r (listed.setIfInBounds i true)
/-- What an operation waits for, as bits. -/
def needL (md : Region.Mode) : List Edge → Nat
  | [] => 0
  | e :: r => if Region.binds md e then 2 ^ e.on ||| needL md r else needL md r
def needsOf (md : Region.Mode) (ops : Array Oper) : List Nat := ops.toList.map fun o => needL md o.after.toList
/-- Number i alone may come up. -/
def rdy1 (mask i : Nat) : Nat → List Nat → Bool
  | _, [] => true
  | j, d :: r => (if j == i then !mask.testBit j && (d &&& mask == d) else mask.testBit j || !(d &&& mask == d)) && rdy1 mask i (j + 1) r
/-- Number i may come up. -/
def rdyHas (mask i : Nat) (needs : List Nat) : Bool := !mask.testBit i && (match needs[i]? with | some d => d &&& mask == d | none => false)
def okS (md : Region.Mode) (ops : Array Oper) (needs : List Nat) : List (Nat × Bool) → Nat → Array Bool → Bool
  | [], mask, _ => mask == 2 ^ needs.length - 1
  | (i, t) :: r, mask, listed => (itemOf ops i t).isSome && decide (i < needs.length) && (if t then Region.free md ops listed i && rdyHas mask i needs else rdy1 mask i 0 needs) && okS md ops needs r (mask ||| 2 ^ i) (listed.setIfInBounds i true)
structure Rel (n mask : Nat) (listed : Array Bool) : Prop where
  size : listed.size = n
  bit : ∀ j, mask.testBit j = listed.getD j false
theorem Rel.set {n mask : Nat} {listed : Array Bool} (h : Rel n mask listed) {i : Nat} (hi : i < n) : Rel n (mask ||| 2 ^ i) (listed.setIfInBounds i true) := by
  obtain ⟨h1, h2⟩ := h
  refine ⟨by simpa using h1, fun j => ?_⟩
  rw [Nat.testBit_or, Nat.testBit_two_pow, h2]
  simp only [Array.getD_eq_getD_getElem?, Array.getElem?_setIfInBounds]
  by_cases e : i = j
  · subst e; simp [h1, hi]
  · simp [e]
theorem need_bit (md : Region.Mode) : ∀ (l : List Edge) (k : Nat), (needL md l).testBit k = l.any fun e => Region.binds md e && e.on == k
  | [], k => by simp [needL]
  | e :: r, k => by
    simp only [needL, List.any_cons]
    cases hb : Region.binds md e with
    | true =>
      simp only [if_true, Nat.testBit_or, Nat.testBit_two_pow, need_bit md r k, Bool.true_and]
      congr 1
    | false => simp only [if_false, Bool.false_eq_true, need_bit md r k, Bool.false_and, Bool.false_or]
theorem need_all {md : Region.Mode} {n mask : Nat} {listed : Array Bool} (h : Rel n mask listed) (l : List Edge) : (l.all fun e => !Region.binds md e || listed.getD e.on false) = (needL md l &&& mask == needL md l) := by
  rw [Bool.eq_iff_iff, List.all_eq_true, beq_iff_eq]
  constructor
  · intro ha
    apply Nat.eq_of_testBit_eq
    intro k
    rw [Nat.testBit_and, h.bit]
    cases hk : (needL md l).testBit k with
    | false => rfl
    | true =>
      rw [need_bit, List.any_eq_true] at hk
      obtain ⟨e, he, hb⟩ := hk
      simp only [Bool.and_eq_true, beq_iff_eq] at hb
      have := ha e he
      rw [hb.1, hb.2] at this
      simpa using this
  · intro hn e he
    cases hb : Region.binds md e with
    | false => rfl
    | true =>
      have h1 : (needL md l).testBit e.on = true := by
        rw [need_bit, List.any_eq_true]
        exact ⟨e, he, by simp [hb]⟩
      have h2 : (needL md l &&& mask).testBit e.on = true := by rw [hn]; exact h1
      rw [Nat.testBit_and, h.bit] at h2
      simp only [Bool.and_eq_true] at h2
      simp [h2.2]
theorem rdy1_spec {mask i : Nat} : ∀ (l : List Nat) (j : Nat), rdy1 mask i j l = true → ∀ k (hk : k < l.length), (!mask.testBit (j + k) && (l[k]'hk &&& mask == l[k]'hk)) = (j + k == i)
  | [], _, _, k, hk => by simp at hk
  | d :: r, j, h, k, hk => by
    simp only [rdy1, Bool.and_eq_true] at h
    cases k with
    | zero =>
      simp only [Nat.add_zero, List.getElem_cons_zero]
      by_cases e : j = i
      · subst e
        simp only [beq_self_eq_true, if_true, Bool.and_eq_true] at h
        simp [h.1.1, h.1.2]
      · have e' : (j == i) = false := by simpa using e
        rw [e'] at h ⊢
        have h1 := h.1
        simp only [if_false, Bool.false_eq_true, Bool.or_eq_true] at h1
        rcases h1 with h1 | h1
        · simp [h1]
        · have : (d &&& mask == d) = false := by simpa using h1
          rw [this, Bool.and_false]
    | succ k =>
      have := rdy1_spec r (j + 1) h.2 k (by simpa using hk)
      rw [show j + (k + 1) = j + 1 + k by omega]
      simpa using this
theorem filter_one (n i : Nat) (hi : i < n) (p : Nat → Bool) (hp : ∀ k, k < n → p k = (k == i)) : (List.range n).filter p = [i] := by
  have h1 : (List.range n).filter p = (List.range n).filter (· == i) := List.filter_congr fun k hk => hp k (List.mem_range.1 hk)
  rw [h1]
  have h2 : ∀ m, (List.range m).filter (· == i) = if i < m then [i] else [] := by
    intro m
    induction m with
    | zero => simp
    | succ m ih =>
      rw [List.range_succ, List.filter_append, ih]
      by_cases e : m = i
      · subst e; simp
      · have : ([m] : List Nat).filter (· == i) = [] := by simp [e]
        rw [this, List.append_nil]
        by_cases h : i < m
        · rw [if_pos h, if_pos (by omega)]
        · rw [if_neg h, if_neg (by omega)]
  rw [h2, if_pos hi]
theorem getD_ft {listed : Array Bool} {j n : Nat} (hs : listed.size = n) (h : j < n) : listed.getD j true = listed.getD j false := by
  simp [Array.getD_eq_getD_getElem?, show j < listed.size by omega]
theorem after_list (o : Oper) (md : Region.Mode) (listed : Array Bool) : (o.after.all fun e => !Region.binds md e || listed.getD e.on false) = (o.after.toList.all fun e => !Region.binds md e || listed.getD e.on false) := by
  rw [Array.all_toList]
theorem ready_bit {md : Region.Mode} {ops : Array Oper} {mask : Nat} {listed : Array Bool} (h : Rel ops.size mask listed) (j : Nat) (hj : j < ops.size) :
    (!listed.getD j true && ((ops[j]?).map (·.after.all fun e => !Region.binds md e || listed.getD e.on false)).getD false) = (!mask.testBit j && ((needsOf md ops)[j]'(by simpa [needsOf] using hj) &&& mask == (needsOf md ops)[j]'(by simpa [needsOf] using hj))) := by
  rw [getD_ft h.size hj, h.bit, Array.getElem?_eq_getElem hj]
  simp only [Option.map_some, Option.getD_some]
  rw [after_list, need_all h]
  simp [needsOf]
theorem okS_spec {md : Region.Mode} {ops : Array Oper} {needs : List Nat} (hn : needsOf md ops = needs) : ∀ (sched : List (Nat × Bool)) (mask : Nat) (listed : Array Bool), Rel ops.size mask listed → okS md ops needs sched mask listed = true → okSched md ops sched listed = true
  | [], mask, listed, h, hc => by
    simp only [okS, beq_iff_eq] at hc
    have hl : needs.length = ops.size := by rw [← hn]; simp [needsOf]
    simp only [okSched, Region.ready, List.isEmpty_iff, List.filter_eq_nil_iff]
    intro j hj
    have hj := List.mem_range.1 hj
    have : listed.getD j true = true := by
      rw [getD_ft h.size hj, ← h.bit, hc, Nat.testBit_two_pow_sub_one, hl]
      simpa using hj
    rw [this]
    simp
  | (i, t) :: r, mask, listed, h, hc => by
    simp only [okS, Bool.and_eq_true, decide_eq_true_eq] at hc
    obtain ⟨⟨⟨h1, h2⟩, h3⟩, h4⟩ := hc
    have hl : needs.length = ops.size := by rw [← hn]; simp [needsOf]
    have hi : i < ops.size := by omega
    have ih := okS_spec hn r _ _ (h.set hi) h4
    simp only [okSched, Bool.and_eq_true]
    refine ⟨⟨h1, ?_⟩, ih⟩
    cases t with
    | true =>
      simp only [if_true, Bool.and_eq_true] at h3 ⊢
      refine ⟨h3.1, ?_⟩
      have h5 := h3.2
      unfold rdyHas at h5
      rw [List.getElem?_eq_getElem (by omega)] at h5
      simp only [List.contains_iff_mem]
      unfold Region.ready
      rw [List.mem_filter]
      refine ⟨List.mem_range.2 hi, ?_⟩
      rw [ready_bit h i hi]
      subst hn
      exact h5
    | false =>
      simp only [if_false, Bool.false_eq_true, beq_iff_eq] at h3 ⊢
      unfold Region.ready
      refine filter_one _ _ hi _ fun k hk => ?_
      rw [ready_bit h k hk]
      subst hn
      have := rdy1_spec _ 0 h3 k (by rw [hl]; exact hk)
      simpa using this
def gdOk (g : Option (Tmp × Bool)) (t : Array Value) (p : Bool) : Prop :=
  match g with
  | none => p = true
  | some (d, b) => t[d]? = some (.bool (if p then b else !b))
/-- The operations, one after the other: those that are taken first yield what they yield in every world of S. -/
def seqH (P : Program) (S : World → Prop) (Q : Exit → Act → World → Prop) : List It → Act → World → Prop
  | [], a, w => Q .normal a w
  | x :: r, a, w => (gdOk x.gd a.tmps false ∧ S w ∧ seqH P S Q r (a.put x.dst undef) w) ∨
    (gdOk x.gd a.tmps true ∧ if x.take then ∃ v, (∀ w, S w → (execOp a.eval (mkO x)).run P w = .ok (.value v) w) ∧ S w ∧ seqH P S Q r (a.put x.dst v) w
      else (∃ f args, (execOp a.eval (mkO x)).run P w = .ok (.enter f args) w ∧ Calls P f args w fun e w' => (∃ v, e = .returned v ∧ S w' ∧ seqH P S Q r (a.put x.dst v) w') ∨ ∃ c, e = .panicked c ∧ Q (.panic c) a w') ∨
        (∃ v w', (execOp a.eval (mkO x)).run P w = .ok (.value v) w' ∧ S w' ∧ seqH P S Q r (a.put x.dst v) w') ∨
        (∃ w', (execOp a.eval (mkO x)).run P w = .ok .skip w' ∧ S w' ∧ seqH P S Q r (a.put x.dst undef) w'))

section
variable {P : Program} {md : Region.Mode} {ops : Array Oper} {Q : Exit → Act → World → Prop} {S : World → Prop}
theorem execOp_congr {ρ : Operand → Value} {o o' : Oper} (h : o.op = o'.op) (ht : o.type = o'.type) : execOp ρ o = execOp ρ o' := by
  cases o; cases o'
  simp only at h ht
  subst h ht
  rfl
theorem itemOf_spec {i : Nat} {t : Bool} {x : It} (h : itemOf ops i t = some x) : ∃ o, ops[i]? = some o ∧ x.op = o.op ∧ x.dst = o.dst ∧ x.ty = o.type ∧ x.take = t ∧
    ∀ (T : Array Value) (p : Bool), gdOk x.gd T p → Region.wanted o (yielded ops T) = p := by
  unfold itemOf at h
  cases ho : ops[i]? with
  | none => rw [ho] at h; cases h
  | some o =>
    rw [ho] at h
    simp only at h
    cases hg : o.guard with
    | none =>
      rw [hg] at h
      simp only [Option.some.injEq] at h
      subst h
      refine ⟨o, rfl, rfl, rfl, rfl, rfl, fun T p hp => ?_⟩
      simp only [gdOk] at hp
      unfold Region.wanted
      rw [hg, hp]
    | some gb =>
      obtain ⟨g, b⟩ := gb
      rw [hg] at h
      simp only at h
      cases hd : (ops[g]?).bind (·.dst) with
      | none => rw [hd] at h; cases h
      | some d =>
        rw [hd] at h
        simp only [Option.some.injEq] at h
        subst h
        refine ⟨o, rfl, rfl, rfl, rfl, rfl, fun T p hp => ?_⟩
        simp only [gdOk] at hp
        have hy : yielded ops T g = some (if p then b else !b) := by
          unfold yielded
          rw [hd]
          simp only [Option.bind_some]
          rw [hp]
        unfold Region.wanted
        rw [hg]
        simp only [hy]
        cases p <;> cases b <;> rfl
theorem seq_any (hs : Region.noSelect ops = true) : ∀ (sched : List (Nat × Bool)) (listed : Array Bool) (a : Act) (w : World), okSched md ops sched listed = true →
    (∀ x ∈ itemsOf ops sched, ∀ c a v w, Q (.panic c) (a.put x.dst v) w → Q (.panic c) a w) → seqH P S Q (itemsOf ops sched) a w → wpAnyH P md ops Q S sched.length listed a w
  | [], listed, a, w, hc, _, h => by
    simp only [okSched, List.isEmpty_iff] at hc
    exact ⟨hc, h⟩
  | (i, t) :: r, listed, a, w, hc, hp, h => by
    simp only [okSched, Bool.and_eq_true] at hc
    obtain ⟨⟨h1, h2⟩, h3⟩ := hc
    obtain ⟨x, hx⟩ := Option.isSome_iff_exists.1 h1
    obtain ⟨o, ho, e1, e2, e3, e4, hw⟩ := itemOf_spec hx
    have hit : itemsOf ops ((i, t) :: r) = x :: itemsOf ops r := by simp only [itemsOf, hx]
    rw [hit] at hp h
    have he : ∀ ρ, execOp ρ (mkO x) = execOp ρ o := fun ρ => execOp_congr e1 e3
    have ih := fun a w => seq_any hs r (listed.setIfInBounds i true) a w h3 (fun y hy => hp y (List.mem_cons_of_mem _ hy))
    have hpx := hp x List.mem_cons_self
    simp only [seqH] at h
    rw [e2] at h hpx
    rcases h with ⟨hg, hS, h⟩ | ⟨hg, h⟩
    · have hwn := hw _ _ hg
      cases t with
      | true =>
        simp only [if_true, Bool.and_eq_true] at h2
        exact wpAnyH_take ho hs h2.1 h2.2 (fun c a w => hpx c a undef w) (.inr ⟨hwn, rfl⟩) hS (ih _ _ h)
      | false =>
        simp only [if_false, Bool.false_eq_true] at h2
        refine wpAnyH_all (eq_of_beq h2) (by simp) fun j hj => ?_
        obtain rfl : j = i := by simpa using hj
        unfold wpOp
        simp only [ho, hwn, if_false, Bool.false_eq_true]
        exact ⟨hS, ih _ _ h⟩
    · have hwn := hw _ _ hg
      cases t with
      | true =>
        simp only [e4, if_true] at h
        simp only [if_true, Bool.and_eq_true] at h2
        obtain ⟨v, hv, hS, h⟩ := h
        exact wpAnyH_take ho hs h2.1 h2.2 (fun c a w => hpx c a v w) (.inl ⟨hwn, fun w hS => he _ ▸ hv w hS⟩) hS (ih _ _ h)
      | false =>
        simp only [e4, if_false, Bool.false_eq_true] at h
        simp only [if_false, Bool.false_eq_true] at h2
        refine wpAnyH_all (eq_of_beq h2) (by simp) fun j hj => ?_
        obtain rfl : j = i := by simpa using hj
        unfold wpOp
        simp only [ho, hwn, if_true]
        left
        unfold Oper.wp
        rcases h with ⟨f, args, hr, hcall⟩ | ⟨v, w', hr, hS, h⟩ | ⟨w', hr, hS, h⟩
        · rw [he] at hr
          rw [hr]
          refine Calls.mono hcall fun e w' hq => ?_
          rcases hq with ⟨v, rfl, hS, hq⟩ | ⟨c, rfl, hq⟩
          · exact ⟨hS, ih _ _ hq⟩
          · exact hq
        · rw [he] at hr
          rw [hr]
          exact ⟨hS, ih _ _ h⟩
        · rw [he] at hr
          rw [hr]
          exact ⟨hS, ih _ _ h⟩
end
def regOps : Code → Array Oper
  | .region _ ops _ => ops
  | _ => #[]
section
variable {P : Program} {r : Option Nat} {Q : Exit → Array Value → World → Prop} {t : Array Value} {w : World}
theorem put_defers {a : Act} {d : Option Tmp} {v : Value} {ds : List Deferred} (h : (a.put d v).defers = ds) : a.defers = ds := by cases d <;> exact h
theorem region_sched {c : Code} {id : Nat} (sched : List (Nat × Bool)) (L : List It) (hL : itemsOf (regOps c) sched = L) (hc : c = .region id (regOps c) true) (hm : P.follows .mixedOrders = true)
    (hnd : (regOps c).all (fun o => !isDefer o.op) = true) (hns : Region.noSelect (regOps c) = true) (hlen : sched.length = (regOps c).size) (needs : List Nat) (hneeds : needsOf .any (regOps c) = needs) (hchk' : okS .any (regOps c) needs sched 0 (Array.replicate (regOps c).size false) = true)
    (S : World → Prop) (Pn : List PanicEntry → Array Value → World → Prop) (hPn : ∀ c t W, Pn c t W → Q (.panic c) t W)
    (hput : ∀ x ∈ L, ∀ c (a : Act) v W, Pn c (a.put x.dst v).tmps W → Pn c a.tmps W)
    (h : ∀ ds (Q' : Exit → Act → World → Prop), (∀ t W, Keep w W → Q .normal t W → Q' .normal { tmps := t, defers := ds } W) → (∀ c t W, Keep w W → Pn c t W → Q' (.panic c) { tmps := t, defers := ds } W) →
      seqH P S Q' (L.drop 0) { tmps := t, defers := ds } w.drew) : Exec P r c t w Q := by
  intro hc' ds
  have hchk := okS_spec hneeds sched 0 _ ⟨by simp, fun j => by rw [Nat.zero_testBit, Array.getD_eq_getD_getElem?, Array.getElem?_replicate]; split <;> rfl⟩ hchk'
  clear hchk' hneeds
  generalize hops : regOps c = ops at *
  subst hL
  rw [hc]
  refine wpIn_mono (Q := fun e a W => match e with
        | .normal => a.defers = ds ∧ Keep w W ∧ Q .normal a.tmps W
        | .panic c => a.defers = ds ∧ Keep w W ∧ Pn c a.tmps W
        | _ => False) ?_ ?_
  · refine wpIn_region_draw fun tt => ?_
    simp only [Region.schedule, hm, Bool.true_or, if_true]
    refine ops_in hnd (fun a W hq => hq) _ _ _ (wpAny_sound ops.size tt _ _ _ (wpAny_of_held (S := S) _ _ _ _ ?_))
    have := h ds (fun e a W => match e with
        | .normal => a.defers = ds ∧ Keep w W ∧ Q .normal a.tmps W
        | .panic c => a.defers = ds ∧ Keep w W ∧ Pn c a.tmps W
        | _ => False) (fun t W hk hq => ⟨rfl, hk, hq⟩) (fun c t W hk hq => ⟨rfl, hk, hq⟩)
    rw [List.drop_zero] at this
    rw [show Array.replicate ops.size false = Array.replicate ops.size false from rfl]
    conv => arg 6; rw [← hlen]
    refine seq_any hns sched _ _ _ hchk (fun x hx c a v W hq => ?_) this
    exact ⟨put_defers hq.1, hq.2.1, hput x hx c a v W hq.2.2⟩
  · rintro e a W hq
    cases e with
    | normal => exact ⟨hq.2.1, ⟨[], hq.1, trivial⟩, hq.2.2⟩
    | panic c => exact ⟨hq.2.1, ⟨[], hq.1, trivial⟩, hPn _ _ _ hq.2.2⟩
    | exit id => exact hq.elim
    | goto l => exact hq.elim
    | ret => exact hq.elim
    | outgrown => exact hq.elim
end
section
variable {P : Program} {Q : Exit → Act → World → Prop} {S : World → Prop} {L : List It} {a : Act} {w : World}
theorem drop_cons {L : List It} {k : Nat} {x : It} (h : L[k]? = some x) : L.drop k = x :: L.drop (k + 1) := by
  obtain ⟨hk, e⟩ := List.getElem?_eq_some_iff.1 h
  rw [← e, List.drop_eq_getElem_cons hk]
theorem sq_take (k : Nat) (x : It) (v : Value) (hx : L[k]? = some x) (ht : x.take = true) (hg : gdOk x.gd a.tmps true) (hv : ∀ w, S w → (execOp a.eval (mkO x)).run P w = .ok (.value v) w) (hS : S w)
    (h : seqH P S Q (L.drop (k + 1)) (a.put x.dst v) w) : seqH P S Q (L.drop k) a w := by
  rw [drop_cons hx]
  exact .inr ⟨hg, by rw [if_pos ht]; exact ⟨v, hv, hS, h⟩⟩
theorem sq_call (k : Nat) (x : It) {f : FuncId} {args : Array Value} (hx : L[k]? = some x) (ht : x.take = false) (hg : gdOk x.gd a.tmps true) (he : (execOp a.eval (mkO x)).run P w = .ok (.enter f args) w)
    (hc : Calls P f args w fun e w' => (∃ v, e = .returned v ∧ S w' ∧ seqH P S Q (L.drop (k + 1)) (a.put x.dst v) w') ∨ ∃ c, e = .panicked c ∧ Q (.panic c) a w') : seqH P S Q (L.drop k) a w := by
  rw [drop_cons hx]
  exact .inr ⟨hg, by rw [if_neg (by simp [ht])]; exact .inl ⟨f, args, he, hc⟩⟩
theorem sq_make (k : Nat) (x : It) (v : Value) (w' : World) (hx : L[k]? = some x) (ht : x.take = false) (hg : gdOk x.gd a.tmps true) (he : (execOp a.eval (mkO x)).run P w = .ok (.value v) w') (hS : S w')
    (h : seqH P S Q (L.drop (k + 1)) (a.put x.dst v) w') : seqH P S Q (L.drop k) a w := by
  rw [drop_cons hx]
  exact .inr ⟨hg, by rw [if_neg (by simp [ht])]; exact .inr (.inl ⟨v, w', he, hS, h⟩)⟩
theorem sq_done (k : Nat) (hk : L.length ≤ k) (h : Q .normal a w) : seqH P S Q (L.drop k) a w := by
  rw [List.drop_eq_nil_of_le hk]
  exact h
end
end Go.TL
end

section
set_option linter.unusedVariables false
set_option linter.unusedSimpArgs false
namespace Go.TL
open Go Go.RowKit
inductive Sch where
  | nil : Sch
  | one : Nat → Bool → Sch → Sch
  | two : Nat → Nat → Sch → Sch → Sch
  | three : Nat → Nat → Nat → Sch → Sch → Sch → Sch
def rdyL (mask : Nat) (l : List Nat) : Nat → List Nat → Bool
  | _, [] => true
  | j, d :: r => (l.contains j || mask.testBit j || !(d &&& mask == d)) && rdyL mask l (j + 1) r
def okT (md : Region.Mode) (ops : Array Oper) (needs : List Nat) : Sch → Nat → Array Bool → Bool
  | .nil, mask, _ => mask == 2 ^ needs.length - 1
  | .one i t r, mask, listed => (itemOf ops i t).isSome && decide (i < needs.length) && (if t then Region.free md ops listed i && rdyHas mask i needs else rdyHas mask i needs && rdyL mask [i] 0 needs) && okT md ops needs r (mask ||| 2 ^ i) (listed.setIfInBounds i true)
  | .two i j a b, mask, listed => (itemOf ops i false).isSome && (itemOf ops j false).isSome && decide (i < needs.length) && decide (j < needs.length) && rdyHas mask i needs && rdyL mask [i, j] 0 needs && okT md ops needs a (mask ||| 2 ^ i) (listed.setIfInBounds i true) && okT md ops needs b (mask ||| 2 ^ j) (listed.setIfInBounds j true)
  | .three i j k a b c, mask, listed => (itemOf ops i false).isSome && (itemOf ops j false).isSome && (itemOf ops k false).isSome && decide (i < needs.length) && decide (j < needs.length) && decide (k < needs.length) && rdyHas mask i needs && rdyL mask [i, j, k] 0 needs && okT md ops needs a (mask ||| 2 ^ i) (listed.setIfInBounds i true) && okT md ops needs b (mask ||| 2 ^ j) (listed.setIfInBounds j true) && okT md ops needs c (mask ||| 2 ^ k) (listed.setIfInBounds k true)
/-- One operation, and what follows. -/
def stepX (P : Program) (S : World → Prop) (Q : Exit → Act → World → Prop) (x : It) (K : Act → World → Prop) (a : Act) (w : World) : Prop :=
  (gdOk x.gd a.tmps false ∧ S w ∧ K (a.put x.dst undef) w) ∨
    (gdOk x.gd a.tmps true ∧ if x.take then ∃ v, (∀ w, S w → (execOp a.eval (mkO x)).run P w = .ok (.value v) w) ∧ S w ∧ K (a.put x.dst v) w
      else (∃ f args, (execOp a.eval (mkO x)).run P w = .ok (.enter f args) w ∧ Calls P f args w fun e w' => (∃ v, e = .returned v ∧ S w' ∧ K (a.put x.dst v) w') ∨ ∃ c, e = .panicked c ∧ Q (.panic c) a w') ∨
        (∃ v w', (execOp a.eval (mkO x)).run P w = .ok (.value v) w' ∧ S w' ∧ K (a.put x.dst v) w') ∨
        (∃ w', (execOp a.eval (mkO x)).run P w = .ok .skip w' ∧ S w' ∧ K (a.put x.dst undef) w'))
def stepN (P : Program) (ops : Array Oper) (S : World → Prop) (Q : Exit → Act → World → Prop) (i : Nat) (t : Bool) (K : Act → World → Prop) (a : Act) (w : World) : Prop := ∃ x, itemOf ops i t = some x ∧ stepX P S Q x K a w
def seqT (P : Program) (ops : Array Oper) (S : World → Prop) (Q : Exit → Act → World → Prop) : Sch → Act → World → Prop
  | .nil, a, w => Q .normal a w
  | .one i t r, a, w => stepN P ops S Q i t (seqT P ops S Q r) a w
  | .two i j x y, a, w => stepN P ops S Q i false (seqT P ops S Q x) a w ∧ stepN P ops S Q j false (seqT P ops S Q y) a w
  | .three i j k x y z, a, w => stepN P ops S Q i false (seqT P ops S Q x) a w ∧ stepN P ops S Q j false (seqT P ops S Q y) a w ∧ stepN P ops S Q k false (seqT P ops S Q z) a w
def lenT : Sch → Nat
  | .nil => 0
  | .one _ _ r => lenT r + 1
  | .two _ _ a _ => lenT a + 1
  | .three _ _ _ a _ _ => lenT a + 1
def evenT : Sch → Bool
  | .nil => true
  | .one _ _ r => evenT r
  | .two _ _ a b => evenT a && evenT b && lenT a == lenT b
  | .three _ _ _ a b c => evenT a && evenT b && evenT c && lenT a == lenT b && lenT a == lenT c
section
variable {P : Program} {md : Region.Mode} {ops : Array Oper} {Q : Exit → Act → World → Prop} {S : World → Prop}
theorem rdyL_spec {mask : Nat} {s : List Nat} : ∀ (l : List Nat) (j : Nat), rdyL mask s j l = true → ∀ k (hk : k < l.length), (!mask.testBit (j + k) && (l[k]'hk &&& mask == l[k]'hk)) = true → j + k ∈ s
  | [], _, _, k, hk, _ => by simp at hk
  | d :: r, j, h, k, hk, hb => by
    simp only [rdyL, Bool.and_eq_true] at h
    cases k with
    | zero =>
      simp only [Nat.add_zero, List.getElem_cons_zero, Bool.and_eq_true, Bool.not_eq_true'] at hb ⊢
      have h1 := h.1
      rw [hb.1, hb.2] at h1
      simpa using h1
    | succ k =>
      have := rdyL_spec r (j + 1) h.2 k (by simpa using hk) (by rw [show j + 1 + k = j + (k + 1) by omega]; simpa using hb)
      rw [show j + (k + 1) = j + 1 + k by omega]
      exact this
theorem ready_mem {mask : Nat} {listed : Array Bool} {needs : List Nat} (hn : needsOf md ops = needs) (h : Rel ops.size mask listed) (k : Nat) : k ∈ Region.ready md ops listed ↔ k < ops.size ∧ rdyHas mask k needs = true := by
  have hl : needs.length = ops.size := by rw [← hn]; simp [needsOf]
  unfold Region.ready
  rw [List.mem_filter, List.mem_range]
  constructor
  · rintro ⟨h1, h2⟩
    rw [ready_bit h k h1] at h2
    refine ⟨h1, ?_⟩
    unfold rdyHas
    subst hn
    rw [List.getElem?_eq_getElem (by omega)]
    exact h2
  · rintro ⟨h1, h2⟩
    refine ⟨h1, ?_⟩
    rw [ready_bit h k h1]
    unfold rdyHas at h2
    subst hn
    rw [List.getElem?_eq_getElem (by omega)] at h2
    exact h2
theorem rdyHas_bit {mask k : Nat} {needs : List Nat} (hk : k < needs.length) (h : rdyHas mask k needs = true) : (!mask.testBit (0 + k) && (needs[k]'hk &&& mask == needs[k]'hk)) = true := by
  unfold rdyHas at h
  rw [List.getElem?_eq_getElem hk] at h
  rw [Nat.zero_add]
  exact h
theorem any_mem {listed : Array Bool} {a : Act} {w : World} {fuel : Nat} {i : Nat} (hi : i ∈ Region.ready md ops listed) (h : ∀ k ∈ Region.ready md ops listed, wpOp P ops Q k (fun a' w' => S w' ∧ wpAnyH P md ops Q S fuel (listed.setIfInBounds k true) a' w') a w) : wpAnyH P md ops Q S (fuel + 1) listed a w :=
  ⟨fun h0 => absurd hi (by rw [h0]; simp), h⟩
theorem step_op {i : Nat} {x : It} {a : Act} {w : World} {K K' : Act → World → Prop} (hx : itemOf ops i false = some x) (h : stepX P S Q x K a w) (hK : ∀ a w, K a w → K' a w) : wpOp P ops Q i (fun a' w' => S w' ∧ K' a' w') a w := by
  obtain ⟨o, ho, e1, e2, e3, e4, hw⟩ := itemOf_spec hx
  have he : ∀ ρ, execOp ρ (mkO x) = execOp ρ o := fun ρ => execOp_congr e1 e3
  unfold stepX at h
  rw [e2] at h
  unfold wpOp
  rcases h with ⟨hg, hS, h⟩ | ⟨hg, h⟩
  · have hwn := hw _ _ hg
    simp only [ho, hwn, if_false, Bool.false_eq_true]
    exact ⟨hS, hK _ _ h⟩
  · have hwn := hw _ _ hg
    simp only [e4, if_false, Bool.false_eq_true] at h
    simp only [ho, hwn, if_true]
    left
    unfold Oper.wp
    rcases h with ⟨f, args, hr, hcall⟩ | ⟨v, w', hr, hS, h⟩ | ⟨w', hr, hS, h⟩
    · rw [he] at hr
      rw [hr]
      refine Calls.mono hcall fun e w' hq => ?_
      rcases hq with ⟨v, rfl, hS, hq⟩ | ⟨c, rfl, hq⟩
      · exact ⟨hS, hK _ _ hq⟩
      · exact hq
    · rw [he] at hr
      rw [hr]
      exact ⟨hS, hK _ _ h⟩
    · rw [he] at hr
      rw [hr]
      exact ⟨hS, hK _ _ h⟩
theorem tree_any (hs : Region.noSelect ops = true) {needs : List Nat} (hn : needsOf md ops = needs) (hp : ∀ i t x, itemOf ops i t = some x → ∀ c a v w, Q (.panic c) (a.put x.dst v) w → Q (.panic c) a w) :
    ∀ (T : Sch) (mask : Nat) (listed : Array Bool) (a : Act) (w : World), Rel ops.size mask listed → okT md ops needs T mask listed = true → evenT T = true → seqT P ops S Q T a w → wpAnyH P md ops Q S (lenT T) listed a w := by
  have hl : needs.length = ops.size := by rw [← hn]; simp [needsOf]
  intro T
  induction T with
  | nil =>
    intro mask listed a w h hc _ hq
    simp only [okT, beq_iff_eq] at hc
    refine ⟨?_, hq⟩
    rw [List.eq_nil_iff_forall_not_mem]
    intro k hk
    obtain ⟨h1, h2⟩ := (ready_mem hn h k).1 hk
    have := rdyHas_bit (by omega) h2
    rw [hc, Nat.testBit_two_pow_sub_one] at this
    simp only [Bool.and_eq_true, Bool.not_eq_true', decide_eq_false_iff_not] at this
    exact this.1 (by omega)
  | one i t r ih =>
    intro mask listed a w h hc he hq
    simp only [okT, Bool.and_eq_true, decide_eq_true_eq] at hc
    obtain ⟨⟨⟨h1, h2⟩, h3⟩, h4⟩ := hc
    obtain ⟨x, hx, hq⟩ := hq
    have hi : i < ops.size := by omega
    have ih' := fun a w => ih _ _ a w (h.set hi) h4 he
    cases t with
    | false =>
      simp only [if_false, Bool.false_eq_true, Bool.and_eq_true] at h3
      refine any_mem ((ready_mem hn h i).2 ⟨hi, h3.1⟩) fun k hk => ?_
      obtain ⟨k1, k2⟩ := (ready_mem hn h k).1 hk
      have := rdyL_spec needs 0 h3.2 k (by omega) (rdyHas_bit (by omega) k2)
      obtain rfl : k = i := by simpa using this
      exact step_op hx hq ih'
    | true =>
      simp only [if_true, Bool.and_eq_true] at h3
      obtain ⟨o, ho, e1, e2, e3, e4, hw⟩ := itemOf_spec hx
      have heq : ∀ ρ, execOp ρ (mkO x) = execOp ρ o := fun ρ => execOp_congr e1 e3
      have hpx := hp i true x hx
      unfold stepX at hq
      rw [e2] at hq hpx
      have hr : (Region.ready md ops listed).contains i = true := by simpa using (ready_mem hn h i).2 ⟨hi, h3.2⟩
      rcases hq with ⟨hg, hS, hq⟩ | ⟨hg, hq⟩
      · exact wpAnyH_take ho hs h3.1 hr (fun c a w => hpx c a undef w) (.inr ⟨hw _ _ hg, rfl⟩) hS (ih' _ _ hq)
      · simp only [e4, if_true] at hq
        obtain ⟨v, hv, hS, hq⟩ := hq
        exact wpAnyH_take ho hs h3.1 hr (fun c a w => hpx c a v w) (.inl ⟨hw _ _ hg, fun w hS => heq _ ▸ hv w hS⟩) hS (ih' _ _ hq)
  | two i j x y ihx ihy =>
    intro mask listed a w h hc he hq
    simp only [okT, Bool.and_eq_true, decide_eq_true_eq] at hc
    simp only [evenT, Bool.and_eq_true, beq_iff_eq] at he
    obtain ⟨⟨⟨⟨⟨⟨⟨h1, h2⟩, h3⟩, h4⟩, h5⟩, h6⟩, h7⟩, h8⟩ := hc
    obtain ⟨⟨e1, e2⟩, e3⟩ := he
    obtain ⟨⟨x1, hx1, q1⟩, ⟨x2, hx2, q2⟩⟩ := hq
    refine any_mem ((ready_mem hn h i).2 ⟨by omega, h5⟩) fun k hk => ?_
    obtain ⟨k1, k2⟩ := (ready_mem hn h k).1 hk
    have := rdyL_spec needs 0 h6 k (by omega) (rdyHas_bit (by omega) k2)
    simp only [Nat.zero_add, List.mem_cons, List.not_mem_nil, or_false] at this
    rcases this with rfl | rfl
    · exact step_op hx1 q1 fun a w => ihx _ _ a w (h.set (by omega)) h7 e1
    · exact step_op hx2 q2 fun a w hh => by
        have := ihy _ _ a w (h.set (by omega)) h8 e2 hh
        rw [← e3] at this
        exact this
  | three i j l x y z ihx ihy ihz =>
    intro mask listed a w h hc he hq
    simp only [okT, Bool.and_eq_true, decide_eq_true_eq] at hc
    simp only [evenT, Bool.and_eq_true, beq_iff_eq] at he
    obtain ⟨⟨⟨⟨⟨⟨⟨⟨⟨⟨h1, h2⟩, h2'⟩, h3⟩, h4⟩, h4'⟩, h5⟩, h6⟩, h7⟩, h8⟩, h9⟩ := hc
    obtain ⟨⟨⟨⟨e1, e2⟩, e2'⟩, e3⟩, e4⟩ := he
    obtain ⟨⟨x1, hx1, q1⟩, ⟨x2, hx2, q2⟩, ⟨x3, hx3, q3⟩⟩ := hq
    refine any_mem ((ready_mem hn h i).2 ⟨by omega, h5⟩) fun k hk => ?_
    obtain ⟨k1, k2⟩ := (ready_mem hn h k).1 hk
    have := rdyL_spec needs 0 h6 k (by omega) (rdyHas_bit (by omega) k2)
    simp only [Nat.zero_add, List.mem_cons, List.not_mem_nil, or_false] at this
    rcases this with rfl | rfl | rfl
    · exact step_op hx1 q1 fun a w => ihx _ _ a w (h.set (by omega)) h7 e1
    · exact step_op hx2 q2 fun a w hh => by
        have := ihy _ _ a w (h.set (by omega)) h8 e2 hh
        rw [← e3] at this
        exact this
    · exact step_op hx3 q3 fun a w hh => by
        have := ihz _ _ a w (h.set (by omega)) h9 e2' hh
        rw [← e4] at this
        exact this
end
section
variable {P : Program} {r : Option Nat} {Q : Exit → Array Value → World → Prop} {t : Array Value} {w : World}
def Opq (ops : Array Oper) : Array Oper := ops
theorem region_tree {c : Code} {id : Nat} (T : Sch) (ops : Array Oper) (hops : regOps c = ops) (hc : c = .region id (regOps c) true) (hm : P.follows .mixedOrders = true)
    (hnd : (regOps c).all (fun o => !isDefer o.op) = true) (hns : Region.noSelect (regOps c) = true) (hlen : lenT T = (regOps c).size) (heven : evenT T = true) (needs : List Nat) (hneeds : needsOf .any (regOps c) = needs) (hchk : okT .any (regOps c) needs T 0 (Array.replicate (regOps c).size false) = true)
    (S : World → Prop) (Pn : List PanicEntry → Array Value → World → Prop) (hPn : ∀ c t W, Pn c t W → Q (.panic c) t W)
    (hput : ∀ i t x, itemOf (regOps c) i t = some x → ∀ c (a : Act) v W, Pn c (a.put x.dst v).tmps W → Pn c a.tmps W)
    (h : ∀ ds (Q' : Exit → Act → World → Prop), (∀ t W, Keep w W → Q .normal t W → Q' .normal { tmps := t, defers := ds } W) → (∀ c t W, Keep w W → Pn c t W → Q' (.panic c) { tmps := t, defers := ds } W) →
      seqT P ops S Q' T { tmps := t, defers := ds } w.drew) : Exec P r c t w Q := by
  intro hc' ds
  subst hops
  generalize hops : regOps c = ops at *
  rw [hc]
  refine wpIn_mono (Q := fun e a W => match e with
        | .normal => a.defers = ds ∧ Keep w W ∧ Q .normal a.tmps W
        | .panic c => a.defers = ds ∧ Keep w W ∧ Pn c a.tmps W
        | _ => False) ?_ ?_
  · refine wpIn_region_draw fun tt => ?_
    simp only [Region.schedule, hm, Bool.true_or, if_true]
    refine ops_in hnd (fun a W hq => hq) _ _ _ (wpAny_sound ops.size tt _ _ _ (wpAny_of_held (S := S) _ _ _ _ ?_))
    have := h ds (fun e a W => match e with
        | .normal => a.defers = ds ∧ Keep w W ∧ Q .normal a.tmps W
        | .panic c => a.defers = ds ∧ Keep w W ∧ Pn c a.tmps W
        | _ => False) (fun t W hk hq => ⟨rfl, hk, hq⟩) (fun c t W hk hq => ⟨rfl, hk, hq⟩)
    have h2 := tree_any (S := S) (P := P) hns hneeds (fun i t x hx c a v W hq => ⟨put_defers hq.1, hq.2.1, hput i t x hx c a v W hq.2.2⟩) T 0 (Array.replicate ops.size false) _ _ ⟨by simp, fun j => by rw [Nat.zero_testBit, Array.getD_eq_getD_getElem?, Array.getElem?_replicate]; split <;> rfl⟩ hchk heven this
    rw [hlen] at h2
    exact h2
  · rintro e a W hq
    cases e with
    | normal => exact ⟨hq.2.1, ⟨[], hq.1, trivial⟩, hq.2.2⟩
    | panic c => exact ⟨hq.2.1, ⟨[], hq.1, trivial⟩, hPn _ _ _ hq.2.2⟩
    | exit id => exact hq.elim
    | goto l => exact hq.elim
    | ret => exact hq.elim
    | outgrown => exact hq.elim
end
section
variable {P : Program} {ops : Array Oper} {Q : Exit → Act → World → Prop} {S : World → Prop} {K : Act → World → Prop} {a : Act} {w : World} {i : Nat}
theorem tr_take (x : It) (v : Value) (hx : itemOf ops i true = some x) (ht : x.take = true) (hg : gdOk x.gd a.tmps true) (hv : ∀ w, S w → (execOp a.eval (mkO x)).run P w = .ok (.value v) w) (hS : S w) (h : K (a.put x.dst v) w) : stepN P ops S Q i true K a w :=
  ⟨x, hx, .inr ⟨hg, by rw [if_pos ht]; exact ⟨v, hv, hS, h⟩⟩⟩
theorem tr_call (x : It) {f : FuncId} {args : Array Value} (hx : itemOf ops i false = some x) (ht : x.take = false) (hg : gdOk x.gd a.tmps true) (he : (execOp a.eval (mkO x)).run P w = .ok (.enter f args) w)
    (hc : Calls P f args w fun e w' => (∃ v, e = .returned v ∧ S w' ∧ K (a.put x.dst v) w') ∨ ∃ c, e = .panicked c ∧ Q (.panic c) a w') : stepN P ops S Q i false K a w :=
  ⟨x, hx, .inr ⟨hg, by rw [if_neg (by simp [ht])]; exact .inl ⟨f, args, he, hc⟩⟩⟩
theorem tr_make (x : It) (v : Value) (w' : World) (hx : itemOf ops i false = some x) (ht : x.take = false) (hg : gdOk x.gd a.tmps true) (he : (execOp a.eval (mkO x)).run P w = .ok (.value v) w') (hS : S w') (h : K (a.put x.dst v) w') : stepN P ops S Q i false K a w :=
  ⟨x, hx, .inr ⟨hg, by rw [if_neg (by simp [ht])]; exact .inr (.inl ⟨v, w', he, hS, h⟩)⟩⟩
theorem tr_store (x : It) (w' : World) (hx : itemOf ops i false = some x) (ht : x.take = false) (hg : gdOk x.gd a.tmps true) (he : (execOp a.eval (mkO x)).run P w = .ok .skip w') (hS : S w') (h : K (a.put x.dst undef) w') : stepN P ops S Q i false K a w :=
  ⟨x, hx, .inr ⟨hg, by rw [if_neg (by simp [ht])]; exact .inr (.inr ⟨w', he, hS, h⟩)⟩⟩
end
end Go.TL
end

section
namespace Go.Proofs.Ytafmgmaelnpehaa.PFurrowAsks
open Go.RowKit Go.Proofs.YtafmgmaelnpehaaW.PrintWords Go.Proofs.YtafmgmaelnpehaaW.PrintLast Go.Proofs.YtafmgmaelnpehaaW.PrintMore
attribute [local go_sem] max2_int min2_int max_two min_two max_three min_three max_four min_four   -- for this text's walks alone
set_option linter.unusedVariables false
set_option linter.unusedSimpArgs false

/-! ### furrow_span_within: function 104 -/
def furrow_span_within.f (a0_0 : Int) (a0_1 : Int) (a1 : Int) (a2 : Int) : Option (Bool) := if a1 ≤ a0_0 then (if a0_0 ≤ a0_1 then (some (decide (a0_1 ≤ a2))) else (some false)) else (some false)
set_option maxHeartbeats 8000000 in
set_option maxRecDepth 100000 in
theorem furrow_span_within.calls (a0_0 : Int) (a0_1 : Int) (a1 : Int) (a2 : Int) (r : Bool) (w : World) (h : furrow_span_within.f a0_0 a0_1 a1 a2 = some r) :
    Calls Try.prog 104 #[.agg #[.int .i64 a0_0, .int .i64 a0_1], .int .i64 a1, .int .i64 a2] w fun e w' => e = .returned (.bool r) ∧ Below w.heap.size w w' := by
  have hu89 := Try.underlying89
  have HB := Aside0.mk (Below.refl w.heap.size w)
  have H : (if a1 ≤ a0_0 then (if a0_0 ≤ a0_1 then (some (decide (a0_1 ≤ a2))) else (some false)) else (some false)) = some r := h
  clear h
  by_cases c4 : a1 ≤ a0_0
  · rw [if_pos c4] at H
    have c4b0 : decide (a1 ≤ a0_0) = true := decide_eq_true c4
    clear c4
    by_cases c5 : a0_0 ≤ a0_1
    · rw [if_pos c5] at H
      have c5b0 : decide (a0_0 ≤ a0_1) = true := decide_eq_true c5
      clear c5
      obtain rfl := Option.some.inj H
      go_enter Try.func104, Try.ntmps104
      go_wp2_with (first | ((with_reducible refine gate_dst (N := 3) rfl ?_); refine box_event ?hg (N := 3) ?hd (cs := #[.int .i64 a0_0, .int .i64 a0_1]) (t := 89) ?hr ?_; (case hd => rfl); (case hg => rfl); (case hr => first | (go_simp; done) | (go_simp; rfl)); intro gb110 hg w6 hbox hb; have n0_ := Aside0.mk (below_step (by repeat (first | (with_reducible first | exact HB.out | apply below_alloc | apply pw_below_drewN | apply below_drew1) | exact HB.out)) hb); have n1_ := Aside0.mk (hbox); have n2_ := Aside0.mk ((by rw [hg]; exact (below_size (by repeat (first | (with_reducible first | exact HB.out | apply below_alloc | apply pw_below_drewN | apply below_drew1) | exact HB.out))) : w.heap.size ≤ gb110)); have n3_ := Aside0.mk ((by rw [hg]; exact (below_size (by repeat (first | (with_reducible first | exact HB.out | apply below_alloc | apply pw_below_drewN | apply below_drew1) | exact HB.out))) : w.heap.size ≤ gb110)); clear HB; have HB := n0_; have BK110 := n1_; have GW110 := n2_; have GE110 := n3_; clear n0_ n1_ n2_ n3_; clear hb hbox hg; have hcz7_0 : w6.cell? ⟨gb110, 0, none⟩ = some (.int .i64 a0_0) := (blk_cell BK110.out 0).trans rfl; have hcz7_1 : w6.cell? ⟨gb110, 1, none⟩ = some (.int .i64 a0_1) := (blk_cell BK110.out 1).trans rfl; have hfz7_0 := blk_frozen BK110.out 0; have hfz7_1 := blk_frozen BK110.out 1))
      go_ret
      exact ⟨by first | rfl | (simp [errW_none, errW_some] <;> rfl) | (simp [*, errW_none, errW_some] <;> rfl), by repeat (first | (with_reducible first | exact HB.out | apply below_alloc | apply pw_below_drewN | apply below_drew1 | refine below_set ?_ GE110.out) | exact HB.out)⟩
    · rw [if_neg c5] at H
      have c5b0 : decide (a0_0 ≤ a0_1) = false := decide_eq_false c5
      clear c5
      obtain rfl := Option.some.inj H
      go_enter Try.func104, Try.ntmps104
      go_wp2_with (first | ((with_reducible refine gate_dst (N := 3) rfl ?_); refine box_event ?hg (N := 3) ?hd (cs := #[.int .i64 a0_0, .int .i64 a0_1]) (t := 89) ?hr ?_; (case hd => rfl); (case hg => rfl); (case hr => first | (go_simp; done) | (go_simp; rfl)); intro gb110 hg w8 hbox hb; have n0_ := Aside0.mk (below_step (by repeat (first | (with_reducible first | exact HB.out | apply below_alloc | apply pw_below_drewN | apply below_drew1) | exact HB.out)) hb); have n1_ := Aside0.mk (hbox); have n2_ := Aside0.mk ((by rw [hg]; exact (below_size (by repeat (first | (with_reducible first | exact HB.out | apply below_alloc | apply pw_below_drewN | apply below_drew1) | exact HB.out))) : w.heap.size ≤ gb110)); have n3_ := Aside0.mk ((by rw [hg]; exact (below_size (by repeat (first | (with_reducible first | exact HB.out | apply below_alloc | apply pw_below_drewN | apply below_drew1) | exact HB.out))) : w.heap.size ≤ gb110)); clear HB; have HB := n0_; have BK110 := n1_; have GW110 := n2_; have GE110 := n3_; clear n0_ n1_ n2_ n3_; clear hb hbox hg; have hcz9_0 : w8.cell? ⟨gb110, 0, none⟩ = some (.int .i64 a0_0) := (blk_cell BK110.out 0).trans rfl; have hcz9_1 : w8.cell? ⟨gb110, 1, none⟩ = some (.int .i64 a0_1) := (blk_cell BK110.out 1).trans rfl; have hfz9_0 := blk_frozen BK110.out 0; have hfz9_1 := blk_frozen BK110.out 1))
      go_ret
      exact ⟨by first | rfl | (simp [errW_none, errW_some] <;> rfl) | (simp [*, errW_none, errW_some] <;> rfl), by repeat (first | (with_reducible first | exact HB.out | apply below_alloc | apply pw_below_drewN | apply below_drew1 | refine below_set ?_ GE110.out) | exact HB.out)⟩
  · rw [if_neg c4] at H
    have c4b0 : decide (a1 ≤ a0_0) = false := decide_eq_false c4
    clear c4
    obtain rfl := Option.some.inj H
    go_enter Try.func104, Try.ntmps104
    go_wp2_with (first | ((with_reducible refine gate_dst (N := 3) rfl ?_); refine box_event ?hg (N := 3) ?hd (cs := #[.int .i64 a0_0, .int .i64 a0_1]) (t := 89) ?hr ?_; (case hd => rfl); (case hg => rfl); (case hr => first | (go_simp; done) | (go_simp; rfl)); intro gb110 hg w10 hbox hb; have n0_ := Aside0.mk (below_step (by repeat (first | (with_reducible first | exact HB.out | apply below_alloc | apply pw_below_drewN | apply below_drew1) | exact HB.out)) hb); have n1_ := Aside0.mk (hbox); have n2_ := Aside0.mk ((by rw [hg]; exact (below_size (by repeat (first | (with_reducible first | exact HB.out | apply below_alloc | apply pw_below_drewN | apply below_drew1) | exact HB.out))) : w.heap.size ≤ gb110)); have n3_ := Aside0.mk ((by rw [hg]; exact (below_size (by repeat (first | (with_reducible first | exact HB.out | apply below_alloc | apply pw_below_drewN | apply below_drew1) | exact HB.out))) : w.heap.size ≤ gb110)); clear HB; have HB := n0_; have BK110 := n1_; have GW110 := n2_; have GE110 := n3_; clear n0_ n1_ n2_ n3_; clear hb hbox hg; have hcz11_0 : w10.cell? ⟨gb110, 0, none⟩ = some (.int .i64 a0_0) := (blk_cell BK110.out 0).trans rfl; have hcz11_1 : w10.cell? ⟨gb110, 1, none⟩ = some (.int .i64 a0_1) := (blk_cell BK110.out 1).trans rfl; have hfz11_0 := blk_frozen BK110.out 0; have hfz11_1 := blk_frozen BK110.out 1))
    go_ret
    exact ⟨by first | rfl | (simp [errW_none, errW_some] <;> rfl) | (simp [*, errW_none, errW_some] <;> rfl), by repeat (first | (with_reducible first | exact HB.out | apply below_alloc | apply pw_below_drewN | apply below_drew1 | refine below_set ?_ GE110.out) | exact HB.out)⟩

end Go.Proofs.Ytafmgmaelnpehaa.PFurrowAsks
end

section
namespace Go.Proofs.Ytafmgmaelnpehaa.PFurrowAsks
open Go.RowKit Go.Proofs.YtafmgmaelnpehaaW.PrintWords Go.Proofs.YtafmgmaelnpehaaW.PrintLast Go.Proofs.YtafmgmaelnpehaaW.PrintMore
attribute [local go_sem] max2_int min2_int max_two min_two max_three min_three max_four min_four   -- for this text's walks alone
set_option linter.unusedVariables false
set_option linter.unusedSimpArgs false

/-! ### furrowworksref04_span: function 76 -/
def furrowworksref04_span.f (a0_0 : Int) (a0_1 : Int) (a1 : Int) (a2 : Int) : Option (Bool) := if a1 ≤ a0_0 then (if a0_0 ≤ a0_1 then (some (decide (a0_1 ≤ a2))) else (some false)) else (some false)
set_option maxHeartbeats 8000000 in
set_option maxRecDepth 100000 in
theorem furrowworksref04_span.calls (a0_0 : Int) (a0_1 : Int) (a1 : Int) (a2 : Int) (r : Bool) (w : World) (h : furrowworksref04_span.f a0_0 a0_1 a1 a2 = some r) :
    Calls Try.prog 76 #[.agg #[.int .i64 a0_0, .int .i64 a0_1], .int .i64 a1, .int .i64 a2] w fun e w' => e = .returned (.bool r) ∧ Below w.heap.size w w' := by
  have hu28 := Try.underlying28
  have HB := Aside0.mk (Below.refl w.heap.size w)
  have H : (if a1 ≤ a0_0 then (if a0_0 ≤ a0_1 then (some (decide (a0_1 ≤ a2))) else (some false)) else (some false)) = some r := h
  clear h
  by_cases c4 : a1 ≤ a0_0
  · rw [if_pos c4] at H
    have c4b0 : decide (a1 ≤ a0_0) = true := decide_eq_true c4
    clear c4
    by_cases c5 : a0_0 ≤ a0_1
    · rw [if_pos c5] at H
      have c5b0 : decide (a0_0 ≤ a0_1) = true := decide_eq_true c5
      clear c5
      obtain rfl := Option.some.inj H
      go_enter Try.func76, Try.ntmps76
      go_wp2_with (first | ((with_reducible refine gate_dst (N := 3) rfl ?_); refine box_event ?hg (N := 3) ?hd (cs := #[.int .i64 a0_0, .int .i64 a0_1]) (t := 28) ?hr ?_; (case hd => rfl); (case hg => rfl); (case hr => first | (go_simp; done) | (go_simp; rfl)); intro gb101 hg w6 hbox hb; have n0_ := Aside0.mk (below_step (by repeat (first | (with_reducible first | exact HB.out | apply below_alloc | apply pw_below_drewN | apply below_drew1) | exact HB.out)) hb); have n1_ := Aside0.mk (hbox); have n2_ := Aside0.mk ((by rw [hg]; exact (below_size (by repeat (first | (with_reducible first | exact HB.out | apply below_alloc | apply pw_below_drewN | apply below_drew1) | exact HB.out))) : w.heap.size ≤ gb101)); have n3_ := Aside0.mk ((by rw [hg]; exact (below_size (by repeat (first | (with_reducible first | exact HB.out | apply below_alloc | apply pw_below_drewN | apply below_drew1) | exact HB.out))) : w.heap.size ≤ gb101)); clear HB; have HB := n0_; have BK101 := n1_; have GW101 := n2_; have GE101 := n3_; clear n0_ n1_ n2_ n3_; clear hb hbox hg; have hcz7_0 : w6.cell? ⟨gb101, 0, none⟩ = some (.int .i64 a0_0) := (blk_cell BK101.out 0).trans rfl; have hcz7_1 : w6.cell? ⟨gb101, 1, none⟩ = some (.int .i64 a0_1) := (blk_cell BK101.out 1).trans rfl; have hfz7_0 := blk_frozen BK101.out 0; have hfz7_1 := blk_frozen BK101.out 1))
      go_ret
      exact ⟨by first | rfl | (simp [errW_none, errW_some] <;> rfl) | (simp [*, errW_none, errW_some] <;> rfl), by repeat (first | (with_reducible first | exact HB.out | apply below_alloc | apply pw_below_drewN | apply below_drew1 | refine below_set ?_ GE101.out) | exact HB.out)⟩
    · rw [if_neg c5] at H
      have c5b0 : decide (a0_0 ≤ a0_1) = false := decide_eq_false c5
      clear c5
      obtain rfl := Option.some.inj H
      go_enter Try.func76, Try.ntmps76
      go_wp2_with (first | ((with_reducible refine gate_dst (N := 3) rfl ?_); refine box_event ?hg (N := 3) ?hd (cs := #[.int .i64 a0_0, .int .i64 a0_1]) (t := 28) ?hr ?_; (case hd => rfl); (case hg => rfl); (case hr => first | (go_simp; done) | (go_simp; rfl)); intro gb101 hg w8 hbox hb; have n0_ := Aside0.mk (below_step (by repeat (first | (with_reducible first | exact HB.out | apply below_alloc | apply pw_below_drewN | apply below_drew1) | exact HB.out)) hb); have n1_ := Aside0.mk (hbox); have n2_ := Aside0.mk ((by rw [hg]; exact (below_size (by repeat (first | (with_reducible first | exact HB.out | apply below_alloc | apply pw_below_drewN | apply below_drew1) | exact HB.out))) : w.heap.size ≤ gb101)); have n3_ := Aside0.mk ((by rw [hg]; exact (below_size (by repeat (first | (with_reducible first | exact HB.out | apply below_alloc | apply pw_below_drewN | apply below_drew1) | exact HB.out))) : w.heap.size ≤ gb101)); clear HB; have HB := n0_; have BK101 := n1_; have GW101 := n2_; have GE101 := n3_; clear n0_ n1_ n2_ n3_; clear hb hbox hg; have hcz9_0 : w8.cell? ⟨gb101, 0, none⟩ = some (.int .i64 a0_0) := (blk_cell BK101.out 0).trans rfl; have hcz9_1 : w8.cell? ⟨gb101, 1, none⟩ = some (.int .i64 a0_1) := (blk_cell BK101.out 1).trans rfl; have hfz9_0 := blk_frozen BK101.out 0; have hfz9_1 := blk_frozen BK101.out 1))
      go_ret
      exact ⟨by first | rfl | (simp [errW_none, errW_some] <;> rfl) | (simp [*, errW_none, errW_some] <;> rfl), by repeat (first | (with_reducible first | exact HB.out | apply below_alloc | apply pw_below_drewN | apply below_drew1 | refine below_set ?_ GE101.out) | exact HB.out)⟩
  · rw [if_neg c4] at H
    have c4b0 : decide (a1 ≤ a0_0) = false := decide_eq_false c4
    clear c4
    obtain rfl := Option.some.inj H
    go_enter Try.func76, Try.ntmps76
    go_wp2_with (first | ((with_reducible refine gate_dst (N := 3) rfl ?_); refine box_event ?hg (N := 3) ?hd (cs := #[.int .i64 a0_0, .int .i64 a0_1]) (t := 28) ?hr ?_; (case hd => rfl); (case hg => rfl); (case hr => first | (go_simp; done) | (go_simp; rfl)); intro gb101 hg w10 hbox hb; have n0_ := Aside0.mk (below_step (by repeat (first | (with_reducible first | exact HB.out | apply below_alloc | apply pw_below_drewN | apply below_drew1) | exact HB.out)) hb); have n1_ := Aside0.mk (hbox); have n2_ := Aside0.mk ((by rw [hg]; exact (below_size (by repeat (first | (with_reducible first | exact HB.out | apply below_alloc | apply pw_below_drewN | apply below_drew1) | exact HB.out))) : w.heap.size ≤ gb101)); have n3_ := Aside0.mk ((by rw [hg]; exact (below_size (by repeat (first | (with_reducible first | exact HB.out | apply below_alloc | apply pw_below_drewN | apply below_drew1) | exact HB.out))) : w.heap.size ≤ gb101)); clear HB; have HB := n0_; have BK101 := n1_; have GW101 := n2_; have GE101 := n3_; clear n0_ n1_ n2_ n3_; clear hb hbox hg; have hcz11_0 : w10.cell? ⟨gb101, 0, none⟩ = some (.int .i64 a0_0) := (blk_cell BK101.out 0).trans rfl; have hcz11_1 : w10.cell? ⟨gb101, 1, none⟩ = some (.int .i64 a0_1) := (blk_cell BK101.out 1).trans rfl; have hfz11_0 := blk_frozen BK101.out 0; have hfz11_1 := blk_frozen BK101.out 1))
    go_ret
    exact ⟨by first | rfl | (simp [errW_none, errW_some] <;> rfl) | (simp [*, errW_none, errW_some] <;> rfl), by repeat (first | (with_reducible first | exact HB.out | apply below_alloc | apply pw_below_drewN | apply below_drew1 | refine below_set ?_ GE101.out) | exact HB.out)⟩

end Go.Proofs.Ytafmgmaelnpehaa.PFurrowAsks
end

section
namespace Go.Proofs.Ytafmgmaelnpehaa.PFurrowAsks
open Go.RowKit Go.Proofs.YtafmgmaelnpehaaW.PrintWords Go.Proofs.YtafmgmaelnpehaaW.PrintLast Go.Proofs.YtafmgmaelnpehaaW.PrintMore
attribute [local go_sem] max2_int min2_int max_two min_two max_three min_three max_four min_four   -- for this text's walks alone
set_option linter.unusedVariables false
set_option linter.unusedSimpArgs false

/-! ### furrowworksref04_Furrow: function 36 -/
mutual
def furrowworksref04_Furrow.j0 : Nat → Int → Bool → List (S28) → List (S28) → List (S28) → Option (Bool)
  | 0, _, _, _, _, _ => none
  | k + 1, x3, x24, x103000, x103001, x103002 => if x24 = true then (some false) else (furrowworksref04_Furrow.l0 k x3 0 x103000 x103001 x103002)
def furrowworksref04_Furrow.l0 : Nat → Int → Int → List (S28) → List (S28) → List (S28) → Option (Bool)
  | 0, _, _, _, _, _ => none
  | k + 1, x3, x4, x103000, x103001, x103002 => if x4 < x3 then (if 0 ≤ x4 then (if x4 < (x103000.length : Int) then ((furrowworksref04_span.f ((rd_T28 x103000 x4).f0) ((rd_T28 x103000 x4).f1) (-12) 12).bind fun t105 => (if t105 = true then (if (wrap64 (((rd_T28 x103000 x4).f1) - ((rd_T28 x103000 x4).f0))) > 6 then (some false) else (if x4 < (x103001.length : Int) then ((furrowworksref04_span.f ((rd_T28 x103001 x4).f0) ((rd_T28 x103001 x4).f1) 1 60).bind fun t107 => (if t107 = true then (if x4 < (x103002.length : Int) then ((furrowworksref04_span.f ((rd_T28 x103002 x4).f0) ((rd_T28 x103002 x4).f1) 0 40).bind fun t109 => (if t109 = true then (furrowworksref04_Furrow.l0 k x3 (wrap64 (x4 + 1)) x103000 x103001 x103002) else (some false))) else (none)) else (some false))) else (none))) else (some false))) else (none)) else (none)) else (some true)
end
def furrowworksref04_Furrow.f (k : Nat) (l0_0 : List (S28)) (l0_1 : List (S28)) (l0_2 : List (S28)) : Option (Bool) := if (l0_0.length : Int) > 8 then (furrowworksref04_Furrow.j0 k (l0_0.length : Int) true l0_0 l0_1 l0_2) else (if (l0_1.length : Int) = (l0_0.length : Int) then (furrowworksref04_Furrow.j0 k (l0_0.length : Int) ((l0_2.length : Int) != (l0_0.length : Int)) l0_0 l0_1 l0_2) else (furrowworksref04_Furrow.j0 k (l0_0.length : Int) true l0_0 l0_1 l0_2))
theorem furrowworksref04_Furrow.mono_l : ∀ k, (∀ y0 y1 y2 y3 y4, LeO (furrowworksref04_Furrow.j0 k y0 y1 y2 y3 y4) (furrowworksref04_Furrow.j0 (k + 1) y0 y1 y2 y3 y4)) ∧ (∀ y0 y1 y2 y3 y4, LeO (furrowworksref04_Furrow.l0 k y0 y1 y2 y3 y4) (furrowworksref04_Furrow.l0 (k + 1) y0 y1 y2 y3 y4))
  | 0 => ⟨fun _ _ _ _ _ r h => by simp [furrowworksref04_Furrow.j0] at h, fun _ _ _ _ _ r h => by simp [furrowworksref04_Furrow.l0] at h⟩
  | k + 1 => by
    obtain ⟨ih0, ih1⟩ := furrowworksref04_Furrow.mono_l k
    refine ⟨?_, ?_⟩
    · intro y0 y1 y2 y3 y4
      unfold furrowworksref04_Furrow.j0
      repeat' first
      | (with_reducible exact ih0 _ _ _ _ _)
      | (with_reducible exact ih1 _ _ _ _ _)
      | (with_reducible exact LeO.refl _)
      | (with_reducible exact LeO.none _)
      | (with_reducible refine LeO.ite ?_ ?_)
      | (with_reducible refine LeO.bind ?_ (fun _ => ?_))
      | exact ih0 _ _ _ _ _
      | exact ih1 _ _ _ _ _
      | exact LeO.none _
      | refine LeO.ite ?_ ?_
      | refine LeO.bind ?_ (fun _ => ?_)
    · intro y0 y1 y2 y3 y4
      unfold furrowworksref04_Furrow.l0
      repeat' first
      | (with_reducible exact ih0 _ _ _ _ _)
      | (with_reducible exact ih1 _ _ _ _ _)
      | (with_reducible exact LeO.refl _)
      | (with_reducible exact LeO.none _)
      | (with_reducible refine LeO.ite ?_ ?_)
      | (with_reducible refine LeO.bind ?_ (fun _ => ?_))
      | exact ih0 _ _ _ _ _
      | exact ih1 _ _ _ _ _
      | exact LeO.none _
      | refine LeO.ite ?_ ?_
      | refine LeO.bind ?_ (fun _ => ?_)
theorem furrowworksref04_Furrow.mono : ∀ a0 a1 a2 k, LeO (furrowworksref04_Furrow.f k a0 a1 a2) (furrowworksref04_Furrow.f (k + 1) a0 a1 a2) := by
  intro a0 a1 a2 k
  obtain ⟨ih0, ih1⟩ := furrowworksref04_Furrow.mono_l k
  unfold furrowworksref04_Furrow.f
  repeat' first
      | (with_reducible exact ih0 _ _ _ _ _)
      | (with_reducible exact ih1 _ _ _ _ _)
      | (with_reducible exact LeO.refl _)
      | (with_reducible exact LeO.none _)
      | (with_reducible refine LeO.ite ?_ ?_)
      | (with_reducible refine LeO.bind ?_ (fun _ => ?_))
      | exact ih0 _ _ _ _ _
      | exact ih1 _ _ _ _ _
      | exact LeO.none _
      | refine LeO.ite ?_ ?_
      | refine LeO.bind ?_ (fun _ => ?_)
set_option maxHeartbeats 8000000 in
set_option maxRecDepth 100000 in
theorem furrowworksref04_Furrow.calls (k : Nat) (A0_0 : Option Addr) (c0_0 : Nat) (l0_0 : List (S28)) (A0_1 : Option Addr) (c0_1 : Nat) (l0_1 : List (S28)) (A0_2 : Option Addr) (c0_2 : Nat) (l0_2 : List (S28)) (r : Bool) (w : World) (hr0_0 : Kd.C k28 w A0_0 l0_0.length l0_0) (hc0_0 : l0_0.length ≤ c0_0) (hr0_1 : Kd.C k28 w A0_1 l0_1.length l0_1) (hc0_1 : l0_1.length ≤ c0_1) (hr0_2 : Kd.C k28 w A0_2 l0_2.length l0_2) (hc0_2 : l0_2.length ≤ c0_2) (h : furrowworksref04_Furrow.f k l0_0 l0_1 l0_2 = some r) :
    Calls Try.prog 36 #[.agg #[.slice A0_0 l0_0.length c0_0, .slice A0_1 l0_1.length c0_1, .slice A0_2 l0_2.length c0_2]] w fun e w' => e = .returned (.bool r) ∧ Below w.heap.size w w' := by
  have hu24 := Try.underlying24
  have hu28 := Try.underlying28
  have HR0_0 := Aside0.mk hr0_0
  have HC0_0 := Aside0.mk hc0_0
  clear hr0_0 hc0_0
  have HR0_1 := Aside0.mk hr0_1
  have HC0_1 := Aside0.mk hc0_1
  clear hr0_1 hc0_1
  have HR0_2 := Aside0.mk hr0_2
  have HC0_2 := Aside0.mk hc0_2
  clear hr0_2 hc0_2
  have HB := Aside0.mk (Below.refl w.heap.size w)
  have H : (if (l0_0.length : Int) > 8 then (furrowworksref04_Furrow.j0 k (l0_0.length : Int) true l0_0 l0_1 l0_2) else (if (l0_1.length : Int) = (l0_0.length : Int) then (furrowworksref04_Furrow.j0 k (l0_0.length : Int) ((l0_2.length : Int) != (l0_0.length : Int)) l0_0 l0_1 l0_2) else (furrowworksref04_Furrow.j0 k (l0_0.length : Int) true l0_0 l0_1 l0_2))) = some r := h
  clear h
  have HC2 := Aside0.mk H
  clear H
  go_enter Try.func36, Try.ntmps36
  go_upto_region 2 with (first | ((with_reducible refine gate_dst (N := 1) rfl ?_); (try (refine gate_guard (by rfl) ?_; dsimp only)); refine box_event ?hg (N := 1) ?hd (cs := #[.slice A0_0 l0_0.length c0_0, .slice A0_1 l0_1.length c0_1, .slice A0_2 l0_2.length c0_2]) (t := 24) ?hr ?_; (case hd => rfl); (case hg => rfl); (case hr => first | (go_simp; done) | (go_simp; rfl)); intro gb102 hg w3 hbox hb; have n0_ := Aside0.mk (below_step (by repeat (first | (with_reducible first | exact HB.out | apply below_alloc | apply pw_below_drewN | apply below_drew1) | exact HB.out)) hb); have n1_ := Aside0.mk (hbox); have n2_ := Aside0.mk ((by rw [hg]; exact (below_size (by repeat (first | (with_reducible first | exact HB.out | apply below_alloc | apply pw_below_drewN | apply below_drew1) | exact HB.out))) : w.heap.size ≤ gb102)); have n3_ := Aside0.mk ((by rw [hg]; exact (below_size (by repeat (first | (with_reducible first | exact HB.out | apply below_alloc | apply pw_below_drewN | apply below_drew1) | exact HB.out))) : w.heap.size ≤ gb102)); clear HB; have HB := n0_; have BK102 := n1_; have GW102 := n2_; have GE102 := n3_; clear n0_ n1_ n2_ n3_; clear hb hbox hg; have hcz4_0 : w3.cell? ⟨gb102, 0, none⟩ = some (.slice A0_0 l0_0.length c0_0) := (blk_cell BK102.out 0).trans rfl; have hcz4_1 : w3.cell? ⟨gb102, 1, none⟩ = some (.slice A0_1 l0_1.length c0_1) := (blk_cell BK102.out 1).trans rfl; have hcz4_2 : w3.cell? ⟨gb102, 2, none⟩ = some (.slice A0_2 l0_2.length c0_2) := (blk_cell BK102.out 2).trans rfl; have hfz4_0 := blk_frozen BK102.out 0; have hfz4_1 := blk_frozen BK102.out 1; have hfz4_2 := blk_frozen BK102.out 2))
  (try simp only [Act.put, List.setIfInBounds_toArray, List.set_cons_zero, List.set_cons_succ])
  go_cut [24] (fun v24 wc => ∃ (kq : Nat) (x24_1 : Bool), v24 = .bool x24_1 ∧ Aside0 (furrowworksref04_Furrow.j0 kq (l0_0.length : Int) x24_1 l0_0 l0_1 l0_2 = some r) ∧ Aside0 (kq ≤ k) ∧ Aside0 (wc.heap[gb102]? = some (.cells #[(.slice A0_0 l0_0.length c0_0), (.slice A0_1 l0_1.length c0_1), (.slice A0_2 l0_2.length c0_2)] 24 (0, 0))) ∧ Aside0 (Below w.heap.size w wc))
  case first =>
    have H := HC2.out
    clear HC2
    by_cases c5 : (l0_0.length : Int) > 8
    · rw [if_pos c5] at H
      have c5b0 : decide (8 < (l0_0.length : Int)) = true := decide_eq_true c5
      have c5b1 : decide (8 < l0_0.length) = true := decide_eq_true (by omega)
      clear c5
      (first | rw [c5b0] | (simp only [i64_w, i32_w]; rw [c5b0]) | skip)
      have H' := Aside0.mk H
      clear H
      go_wp2
      go_meet
      case rel => exact ⟨_, (true), (by first | rfl | (simp; done) | (simp [*]; done)), H', ⟨by first | omega | exact Nat.le_refl _⟩, ⟨by (with_reducible repeat (first | refine blk_drewN ?_ _ | refine blk_drew ?_ | refine blk_alloc ?_ _)); exact BK102.out⟩, ⟨by repeat (first | (with_reducible first | exact HB.out | apply below_alloc | apply pw_below_drewN | apply below_drew1 | refine below_set ?_ GE102.out) | exact HB.out)⟩⟩
    · rw [if_neg c5] at H
      have c5b0 : decide (8 < (l0_0.length : Int)) = false := decide_eq_false c5
      have c5b1 : decide (8 < l0_0.length) = false := decide_eq_false (by omega)
      clear c5
      (first | rw [c5b0] | (simp only [i64_w, i32_w]; rw [c5b0]) | skip)
      by_cases c6 : (l0_1.length : Int) = (l0_0.length : Int)
      · rw [if_pos c6] at H
        have c6b0 : ((l0_1.length : Int) == (l0_0.length : Int)) = true := beq_iff_eq.mpr c6
        have c6b1 : ((l0_1.length : Int) != (l0_0.length : Int)) = false := bne_eq_false_iff_eq.mpr c6
        have c6b2 : (l0_1.length == l0_0.length) = true := by first | simpa using c6 | (simp at c6 ⊢; omega)
        clear c6
        have H' := Aside0.mk H
        clear H
        have hcz7_0 : w3.cell? ⟨gb102, 0, none⟩ = some (.slice A0_0 l0_0.length c0_0) := (blk_cell BK102.out 0).trans rfl
        have hcz7_1 : w3.cell? ⟨gb102, 1, none⟩ = some (.slice A0_1 l0_1.length c0_1) := (blk_cell BK102.out 1).trans rfl
        have hcz7_2 : w3.cell? ⟨gb102, 2, none⟩ = some (.slice A0_2 l0_2.length c0_2) := (blk_cell BK102.out 2).trans rfl
        have hfz7_0 := blk_frozen BK102.out 0
        have hfz7_1 := blk_frozen BK102.out 1
        have hfz7_2 := blk_frozen BK102.out 2
        go_wp2
        go_meet
        case rel => exact ⟨_, (((l0_2.length : Int) != (l0_0.length : Int))), (by first | rfl | (simp; done) | (simp [*]; done)), H', ⟨by first | omega | exact Nat.le_refl _⟩, ⟨by (with_reducible repeat (first | refine blk_drewN ?_ _ | refine blk_drew ?_ | refine blk_alloc ?_ _)); exact BK102.out⟩, ⟨by repeat (first | (with_reducible first | exact HB.out | apply below_alloc | apply pw_below_drewN | apply below_drew1 | refine below_set ?_ GE102.out) | exact HB.out)⟩⟩
      · rw [if_neg c6] at H
        have c6b0 : ((l0_1.length : Int) == (l0_0.length : Int)) = false := beq_eq_false_iff_ne.mpr c6
        have c6b1 : ((l0_1.length : Int) != (l0_0.length : Int)) = true := bne_iff_ne.mpr c6
        have c6b2 : (l0_1.length == l0_0.length) = false := by first | simpa using c6 | (simp at c6 ⊢; omega)
        have H' := Aside0.mk H
        clear H
        have hcz8_0 : w3.cell? ⟨gb102, 0, none⟩ = some (.slice A0_0 l0_0.length c0_0) := (blk_cell BK102.out 0).trans rfl
        have hcz8_1 : w3.cell? ⟨gb102, 1, none⟩ = some (.slice A0_1 l0_1.length c0_1) := (blk_cell BK102.out 1).trans rfl
        have hcz8_2 : w3.cell? ⟨gb102, 2, none⟩ = some (.slice A0_2 l0_2.length c0_2) := (blk_cell BK102.out 2).trans rfl
        have hfz8_0 := blk_frozen BK102.out 0
        have hfz8_1 := blk_frozen BK102.out 1
        have hfz8_2 := blk_frozen BK102.out 2
        go_wp2
        go_meet
        case rel => exact ⟨_, (true), (by first | rfl | (simp; done) | (simp [*]; done)), H', ⟨by first | omega | exact Nat.le_refl _⟩, ⟨by (with_reducible repeat (first | refine blk_drewN ?_ _ | refine blk_drew ?_ | refine blk_alloc ?_ _)); exact BK102.out⟩, ⟨by repeat (first | (with_reducible first | exact HB.out | apply below_alloc | apply pw_below_drewN | apply below_drew1 | refine below_set ?_ GE102.out) | exact HB.out)⟩⟩
  case rest =>
    clear HC2
    try clear p2
    try clear c3
    try clear c5
    try clear c5b0
    try clear c5b1
    try clear c6
    try clear c6b0
    try clear c6b1
    try clear c6b2
    try clear hcz4_0
    try clear hcz4_1
    try clear hcz4_2
    try clear hcz7_0
    try clear hcz7_1
    try clear hcz7_2
    try clear hcz8_0
    try clear hcz8_1
    try clear hcz8_2
    try clear hfz4_0
    try clear hfz4_1
    try clear hfz4_2
    try clear hfz7_0
    try clear hfz7_1
    try clear hfz7_2
    try clear hfz8_0
    try clear hfz8_1
    try clear hfz8_2
    obtain ⟨kq, x24_1, rfl, HA, HJ1, BK102, HB⟩ := hcut
    cases kq with
    | zero => exact absurd HA.out (by simp [furrowworksref04_Furrow.j0])
    | succ kj1 =>
      have H := HA.out
      clear HA
      simp only [furrowworksref04_Furrow.j0] at H
      by_cases c9 : x24_1 = true
      · subst c9
        have H1 : (some false) = some r := by rw [if_pos rfl] at H; exact H
        clear H
        have H := H1
        clear H1
        obtain rfl := Option.some.inj H
        go_wp2
        go_ret
        exact ⟨by first | rfl | (simp [errW_none, errW_some] <;> rfl) | (simp [*, errW_none, errW_some] <;> rfl), by repeat (first | (with_reducible first | exact HB.out | apply below_alloc | apply pw_below_drewN | apply below_drew1 | refine below_set ?_ GE102.out) | exact HB.out)⟩
      · replace c9 := Bool.eq_false_iff.mpr c9
        subst c9
        have H1 : (furrowworksref04_Furrow.l0 kj1 (l0_0.length : Int) 0 l0_0 l0_1 l0_2) = some r := by rw [if_neg (show ¬ (false = true) by decide)] at H; exact H
        clear H
        have H := H1
        clear H1
        have H' := Aside0.mk H
        clear H
        go_wp2
        go_loopg [4] kj1 (fun kq v4 w' => ∃ (x4_2 : Int), v4 = .int .i64 x4_2 ∧ Aside0 (furrowworksref04_Furrow.l0 kq (l0_0.length : Int) x4_2 l0_0 l0_1 l0_2 = some r) ∧ Aside0 (kq ≤ kj1) ∧ Aside0 (w'.heap[gb102]? = some (.cells #[(.slice A0_0 l0_0.length c0_0), (.slice A0_1 l0_1.length c0_1), (.slice A0_2 l0_2.length c0_2)] 24 (0, 0))) ∧ Aside0 (Below w.heap.size w w'))
        case atStart => exact ⟨(0), (by first | rfl | (simp; done) | (simp [*]; done)), H', ⟨Nat.le_refl _⟩, ⟨by (with_reducible repeat (first | refine blk_drewN ?_ _ | refine blk_drew ?_ | refine blk_alloc ?_ _)); exact BK102.out⟩, ⟨by repeat (first | (with_reducible first | exact HB.out | apply below_alloc | apply pw_below_drewN | apply below_drew1 | refine below_set ?_ GE102.out) | exact HB.out)⟩⟩
        case round =>
          clear H'
          try clear p2
          try clear c3
          try clear c5
          try clear c5b0
          try clear c5b1
          try clear c6
          try clear c6b0
          try clear c6b1
          try clear c6b2
          try clear c9
          try clear hcz4_0
          try clear hcz4_1
          try clear hcz4_2
          try clear hcz7_0
          try clear hcz7_1
          try clear hcz7_2
          try clear hcz8_0
          try clear hcz8_1
          try clear hcz8_2
          try clear hfz4_0
          try clear hfz4_1
          try clear hfz4_2
          try clear hfz7_0
          try clear hfz7_1
          try clear hfz7_2
          try clear hfz8_0
          try clear hfz8_1
          try clear hfz8_2
          try clear p2
          obtain ⟨x4_2, rfl, HA, HK2, BK102, HB⟩ := hrel
          cases gk with
          | zero => exact absurd HA.out (by simp [furrowworksref04_Furrow.l0])
          | succ k2 =>
            have H := HA.out
            clear HA
            simp only [furrowworksref04_Furrow.l0] at H
            by_cases c10 : x4_2 < (l0_0.length : Int)
            · rw [if_pos c10] at H
              have c10b0 : decide (x4_2 < (l0_0.length : Int)) = true := decide_eq_true c10
              clear c10
              by_cases c11 : 0 ≤ x4_2
              · rw [if_pos c11] at H
                have c11b0 : decide (0 ≤ x4_2) = true := decide_eq_true c11
                clear c11
                by_cases c12 : x4_2 < (l0_0.length : Int)
                · rw [if_pos c12] at H
                  have c12b0 : decide (x4_2 < (l0_0.length : Int)) = true := decide_eq_true c12
                  clear c12
                  replace H := Option.bind_eq_some_iff.mp H
                  obtain ⟨t105, A130, H⟩ := H
                  replace H : (if t105 = true then (if (wrap64 (((rd_T28 l0_0 x4_2).f1) - ((rd_T28 l0_0 x4_2).f0))) > 6 then (some false) else (if x4_2 < (l0_1.length : Int) then ((furrowworksref04_span.f ((rd_T28 l0_1 x4_2).f0) ((rd_T28 l0_1 x4_2).f1) 1 60).bind fun t107 => (if t107 = true then (if x4_2 < (l0_2.length : Int) then ((furrowworksref04_span.f ((rd_T28 l0_2 x4_2).f0) ((rd_T28 l0_2 x4_2).f1) 0 40).bind fun t109 => (if t109 = true then (furrowworksref04_Furrow.l0 k2 (l0_0.length : Int) (wrap64 (x4_2 + 1)) l0_0 l0_1 l0_2) else (some false))) else (none)) else (some false))) else (none))) else (some false)) = some r := H
                  have A13 := Aside0.mk A130
                  clear A130
                  by_cases c14 : t105 = true
                  · subst c14
                    have H1 : (if (wrap64 (((rd_T28 l0_0 x4_2).f1) - ((rd_T28 l0_0 x4_2).f0))) > 6 then (some false) else (if x4_2 < (l0_1.length : Int) then ((furrowworksref04_span.f ((rd_T28 l0_1 x4_2).f0) ((rd_T28 l0_1 x4_2).f1) 1 60).bind fun t107 => (if t107 = true then (if x4_2 < (l0_2.length : Int) then ((furrowworksref04_span.f ((rd_T28 l0_2 x4_2).f0) ((rd_T28 l0_2 x4_2).f1) 0 40).bind fun t109 => (if t109 = true then (furrowworksref04_Furrow.l0 k2 (l0_0.length : Int) (wrap64 (x4_2 + 1)) l0_0 l0_1 l0_2) else (some false))) else (none)) else (some false))) else (none))) = some r := by rw [if_pos rfl] at H; exact H
                    clear H
                    have H := H1
                    clear H1
                    by_cases c15 : (wrap64 (((rd_T28 l0_0 x4_2).f1) - ((rd_T28 l0_0 x4_2).f0))) > 6
                    · rw [if_pos c15] at H
                      have c15b0 : decide (6 < (wrap64 (((rd_T28 l0_0 x4_2).f1) - ((rd_T28 l0_0 x4_2).f0)))) = true := decide_eq_true c15
                      clear c15
                      obtain rfl := Option.some.inj H
                      have hcz16_0 : wr.cell? ⟨gb102, 0, none⟩ = some (.slice A0_0 l0_0.length c0_0) := (blk_cell BK102.out 0).trans rfl
                      have hcz16_1 : wr.cell? ⟨gb102, 1, none⟩ = some (.slice A0_1 l0_1.length c0_1) := (blk_cell BK102.out 1).trans rfl
                      have hcz16_2 : wr.cell? ⟨gb102, 2, none⟩ = some (.slice A0_2 l0_2.length c0_2) := (blk_cell BK102.out 2).trans rfl
                      have hfz16_0 := blk_frozen BK102.out 0
                      have hfz16_1 := blk_frozen BK102.out 1
                      have hfz16_2 := blk_frozen BK102.out 2
                      have p103 : 0 ≤ (x4_2 : Int) := of_decide_eq_true (by first | (with_reducible assumption) | assumption)
                      have q103 : x4_2 < (l0_0.length : Int) := of_decide_eq_true (by first | (with_reducible assumption) | assumption)
                      obtain ⟨ad103, e103, hx103_0, hx103_1⟩ := at_T28 HR0_0.out x4_2 p103 q103
                      cases e103
                      replace hx103_0 := (HB.out.cell (World.block_lt_of_cell? w _ hx103_0)).trans hx103_0
                      replace hx103_1 := (HB.out.cell (World.block_lt_of_cell? w _ hx103_1)).trans hx103_1
                      replace p103 := eq_true p103
                      replace q103 := eq_true q103
                      go_wp2_with (first | ((with_reducible refine gate_dst (N := 5) rfl ?_); (try (refine gate_guard (by rfl) ?_; dsimp only)); refine box_event ?hg (N := 5) ?hd (cs := #[.int .i64 0, .int .i64 0]) (t := 28) ?hr ?_; (case hd => rfl); (case hg => rfl); (case hr => first | (go_simp; done) | (go_simp; rfl)); intro gb104 hg w17 hbox hb; have n0_ := Aside0.mk (blk_below (g := gb102) (o := .cells #[.slice (some ad103) l0_0.length c0_0, .slice A0_1 l0_1.length c0_1, .slice A0_2 l0_2.length c0_2] 24 (0, 0)) (by (with_reducible repeat (first | refine blk_drewN ?_ _ | refine blk_drew ?_ | refine blk_alloc ?_ _)); exact BK102.out) hb); have n1_ := Aside0.mk (below_step (by repeat (first | (with_reducible first | exact HB.out | apply below_alloc | apply pw_below_drewN | apply below_drew1 | refine below_set ?_ GE102.out) | exact HB.out)) hb); have n2_ := Aside0.mk (hbox); have n3_ := Aside0.mk ((by rw [hg]; exact (below_size (by repeat (first | (with_reducible first | exact HB.out | apply below_alloc | apply pw_below_drewN | apply below_drew1 | refine below_set ?_ GE102.out) | exact HB.out))) : w.heap.size ≤ gb104)); have n4_ := Aside0.mk ((by rw [hg]; exact (below_size (by repeat (first | (with_reducible first | exact HB.out | apply below_alloc | apply pw_below_drewN | apply below_drew1 | refine below_set ?_ GE102.out) | exact HB.out))) : w.heap.size ≤ gb104)); have n5_ := Aside0.mk ((by rw [hg]; exact Nat.ne_of_lt (blk_lt (g := gb102) (o := .cells #[.slice (some ad103) l0_0.length c0_0, .slice A0_1 l0_1.length c0_1, .slice A0_2 l0_2.length c0_2] 24 (0, 0)) (by (with_reducible repeat (first | refine blk_drewN ?_ _ | refine blk_drew ?_ | refine blk_alloc ?_ _)); exact BK102.out)) : gb102 ≠ gb104)); have n6_ := Aside0.mk ((by rw [hg]; exact Nat.ne_of_gt (blk_lt (g := gb102) (o := .cells #[.slice (some ad103) l0_0.length c0_0, .slice A0_1 l0_1.length c0_1, .slice A0_2 l0_2.length c0_2] 24 (0, 0)) (by (with_reducible repeat (first | refine blk_drewN ?_ _ | refine blk_drew ?_ | refine blk_alloc ?_ _)); exact BK102.out)) : gb104 ≠ gb102)); clear BK102; clear HB; have BK102 := n0_; have HB := n1_; have BK104 := n2_; have GW104 := n3_; have GE104 := n4_; have NB102_104 := n5_; have NB104_102 := n6_; clear n0_ n1_ n2_ n3_ n4_ n5_ n6_; clear hb hbox hg; have hnb18 := NB104_102.out; have hnc18 := NB102_104.out; have hcz19_0 : w17.cell? ⟨gb104, 0, none⟩ = some (.int .i64 0) := (blk_cell BK104.out 0).trans rfl; have hcz19_1 : w17.cell? ⟨gb104, 1, none⟩ = some (.int .i64 0) := (blk_cell BK104.out 1).trans rfl; have hfz19_0 := blk_frozen BK104.out 0; have hfz19_1 := blk_frozen BK104.out 1) | ((with_reducible refine gate_callee (f := 76) rfl ?_); refine goesL_ (some 36) rfl rfl Try.func76 (by kernel_rfl) rfl #[.agg #[.int .i64 ((rd_T28 l0_0 x4_2).f0), .int .i64 ((rd_T28 l0_0 x4_2).f1)], .int .i64 (-12), .int .i64 12] rfl (by (try simp only [List.map_toArray, List.map_cons, List.map_nil]); first | done | rfl | (simp only [List.length_drop, List.length_take]; rfl)) ?_; (with_reducible refine (furrowworksref04_span.calls ((rd_T28 l0_0 x4_2).f0) ((rd_T28 l0_0 x4_2).f1) (-12) 12 true _ A13.out).mono ?_); rintro e w20 ⟨rfl, hb⟩; refine ⟨_, rfl, ?_⟩; have n0_ := Aside0.mk (blk_below (g := gb102) (o := .cells #[.slice (some ad103) l0_0.length c0_0, .slice A0_1 l0_1.length c0_1, .slice A0_2 l0_2.length c0_2] 24 (0, 0)) (by (with_reducible repeat (first | refine blk_drewN ?_ _ | refine blk_drew ?_ | refine blk_alloc ?_ _)); refine blk_far ?_ NB102_104.out _; (with_reducible repeat (first | refine blk_drewN ?_ _ | refine blk_drew ?_ | refine blk_alloc ?_ _)); refine blk_far ?_ NB102_104.out _; (with_reducible repeat (first | refine blk_drewN ?_ _ | refine blk_drew ?_ | refine blk_alloc ?_ _)); exact BK102.out) hb); have n1_ := Aside0.mk (blk_below (g := gb104) (o := .cells #[.int .i64 ((rd_T28 l0_0 x4_2).f0), .int .i64 ((rd_T28 l0_0 x4_2).f1)] 28 (0, 0)) (by (with_reducible repeat (first | refine blk_drewN ?_ _ | refine blk_drew ?_ | refine blk_alloc ?_ _)); refine blk_put (cs := #[.int .i64 ((rd_T28 l0_0 x4_2).f0), .int .i64 0]) ?_ 1 _ rfl; (with_reducible repeat (first | refine blk_drewN ?_ _ | refine blk_drew ?_ | refine blk_alloc ?_ _)); refine blk_put (cs := #[.int .i64 0, .int .i64 0]) ?_ 0 _ rfl; (with_reducible repeat (first | refine blk_drewN ?_ _ | refine blk_drew ?_ | refine blk_alloc ?_ _)); exact BK104.out) hb); have n2_ := Aside0.mk (below_step (by repeat (first | (with_reducible first | exact HB.out | apply below_alloc | apply pw_below_drewN | apply below_drew1 | refine below_set ?_ GE102.out | refine below_set ?_ GE104.out) | exact HB.out)) hb); clear BK102; clear BK104; clear HB; have BK102 := n0_; have BK104 := n1_; have HB := n2_; clear n0_ n1_ n2_; (try clear hb); (try clear hb2); (try clear hk); (try clear hi); have hcz21_0 : w20.cell? ⟨gb104, 0, none⟩ = some (.int .i64 ((rd_T28 l0_0 x4_2).f0)) := (blk_cell BK104.out 0).trans rfl; have hcz21_1 : w20.cell? ⟨gb104, 1, none⟩ = some (.int .i64 ((rd_T28 l0_0 x4_2).f1)) := (blk_cell BK104.out 1).trans rfl; have hfz21_0 := blk_frozen BK104.out 0; have hfz21_1 := blk_frozen BK104.out 1))
                      go_ret
                      exact ⟨by first | rfl | (simp [errW_none, errW_some] <;> rfl) | (simp [*, errW_none, errW_some] <;> rfl), by repeat (first | (with_reducible first | exact HB.out | apply below_alloc | apply pw_below_drewN | apply below_drew1 | refine below_set ?_ GE102.out | refine below_set ?_ GE104.out) | exact HB.out)⟩
                    · rw [if_neg c15] at H
                      have c15b0 : decide (6 < (wrap64 (((rd_T28 l0_0 x4_2).f1) - ((rd_T28 l0_0 x4_2).f0)))) = false := decide_eq_false c15
                      clear c15
                      by_cases c22 : x4_2 < (l0_1.length : Int)
                      · rw [if_pos c22] at H
                        have c22b0 : decide (x4_2 < (l0_1.length : Int)) = true := decide_eq_true c22
                        clear c22
                        replace H := Option.bind_eq_some_iff.mp H
                        obtain ⟨t107, A230, H⟩ := H
                        replace H : (if t107 = true then (if x4_2 < (l0_2.length : Int) then ((furrowworksref04_span.f ((rd_T28 l0_2 x4_2).f0) ((rd_T28 l0_2 x4_2).f1) 0 40).bind fun t109 => (if t109 = true then (furrowworksref04_Furrow.l0 k2 (l0_0.length : Int) (wrap64 (x4_2 + 1)) l0_0 l0_1 l0_2) else (some false))) else (none)) else (some false)) = some r := H
                        have A23 := Aside0.mk A230
                        clear A230
                        by_cases c24 : t107 = true
                        · subst c24
                          have H1 : (if x4_2 < (l0_2.length : Int) then ((furrowworksref04_span.f ((rd_T28 l0_2 x4_2).f0) ((rd_T28 l0_2 x4_2).f1) 0 40).bind fun t109 => (if t109 = true then (furrowworksref04_Furrow.l0 k2 (l0_0.length : Int) (wrap64 (x4_2 + 1)) l0_0 l0_1 l0_2) else (some false))) else (none)) = some r := by rw [if_pos rfl] at H; exact H
                          clear H
                          have H := H1
                          clear H1
                          by_cases c25 : x4_2 < (l0_2.length : Int)
                          · rw [if_pos c25] at H
                            have c25b0 : decide (x4_2 < (l0_2.length : Int)) = true := decide_eq_true c25
                            clear c25
                            replace H := Option.bind_eq_some_iff.mp H
                            obtain ⟨t109, A260, H⟩ := H
                            replace H : (if t109 = true then (furrowworksref04_Furrow.l0 k2 (l0_0.length : Int) (wrap64 (x4_2 + 1)) l0_0 l0_1 l0_2) else (some false)) = some r := H
                            have A26 := Aside0.mk A260
                            clear A260
                            by_cases c27 : t109 = true
                            · subst c27
                              have H1 : (furrowworksref04_Furrow.l0 k2 (l0_0.length : Int) (wrap64 (x4_2 + 1)) l0_0 l0_1 l0_2) = some r := by rw [if_pos rfl] at H; exact H
                              clear H
                              have H := H1
                              clear H1
                              have H' := Aside0.mk H
                              clear H
                              have hcz28_0 : wr.cell? ⟨gb102, 0, none⟩ = some (.slice A0_0 l0_0.length c0_0) := (blk_cell BK102.out 0).trans rfl
                              have hcz28_1 : wr.cell? ⟨gb102, 1, none⟩ = some (.slice A0_1 l0_1.length c0_1) := (blk_cell BK102.out 1).trans rfl
                              have hcz28_2 : wr.cell? ⟨gb102, 2, none⟩ = some (.slice A0_2 l0_2.length c0_2) := (blk_cell BK102.out 2).trans rfl
                              have hfz28_0 := blk_frozen BK102.out 0
                              have hfz28_1 := blk_frozen BK102.out 1
                              have hfz28_2 := blk_frozen BK102.out 2
                              have p103 : 0 ≤ (x4_2 : Int) := of_decide_eq_true (by first | (with_reducible assumption) | assumption)
                              have q103 : x4_2 < (l0_0.length : Int) := of_decide_eq_true (by first | (with_reducible assumption) | assumption)
                              obtain ⟨ad103, e103, hx103_0, hx103_1⟩ := at_T28 HR0_0.out x4_2 p103 q103
                              cases e103
                              replace hx103_0 := (HB.out.cell (World.block_lt_of_cell? w _ hx103_0)).trans hx103_0
                              replace hx103_1 := (HB.out.cell (World.block_lt_of_cell? w _ hx103_1)).trans hx103_1
                              replace p103 := eq_true p103
                              replace q103 := eq_true q103
                              go_wp2_with (first | ((with_reducible refine gate_dst (N := 5) rfl ?_); (try (refine gate_guard (by rfl) ?_; dsimp only)); refine box_event ?hg (N := 5) ?hd (cs := #[.int .i64 0, .int .i64 0]) (t := 28) ?hr ?_; (case hd => rfl); (case hg => rfl); (case hr => first | (go_simp; done) | (go_simp; rfl)); intro gb104 hg w29 hbox hb; have n0_ := Aside0.mk (blk_below (g := gb102) (o := .cells #[.slice (some ad103) l0_0.length c0_0, .slice A0_1 l0_1.length c0_1, .slice A0_2 l0_2.length c0_2] 24 (0, 0)) (by (with_reducible repeat (first | refine blk_drewN ?_ _ | refine blk_drew ?_ | refine blk_alloc ?_ _)); exact BK102.out) hb); have n1_ := Aside0.mk (below_step (by repeat (first | (with_reducible first | exact HB.out | apply below_alloc | apply pw_below_drewN | apply below_drew1 | refine below_set ?_ GE102.out) | exact HB.out)) hb); have n2_ := Aside0.mk (hbox); have n3_ := Aside0.mk ((by rw [hg]; exact (below_size (by repeat (first | (with_reducible first | exact HB.out | apply below_alloc | apply pw_below_drewN | apply below_drew1 | refine below_set ?_ GE102.out) | exact HB.out))) : w.heap.size ≤ gb104)); have n4_ := Aside0.mk ((by rw [hg]; exact (below_size (by repeat (first | (with_reducible first | exact HB.out | apply below_alloc | apply pw_below_drewN | apply below_drew1 | refine below_set ?_ GE102.out) | exact HB.out))) : w.heap.size ≤ gb104)); have n5_ := Aside0.mk ((by rw [hg]; exact Nat.ne_of_lt (blk_lt (g := gb102) (o := .cells #[.slice (some ad103) l0_0.length c0_0, .slice A0_1 l0_1.length c0_1, .slice A0_2 l0_2.length c0_2] 24 (0, 0)) (by (with_reducible repeat (first | refine blk_drewN ?_ _ | refine blk_drew ?_ | refine blk_alloc ?_ _)); exact BK102.out)) : gb102 ≠ gb104)); have n6_ := Aside0.mk ((by rw [hg]; exact Nat.ne_of_gt (blk_lt (g := gb102) (o := .cells #[.slice (some ad103) l0_0.length c0_0, .slice A0_1 l0_1.length c0_1, .slice A0_2 l0_2.length c0_2] 24 (0, 0)) (by (with_reducible repeat (first | refine blk_drewN ?_ _ | refine blk_drew ?_ | refine blk_alloc ?_ _)); exact BK102.out)) : gb104 ≠ gb102)); clear BK102; clear HB; have BK102 := n0_; have HB := n1_; have BK104 := n2_; have GW104 := n3_; have GE104 := n4_; have NB102_104 := n5_; have NB104_102 := n6_; clear n0_ n1_ n2_ n3_ n4_ n5_ n6_; clear hb hbox hg; have hnb30 := NB104_102.out; have hnc30 := NB102_104.out; have hcz31_0 : w29.cell? ⟨gb104, 0, none⟩ = some (.int .i64 0) := (blk_cell BK104.out 0).trans rfl; have hcz31_1 : w29.cell? ⟨gb104, 1, none⟩ = some (.int .i64 0) := (blk_cell BK104.out 1).trans rfl; have hfz31_0 := blk_frozen BK104.out 0; have hfz31_1 := blk_frozen BK104.out 1) | ((with_reducible refine gate_callee (f := 76) rfl ?_); refine goesL_ (some 36) rfl rfl Try.func76 (by kernel_rfl) rfl #[.agg #[.int .i64 ((rd_T28 l0_0 x4_2).f0), .int .i64 ((rd_T28 l0_0 x4_2).f1)], .int .i64 (-12), .int .i64 12] rfl (by (try simp only [List.map_toArray, List.map_cons, List.map_nil]); first | done | rfl | (simp only [List.length_drop, List.length_take]; rfl)) ?_; (with_reducible refine (furrowworksref04_span.calls ((rd_T28 l0_0 x4_2).f0) ((rd_T28 l0_0 x4_2).f1) (-12) 12 true _ A13.out).mono ?_); rintro e w32 ⟨rfl, hb⟩; refine ⟨_, rfl, ?_⟩; have n0_ := Aside0.mk (blk_below (g := gb102) (o := .cells #[.slice (some ad103) l0_0.length c0_0, .slice A0_1 l0_1.length c0_1, .slice A0_2 l0_2.length c0_2] 24 (0, 0)) (by (with_reducible repeat (first | refine blk_drewN ?_ _ | refine blk_drew ?_ | refine blk_alloc ?_ _)); refine blk_far ?_ NB102_104.out _; (with_reducible repeat (first | refine blk_drewN ?_ _ | refine blk_drew ?_ | refine blk_alloc ?_ _)); refine blk_far ?_ NB102_104.out _; (with_reducible repeat (first | refine blk_drewN ?_ _ | refine blk_drew ?_ | refine blk_alloc ?_ _)); exact BK102.out) hb); have n1_ := Aside0.mk (blk_below (g := gb104) (o := .cells #[.int .i64 ((rd_T28 l0_0 x4_2).f0), .int .i64 ((rd_T28 l0_0 x4_2).f1)] 28 (0, 0)) (by (with_reducible repeat (first | refine blk_drewN ?_ _ | refine blk_drew ?_ | refine blk_alloc ?_ _)); refine blk_put (cs := #[.int .i64 ((rd_T28 l0_0 x4_2).f0), .int .i64 0]) ?_ 1 _ rfl; (with_reducible repeat (first | refine blk_drewN ?_ _ | refine blk_drew ?_ | refine blk_alloc ?_ _)); refine blk_put (cs := #[.int .i64 0, .int .i64 0]) ?_ 0 _ rfl; (with_reducible repeat (first | refine blk_drewN ?_ _ | refine blk_drew ?_ | refine blk_alloc ?_ _)); exact BK104.out) hb); have n2_ := Aside0.mk (below_step (by repeat (first | (with_reducible first | exact HB.out | apply below_alloc | apply pw_below_drewN | apply below_drew1 | refine below_set ?_ GE102.out | refine below_set ?_ GE104.out) | exact HB.out)) hb); clear BK102; clear BK104; clear HB; have BK102 := n0_; have BK104 := n1_; have HB := n2_; clear n0_ n1_ n2_; (try clear hb); (try clear hb2); (try clear hk); (try clear hi); have hcz33_0 : w32.cell? ⟨gb104, 0, none⟩ = some (.int .i64 ((rd_T28 l0_0 x4_2).f0)) := (blk_cell BK104.out 0).trans rfl; have hcz33_1 : w32.cell? ⟨gb104, 1, none⟩ = some (.int .i64 ((rd_T28 l0_0 x4_2).f1)) := (blk_cell BK104.out 1).trans rfl; have hfz33_0 := blk_frozen BK104.out 0; have hfz33_1 := blk_frozen BK104.out 1; have hcz34_0 : w32.cell? ⟨gb102, 0, none⟩ = some (.slice (some ad103) l0_0.length c0_0) := (blk_cell BK102.out 0).trans rfl; have hcz34_1 : w32.cell? ⟨gb102, 1, none⟩ = some (.slice A0_1 l0_1.length c0_1) := (blk_cell BK102.out 1).trans rfl; have hcz34_2 : w32.cell? ⟨gb102, 2, none⟩ = some (.slice A0_2 l0_2.length c0_2) := (blk_cell BK102.out 2).trans rfl; have hfz34_0 := blk_frozen BK102.out 0; have hfz34_1 := blk_frozen BK102.out 1; have hfz34_2 := blk_frozen BK102.out 2; have p106 : 0 ≤ (x4_2 : Int) := of_decide_eq_true (by first | (with_reducible assumption) | assumption); have q106 : x4_2 < (l0_1.length : Int) := of_decide_eq_true (by first | (with_reducible assumption) | assumption); obtain ⟨ad106, e106, hx106_0, hx106_1⟩ := at_T28 HR0_1.out x4_2 p106 q106; cases e106; replace hx106_0 := (HB.out.cell (World.block_lt_of_cell? w _ hx106_0)).trans hx106_0; replace hx106_1 := (HB.out.cell (World.block_lt_of_cell? w _ hx106_1)).trans hx106_1; replace p106 := eq_true p106; replace q106 := eq_true q106) | (go_at_call 76; (with_reducible refine (furrowworksref04_span.calls ((rd_T28 l0_1 x4_2).f0) ((rd_T28 l0_1 x4_2).f1) 1 60 true _ A23.out).mono ?_); rintro e w35 ⟨rfl, hb⟩; have n0_ := Aside0.mk (blk_below (g := gb102) (o := .cells #[.slice (some ad103) l0_0.length c0_0, .slice (some ad106) l0_1.length c0_1, .slice A0_2 l0_2.length c0_2] 24 (0, 0)) (by (with_reducible repeat (first | refine blk_drewN ?_ _ | refine blk_drew ?_ | refine blk_alloc ?_ _)); exact BK102.out) hb); have n1_ := Aside0.mk (blk_below (g := gb104) (o := .cells #[.int .i64 ((rd_T28 l0_0 x4_2).f0), .int .i64 ((rd_T28 l0_0 x4_2).f1)] 28 (0, 0)) (by (with_reducible repeat (first | refine blk_drewN ?_ _ | refine blk_drew ?_ | refine blk_alloc ?_ _)); exact BK104.out) hb); have n2_ := Aside0.mk (below_step (by repeat (first | (with_reducible first | exact HB.out | apply below_alloc | apply pw_below_drewN | apply below_drew1 | refine below_set ?_ GE102.out | refine below_set ?_ GE104.out) | exact HB.out)) hb); clear BK102; clear BK104; clear HB; have BK102 := n0_; have BK104 := n1_; have HB := n2_; clear n0_ n1_ n2_; (try clear hb); (try clear hb2); (try clear hk); (try clear hi); have hcz36_0 : w35.cell? ⟨gb102, 0, none⟩ = some (.slice (some ad103) l0_0.length c0_0) := (blk_cell BK102.out 0).trans rfl; have hcz36_1 : w35.cell? ⟨gb102, 1, none⟩ = some (.slice (some ad106) l0_1.length c0_1) := (blk_cell BK102.out 1).trans rfl; have hcz36_2 : w35.cell? ⟨gb102, 2, none⟩ = some (.slice A0_2 l0_2.length c0_2) := (blk_cell BK102.out 2).trans rfl; have hfz36_0 := blk_frozen BK102.out 0; have hfz36_1 := blk_frozen BK102.out 1; have hfz36_2 := blk_frozen BK102.out 2; have p108 : 0 ≤ (x4_2 : Int) := of_decide_eq_true (by first | (with_reducible assumption) | assumption); have q108 : x4_2 < (l0_2.length : Int) := of_decide_eq_true (by first | (with_reducible assumption) | assumption); obtain ⟨ad108, e108, hx108_0, hx108_1⟩ := at_T28 HR0_2.out x4_2 p108 q108; cases e108; replace hx108_0 := (HB.out.cell (World.block_lt_of_cell? w _ hx108_0)).trans hx108_0; replace hx108_1 := (HB.out.cell (World.block_lt_of_cell? w _ hx108_1)).trans hx108_1; replace p108 := eq_true p108; replace q108 := eq_true q108) | (go_at_call 76; (with_reducible refine (furrowworksref04_span.calls ((rd_T28 l0_2 x4_2).f0) ((rd_T28 l0_2 x4_2).f1) 0 40 true _ A26.out).mono ?_); rintro e w37 ⟨rfl, hb⟩; have n0_ := Aside0.mk (blk_below (g := gb102) (o := .cells #[.slice (some ad103) l0_0.length c0_0, .slice (some ad106) l0_1.length c0_1, .slice (some ad108) l0_2.length c0_2] 24 (0, 0)) (by (with_reducible repeat (first | refine blk_drewN ?_ _ | refine blk_drew ?_ | refine blk_alloc ?_ _)); exact BK102.out) hb); have n1_ := Aside0.mk (blk_below (g := gb104) (o := .cells #[.int .i64 ((rd_T28 l0_0 x4_2).f0), .int .i64 ((rd_T28 l0_0 x4_2).f1)] 28 (0, 0)) (by (with_reducible repeat (first | refine blk_drewN ?_ _ | refine blk_drew ?_ | refine blk_alloc ?_ _)); exact BK104.out) hb); have n2_ := Aside0.mk (below_step (by repeat (first | (with_reducible first | exact HB.out | apply below_alloc | apply pw_below_drewN | apply below_drew1 | refine below_set ?_ GE102.out | refine below_set ?_ GE104.out) | exact HB.out)) hb); clear BK102; clear BK104; clear HB; have BK102 := n0_; have BK104 := n1_; have HB := n2_; clear n0_ n1_ n2_; (try clear hb); (try clear hb2); (try clear hk); (try clear hi)))
                              go_roundg k2
                              case measure => have := HJ1.out; have := HK2.out; omega
                              case rel => exact ⟨(wrap64 (x4_2 + 1)), (by first | rfl | (simp; done) | (simp [*]; done)), H', ⟨by have := HJ1.out; have := HK2.out; omega⟩, ⟨by (with_reducible repeat (first | refine blk_drewN ?_ _ | refine blk_drew ?_ | refine blk_alloc ?_ _)); exact BK102.out⟩, ⟨by repeat (first | (with_reducible first | exact HB.out | apply below_alloc | apply pw_below_drewN | apply below_drew1 | refine below_set ?_ GE102.out | refine below_set ?_ GE104.out) | exact HB.out)⟩⟩
                            · replace c27 := Bool.eq_false_iff.mpr c27
                              subst c27
                              have H1 : (some false) = some r := by rw [if_neg (show ¬ (false = true) by decide)] at H; exact H
                              clear H
                              have H := H1
                              clear H1
                              obtain rfl := Option.some.inj H
                              have hcz38_0 : wr.cell? ⟨gb102, 0, none⟩ = some (.slice A0_0 l0_0.length c0_0) := (blk_cell BK102.out 0).trans rfl
                              have hcz38_1 : wr.cell? ⟨gb102, 1, none⟩ = some (.slice A0_1 l0_1.length c0_1) := (blk_cell BK102.out 1).trans rfl
                              have hcz38_2 : wr.cell? ⟨gb102, 2, none⟩ = some (.slice A0_2 l0_2.length c0_2) := (blk_cell BK102.out 2).trans rfl
                              have hfz38_0 := blk_frozen BK102.out 0
                              have hfz38_1 := blk_frozen BK102.out 1
                              have hfz38_2 := blk_frozen BK102.out 2
                              have p103 : 0 ≤ (x4_2 : Int) := of_decide_eq_true (by first | (with_reducible assumption) | assumption)
                              have q103 : x4_2 < (l0_0.length : Int) := of_decide_eq_true (by first | (with_reducible assumption) | assumption)
                              obtain ⟨ad103, e103, hx103_0, hx103_1⟩ := at_T28 HR0_0.out x4_2 p103 q103
                              cases e103
                              replace hx103_0 := (HB.out.cell (World.block_lt_of_cell? w _ hx103_0)).trans hx103_0
                              replace hx103_1 := (HB.out.cell (World.block_lt_of_cell? w _ hx103_1)).trans hx103_1
                              replace p103 := eq_true p103
                              replace q103 := eq_true q103
                              go_wp2_with (first | ((with_reducible refine gate_dst (N := 5) rfl ?_); (try (refine gate_guard (by rfl) ?_; dsimp only)); refine box_event ?hg (N := 5) ?hd (cs := #[.int .i64 0, .int .i64 0]) (t := 28) ?hr ?_; (case hd => rfl); (case hg => rfl); (case hr => first | (go_simp; done) | (go_simp; rfl)); intro gb104 hg w39 hbox hb; have n0_ := Aside0.mk (blk_below (g := gb102) (o := .cells #[.slice (some ad103) l0_0.length c0_0, .slice A0_1 l0_1.length c0_1, .slice A0_2 l0_2.length c0_2] 24 (0, 0)) (by (with_reducible repeat (first | refine blk_drewN ?_ _ | refine blk_drew ?_ | refine blk_alloc ?_ _)); exact BK102.out) hb); have n1_ := Aside0.mk (below_step (by repeat (first | (with_reducible first | exact HB.out | apply below_alloc | apply pw_below_drewN | apply below_drew1 | refine below_set ?_ GE102.out) | exact HB.out)) hb); have n2_ := Aside0.mk (hbox); have n3_ := Aside0.mk ((by rw [hg]; exact (below_size (by repeat (first | (with_reducible first | exact HB.out | apply below_alloc | apply pw_below_drewN | apply below_drew1 | refine below_set ?_ GE102.out) | exact HB.out))) : w.heap.size ≤ gb104)); have n4_ := Aside0.mk ((by rw [hg]; exact (below_size (by repeat (first | (with_reducible first | exact HB.out | apply below_alloc | apply pw_below_drewN | apply below_drew1 | refine below_set ?_ GE102.out) | exact HB.out))) : w.heap.size ≤ gb104)); have n5_ := Aside0.mk ((by rw [hg]; exact Nat.ne_of_lt (blk_lt (g := gb102) (o := .cells #[.slice (some ad103) l0_0.length c0_0, .slice A0_1 l0_1.length c0_1, .slice A0_2 l0_2.length c0_2] 24 (0, 0)) (by (with_reducible repeat (first | refine blk_drewN ?_ _ | refine blk_drew ?_ | refine blk_alloc ?_ _)); exact BK102.out)) : gb102 ≠ gb104)); have n6_ := Aside0.mk ((by rw [hg]; exact Nat.ne_of_gt (blk_lt (g := gb102) (o := .cells #[.slice (some ad103) l0_0.length c0_0, .slice A0_1 l0_1.length c0_1, .slice A0_2 l0_2.length c0_2] 24 (0, 0)) (by (with_reducible repeat (first | refine blk_drewN ?_ _ | refine blk_drew ?_ | refine blk_alloc ?_ _)); exact BK102.out)) : gb104 ≠ gb102)); clear BK102; clear HB; have BK102 := n0_; have HB := n1_; have BK104 := n2_; have GW104 := n3_; have GE104 := n4_; have NB102_104 := n5_; have NB104_102 := n6_; clear n0_ n1_ n2_ n3_ n4_ n5_ n6_; clear hb hbox hg; have hnb40 := NB104_102.out; have hnc40 := NB102_104.out; have hcz41_0 : w39.cell? ⟨gb104, 0, none⟩ = some (.int .i64 0) := (blk_cell BK104.out 0).trans rfl; have hcz41_1 : w39.cell? ⟨gb104, 1, none⟩ = some (.int .i64 0) := (blk_cell BK104.out 1).trans rfl; have hfz41_0 := blk_frozen BK104.out 0; have hfz41_1 := blk_frozen BK104.out 1) | ((with_reducible refine gate_callee (f := 76) rfl ?_); refine goesL_ (some 36) rfl rfl Try.func76 (by kernel_rfl) rfl #[.agg #[.int .i64 ((rd_T28 l0_0 x4_2).f0), .int .i64 ((rd_T28 l0_0 x4_2).f1)], .int .i64 (-12), .int .i64 12] rfl (by (try simp only [List.map_toArray, List.map_cons, List.map_nil]); first | done | rfl | (simp only [List.length_drop, List.length_take]; rfl)) ?_; (with_reducible refine (furrowworksref04_span.calls ((rd_T28 l0_0 x4_2).f0) ((rd_T28 l0_0 x4_2).f1) (-12) 12 true _ A13.out).mono ?_); rintro e w42 ⟨rfl, hb⟩; refine ⟨_, rfl, ?_⟩; have n0_ := Aside0.mk (blk_below (g := gb102) (o := .cells #[.slice (some ad103) l0_0.length c0_0, .slice A0_1 l0_1.length c0_1, .slice A0_2 l0_2.length c0_2] 24 (0, 0)) (by (with_reducible repeat (first | refine blk_drewN ?_ _ | refine blk_drew ?_ | refine blk_alloc ?_ _)); refine blk_far ?_ NB102_104.out _; (with_reducible repeat (first | refine blk_drewN ?_ _ | refine blk_drew ?_ | refine blk_alloc ?_ _)); refine blk_far ?_ NB102_104.out _; (with_reducible repeat (first | refine blk_drewN ?_ _ | refine blk_drew ?_ | refine blk_alloc ?_ _)); exact BK102.out) hb); have n1_ := Aside0.mk (blk_below (g := gb104) (o := .cells #[.int .i64 ((rd_T28 l0_0 x4_2).f0), .int .i64 ((rd_T28 l0_0 x4_2).f1)] 28 (0, 0)) (by (with_reducible repeat (first | refine blk_drewN ?_ _ | refine blk_drew ?_ | refine blk_alloc ?_ _)); refine blk_put (cs := #[.int .i64 ((rd_T28 l0_0 x4_2).f0), .int .i64 0]) ?_ 1 _ rfl; (with_reducible repeat (first | refine blk_drewN ?_ _ | refine blk_drew ?_ | refine blk_alloc ?_ _)); refine blk_put (cs := #[.int .i64 0, .int .i64 0]) ?_ 0 _ rfl; (with_reducible repeat (first | refine blk_drewN ?_ _ | refine blk_drew ?_ | refine blk_alloc ?_ _)); exact BK104.out) hb); have n2_ := Aside0.mk (below_step (by repeat (first | (with_reducible first | exact HB.out | apply below_alloc | apply pw_below_drewN | apply below_drew1 | refine below_set ?_ GE102.out | refine below_set ?_ GE104.out) | exact HB.out)) hb); clear BK102; clear BK104; clear HB; have BK102 := n0_; have BK104 := n1_; have HB := n2_; clear n0_ n1_ n2_; (try clear hb); (try clear hb2); (try clear hk); (try clear hi); have hcz43_0 : w42.cell? ⟨gb104, 0, none⟩ = some (.int .i64 ((rd_T28 l0_0 x4_2).f0)) := (blk_cell BK104.out 0).trans rfl; have hcz43_1 : w42.cell? ⟨gb104, 1, none⟩ = some (.int .i64 ((rd_T28 l0_0 x4_2).f1)) := (blk_cell BK104.out 1).trans rfl; have hfz43_0 := blk_frozen BK104.out 0; have hfz43_1 := blk_frozen BK104.out 1; have hcz44_0 : w42.cell? ⟨gb102, 0, none⟩ = some (.slice (some ad103) l0_0.length c0_0) := (blk_cell BK102.out 0).trans rfl; have hcz44_1 : w42.cell? ⟨gb102, 1, none⟩ = some (.slice A0_1 l0_1.length c0_1) := (blk_cell BK102.out 1).trans rfl; have hcz44_2 : w42.cell? ⟨gb102, 2, none⟩ = some (.slice A0_2 l0_2.length c0_2) := (blk_cell BK102.out 2).trans rfl; have hfz44_0 := blk_frozen BK102.out 0; have hfz44_1 := blk_frozen BK102.out 1; have hfz44_2 := blk_frozen BK102.out 2; have p106 : 0 ≤ (x4_2 : Int) := of_decide_eq_true (by first | (with_reducible assumption) | assumption); have q106 : x4_2 < (l0_1.length : Int) := of_decide_eq_true (by first | (with_reducible assumption) | assumption); obtain ⟨ad106, e106, hx106_0, hx106_1⟩ := at_T28 HR0_1.out x4_2 p106 q106; cases e106; replace hx106_0 := (HB.out.cell (World.block_lt_of_cell? w _ hx106_0)).trans hx106_0; replace hx106_1 := (HB.out.cell (World.block_lt_of_cell? w _ hx106_1)).trans hx106_1; replace p106 := eq_true p106; replace q106 := eq_true q106) | (go_at_call 76; (with_reducible refine (furrowworksref04_span.calls ((rd_T28 l0_1 x4_2).f0) ((rd_T28 l0_1 x4_2).f1) 1 60 true _ A23.out).mono ?_); rintro e w45 ⟨rfl, hb⟩; have n0_ := Aside0.mk (blk_below (g := gb102) (o := .cells #[.slice (some ad103) l0_0.length c0_0, .slice (some ad106) l0_1.length c0_1, .slice A0_2 l0_2.length c0_2] 24 (0, 0)) (by (with_reducible repeat (first | refine blk_drewN ?_ _ | refine blk_drew ?_ | refine blk_alloc ?_ _)); exact BK102.out) hb); have n1_ := Aside0.mk (blk_below (g := gb104) (o := .cells #[.int .i64 ((rd_T28 l0_0 x4_2).f0), .int .i64 ((rd_T28 l0_0 x4_2).f1)] 28 (0, 0)) (by (with_reducible repeat (first | refine blk_drewN ?_ _ | refine blk_drew ?_ | refine blk_alloc ?_ _)); exact BK104.out) hb); have n2_ := Aside0.mk (below_step (by repeat (first | (with_reducible first | exact HB.out | apply below_alloc | apply pw_below_drewN | apply below_drew1 | refine below_set ?_ GE102.out | refine below_set ?_ GE104.out) | exact HB.out)) hb); clear BK102; clear BK104; clear HB; have BK102 := n0_; have BK104 := n1_; have HB := n2_; clear n0_ n1_ n2_; (try clear hb); (try clear hb2); (try clear hk); (try clear hi); have hcz46_0 : w45.cell? ⟨gb102, 0, none⟩ = some (.slice (some ad103) l0_0.length c0_0) := (blk_cell BK102.out 0).trans rfl; have hcz46_1 : w45.cell? ⟨gb102, 1, none⟩ = some (.slice (some ad106) l0_1.length c0_1) := (blk_cell BK102.out 1).trans rfl; have hcz46_2 : w45.cell? ⟨gb102, 2, none⟩ = some (.slice A0_2 l0_2.length c0_2) := (blk_cell BK102.out 2).trans rfl; have hfz46_0 := blk_frozen BK102.out 0; have hfz46_1 := blk_frozen BK102.out 1; have hfz46_2 := blk_frozen BK102.out 2; have p108 : 0 ≤ (x4_2 : Int) := of_decide_eq_true (by first | (with_reducible assumption) | assumption); have q108 : x4_2 < (l0_2.length : Int) := of_decide_eq_true (by first | (with_reducible assumption) | assumption); obtain ⟨ad108, e108, hx108_0, hx108_1⟩ := at_T28 HR0_2.out x4_2 p108 q108; cases e108; replace hx108_0 := (HB.out.cell (World.block_lt_of_cell? w _ hx108_0)).trans hx108_0; replace hx108_1 := (HB.out.cell (World.block_lt_of_cell? w _ hx108_1)).trans hx108_1; replace p108 := eq_true p108; replace q108 := eq_true q108) | (go_at_call 76; (with_reducible refine (furrowworksref04_span.calls ((rd_T28 l0_2 x4_2).f0) ((rd_T28 l0_2 x4_2).f1) 0 40 false _ A26.out).mono ?_); rintro e w47 ⟨rfl, hb⟩; have n0_ := Aside0.mk (blk_below (g := gb102) (o := .cells #[.slice (some ad103) l0_0.length c0_0, .slice (some ad106) l0_1.length c0_1, .slice (some ad108) l0_2.length c0_2] 24 (0, 0)) (by (with_reducible repeat (first | refine blk_drewN ?_ _ | refine blk_drew ?_ | refine blk_alloc ?_ _)); exact BK102.out) hb); have n1_ := Aside0.mk (blk_below (g := gb104) (o := .cells #[.int .i64 ((rd_T28 l0_0 x4_2).f0), .int .i64 ((rd_T28 l0_0 x4_2).f1)] 28 (0, 0)) (by (with_reducible repeat (first | refine blk_drewN ?_ _ | refine blk_drew ?_ | refine blk_alloc ?_ _)); exact BK104.out) hb); have n2_ := Aside0.mk (below_step (by repeat (first | (with_reducible first | exact HB.out | apply below_alloc | apply pw_below_drewN | apply below_drew1 | refine below_set ?_ GE102.out | refine below_set ?_ GE104.out) | exact HB.out)) hb); clear BK102; clear BK104; clear HB; have BK102 := n0_; have BK104 := n1_; have HB := n2_; clear n0_ n1_ n2_; (try clear hb); (try clear hb2); (try clear hk); (try clear hi)))
                              go_ret
                              exact ⟨by first | rfl | (simp [errW_none, errW_some] <;> rfl) | (simp [*, errW_none, errW_some] <;> rfl), by repeat (first | (with_reducible first | exact HB.out | apply below_alloc | apply pw_below_drewN | apply below_drew1 | refine below_set ?_ GE102.out | refine below_set ?_ GE104.out) | exact HB.out)⟩
                          · rw [if_neg c25] at H
                            exact absurd H (by simp)
                        · replace c24 := Bool.eq_false_iff.mpr c24
                          subst c24
                          have H1 : (some false) = some r := by rw [if_neg (show ¬ (false = true) by decide)] at H; exact H
                          clear H
                          have H := H1
                          clear H1
                          obtain rfl := Option.some.inj H
                          have hcz48_0 : wr.cell? ⟨gb102, 0, none⟩ = some (.slice A0_0 l0_0.length c0_0) := (blk_cell BK102.out 0).trans rfl
                          have hcz48_1 : wr.cell? ⟨gb102, 1, none⟩ = some (.slice A0_1 l0_1.length c0_1) := (blk_cell BK102.out 1).trans rfl
                          have hcz48_2 : wr.cell? ⟨gb102, 2, none⟩ = some (.slice A0_2 l0_2.length c0_2) := (blk_cell BK102.out 2).trans rfl
                          have hfz48_0 := blk_frozen BK102.out 0
                          have hfz48_1 := blk_frozen BK102.out 1
                          have hfz48_2 := blk_frozen BK102.out 2
                          have p103 : 0 ≤ (x4_2 : Int) := of_decide_eq_true (by first | (with_reducible assumption) | assumption)
                          have q103 : x4_2 < (l0_0.length : Int) := of_decide_eq_true (by first | (with_reducible assumption) | assumption)
                          obtain ⟨ad103, e103, hx103_0, hx103_1⟩ := at_T28 HR0_0.out x4_2 p103 q103
                          cases e103
                          replace hx103_0 := (HB.out.cell (World.block_lt_of_cell? w _ hx103_0)).trans hx103_0
                          replace hx103_1 := (HB.out.cell (World.block_lt_of_cell? w _ hx103_1)).trans hx103_1
                          replace p103 := eq_true p103
                          replace q103 := eq_true q103
                          go_wp2_with (first | ((with_reducible refine gate_dst (N := 5) rfl ?_); (try (refine gate_guard (by rfl) ?_; dsimp only)); refine box_event ?hg (N := 5) ?hd (cs := #[.int .i64 0, .int .i64 0]) (t := 28) ?hr ?_; (case hd => rfl); (case hg => rfl); (case hr => first | (go_simp; done) | (go_simp; rfl)); intro gb104 hg w49 hbox hb; have n0_ := Aside0.mk (blk_below (g := gb102) (o := .cells #[.slice (some ad103) l0_0.length c0_0, .slice A0_1 l0_1.length c0_1, .slice A0_2 l0_2.length c0_2] 24 (0, 0)) (by (with_reducible repeat (first | refine blk_drewN ?_ _ | refine blk_drew ?_ | refine blk_alloc ?_ _)); exact BK102.out) hb); have n1_ := Aside0.mk (below_step (by repeat (first | (with_reducible first | exact HB.out | apply below_alloc | apply pw_below_drewN | apply below_drew1 | refine below_set ?_ GE102.out) | exact HB.out)) hb); have n2_ := Aside0.mk (hbox); have n3_ := Aside0.mk ((by rw [hg]; exact (below_size (by repeat (first | (with_reducible first | exact HB.out | apply below_alloc | apply pw_below_drewN | apply below_drew1 | refine below_set ?_ GE102.out) | exact HB.out))) : w.heap.size ≤ gb104)); have n4_ := Aside0.mk ((by rw [hg]; exact (below_size (by repeat (first | (with_reducible first | exact HB.out | apply below_alloc | apply pw_below_drewN | apply below_drew1 | refine below_set ?_ GE102.out) | exact HB.out))) : w.heap.size ≤ gb104)); have n5_ := Aside0.mk ((by rw [hg]; exact Nat.ne_of_lt (blk_lt (g := gb102) (o := .cells #[.slice (some ad103) l0_0.length c0_0, .slice A0_1 l0_1.length c0_1, .slice A0_2 l0_2.length c0_2] 24 (0, 0)) (by (with_reducible repeat (first | refine blk_drewN ?_ _ | refine blk_drew ?_ | refine blk_alloc ?_ _)); exact BK102.out)) : gb102 ≠ gb104)); have n6_ := Aside0.mk ((by rw [hg]; exact Nat.ne_of_gt (blk_lt (g := gb102) (o := .cells #[.slice (some ad103) l0_0.length c0_0, .slice A0_1 l0_1.length c0_1, .slice A0_2 l0_2.length c0_2] 24 (0, 0)) (by (with_reducible repeat (first | refine blk_drewN ?_ _ | refine blk_drew ?_ | refine blk_alloc ?_ _)); exact BK102.out)) : gb104 ≠ gb102)); clear BK102; clear HB; have BK102 := n0_; have HB := n1_; have BK104 := n2_; have GW104 := n3_; have GE104 := n4_; have NB102_104 := n5_; have NB104_102 := n6_; clear n0_ n1_ n2_ n3_ n4_ n5_ n6_; clear hb hbox hg; have hnb50 := NB104_102.out; have hnc50 := NB102_104.out; have hcz51_0 : w49.cell? ⟨gb104, 0, none⟩ = some (.int .i64 0) := (blk_cell BK104.out 0).trans rfl; have hcz51_1 : w49.cell? ⟨gb104, 1, none⟩ = some (.int .i64 0) := (blk_cell BK104.out 1).trans rfl; have hfz51_0 := blk_frozen BK104.out 0; have hfz51_1 := blk_frozen BK104.out 1) | ((with_reducible refine gate_callee (f := 76) rfl ?_); refine goesL_ (some 36) rfl rfl Try.func76 (by kernel_rfl) rfl #[.agg #[.int .i64 ((rd_T28 l0_0 x4_2).f0), .int .i64 ((rd_T28 l0_0 x4_2).f1)], .int .i64 (-12), .int .i64 12] rfl (by (try simp only [List.map_toArray, List.map_cons, List.map_nil]); first | done | rfl | (simp only [List.length_drop, List.length_take]; rfl)) ?_; (with_reducible refine (furrowworksref04_span.calls ((rd_T28 l0_0 x4_2).f0) ((rd_T28 l0_0 x4_2).f1) (-12) 12 true _ A13.out).mono ?_); rintro e w52 ⟨rfl, hb⟩; refine ⟨_, rfl, ?_⟩; have n0_ := Aside0.mk (blk_below (g := gb102) (o := .cells #[.slice (some ad103) l0_0.length c0_0, .slice A0_1 l0_1.length c0_1, .slice A0_2 l0_2.length c0_2] 24 (0, 0)) (by (with_reducible repeat (first | refine blk_drewN ?_ _ | refine blk_drew ?_ | refine blk_alloc ?_ _)); refine blk_far ?_ NB102_104.out _; (with_reducible repeat (first | refine blk_drewN ?_ _ | refine blk_drew ?_ | refine blk_alloc ?_ _)); refine blk_far ?_ NB102_104.out _; (with_reducible repeat (first | refine blk_drewN ?_ _ | refine blk_drew ?_ | refine blk_alloc ?_ _)); exact BK102.out) hb); have n1_ := Aside0.mk (blk_below (g := gb104) (o := .cells #[.int .i64 ((rd_T28 l0_0 x4_2).f0), .int .i64 ((rd_T28 l0_0 x4_2).f1)] 28 (0, 0)) (by (with_reducible repeat (first | refine blk_drewN ?_ _ | refine blk_drew ?_ | refine blk_alloc ?_ _)); refine blk_put (cs := #[.int .i64 ((rd_T28 l0_0 x4_2).f0), .int .i64 0]) ?_ 1 _ rfl; (with_reducible repeat (first | refine blk_drewN ?_ _ | refine blk_drew ?_ | refine blk_alloc ?_ _)); refine blk_put (cs := #[.int .i64 0, .int .i64 0]) ?_ 0 _ rfl; (with_reducible repeat (first | refine blk_drewN ?_ _ | refine blk_drew ?_ | refine blk_alloc ?_ _)); exact BK104.out) hb); have n2_ := Aside0.mk (below_step (by repeat (first | (with_reducible first | exact HB.out | apply below_alloc | apply pw_below_drewN | apply below_drew1 | refine below_set ?_ GE102.out | refine below_set ?_ GE104.out) | exact HB.out)) hb); clear BK102; clear BK104; clear HB; have BK102 := n0_; have BK104 := n1_; have HB := n2_; clear n0_ n1_ n2_; (try clear hb); (try clear hb2); (try clear hk); (try clear hi); have hcz53_0 : w52.cell? ⟨gb104, 0, none⟩ = some (.int .i64 ((rd_T28 l0_0 x4_2).f0)) := (blk_cell BK104.out 0).trans rfl; have hcz53_1 : w52.cell? ⟨gb104, 1, none⟩ = some (.int .i64 ((rd_T28 l0_0 x4_2).f1)) := (blk_cell BK104.out 1).trans rfl; have hfz53_0 := blk_frozen BK104.out 0; have hfz53_1 := blk_frozen BK104.out 1; have hcz54_0 : w52.cell? ⟨gb102, 0, none⟩ = some (.slice (some ad103) l0_0.length c0_0) := (blk_cell BK102.out 0).trans rfl; have hcz54_1 : w52.cell? ⟨gb102, 1, none⟩ = some (.slice A0_1 l0_1.length c0_1) := (blk_cell BK102.out 1).trans rfl; have hcz54_2 : w52.cell? ⟨gb102, 2, none⟩ = some (.slice A0_2 l0_2.length c0_2) := (blk_cell BK102.out 2).trans rfl; have hfz54_0 := blk_frozen BK102.out 0; have hfz54_1 := blk_frozen BK102.out 1; have hfz54_2 := blk_frozen BK102.out 2; have p106 : 0 ≤ (x4_2 : Int) := of_decide_eq_true (by first | (with_reducible assumption) | assumption); have q106 : x4_2 < (l0_1.length : Int) := of_decide_eq_true (by first | (with_reducible assumption) | assumption); obtain ⟨ad106, e106, hx106_0, hx106_1⟩ := at_T28 HR0_1.out x4_2 p106 q106; cases e106; replace hx106_0 := (HB.out.cell (World.block_lt_of_cell? w _ hx106_0)).trans hx106_0; replace hx106_1 := (HB.out.cell (World.block_lt_of_cell? w _ hx106_1)).trans hx106_1; replace p106 := eq_true p106; replace q106 := eq_true q106) | (go_at_call 76; (with_reducible refine (furrowworksref04_span.calls ((rd_T28 l0_1 x4_2).f0) ((rd_T28 l0_1 x4_2).f1) 1 60 false _ A23.out).mono ?_); rintro e w55 ⟨rfl, hb⟩; have n0_ := Aside0.mk (blk_below (g := gb102) (o := .cells #[.slice (some ad103) l0_0.length c0_0, .slice (some ad106) l0_1.length c0_1, .slice A0_2 l0_2.length c0_2] 24 (0, 0)) (by (with_reducible repeat (first | refine blk_drewN ?_ _ | refine blk_drew ?_ | refine blk_alloc ?_ _)); exact BK102.out) hb); have n1_ := Aside0.mk (blk_below (g := gb104) (o := .cells #[.int .i64 ((rd_T28 l0_0 x4_2).f0), .int .i64 ((rd_T28 l0_0 x4_2).f1)] 28 (0, 0)) (by (with_reducible repeat (first | refine blk_drewN ?_ _ | refine blk_drew ?_ | refine blk_alloc ?_ _)); exact BK104.out) hb); have n2_ := Aside0.mk (below_step (by repeat (first | (with_reducible first | exact HB.out | apply below_alloc | apply pw_below_drewN | apply below_drew1 | refine below_set ?_ GE102.out | refine below_set ?_ GE104.out) | exact HB.out)) hb); clear BK102; clear BK104; clear HB; have BK102 := n0_; have BK104 := n1_; have HB := n2_; clear n0_ n1_ n2_; (try clear hb); (try clear hb2); (try clear hk); (try clear hi)))
                          go_ret
                          exact ⟨by first | rfl | (simp [errW_none, errW_some] <;> rfl) | (simp [*, errW_none, errW_some] <;> rfl), by repeat (first | (with_reducible first | exact HB.out | apply below_alloc | apply pw_below_drewN | apply below_drew1 | refine below_set ?_ GE102.out | refine below_set ?_ GE104.out) | exact HB.out)⟩
                      · rw [if_neg c22] at H
                        exact absurd H (by simp)
                  · replace c14 := Bool.eq_false_iff.mpr c14
                    subst c14
                    have H1 : (some false) = some r := by rw [if_neg (show ¬ (false = true) by decide)] at H; exact H
                    clear H
                    have H := H1
                    clear H1
                    obtain rfl := Option.some.inj H
                    have hcz56_0 : wr.cell? ⟨gb102, 0, none⟩ = some (.slice A0_0 l0_0.length c0_0) := (blk_cell BK102.out 0).trans rfl
                    have hcz56_1 : wr.cell? ⟨gb102, 1, none⟩ = some (.slice A0_1 l0_1.length c0_1) := (blk_cell BK102.out 1).trans rfl
                    have hcz56_2 : wr.cell? ⟨gb102, 2, none⟩ = some (.slice A0_2 l0_2.length c0_2) := (blk_cell BK102.out 2).trans rfl
                    have hfz56_0 := blk_frozen BK102.out 0
                    have hfz56_1 := blk_frozen BK102.out 1
                    have hfz56_2 := blk_frozen BK102.out 2
                    have p103 : 0 ≤ (x4_2 : Int) := of_decide_eq_true (by first | (with_reducible assumption) | assumption)
                    have q103 : x4_2 < (l0_0.length : Int) := of_decide_eq_true (by first | (with_reducible assumption) | assumption)
                    obtain ⟨ad103, e103, hx103_0, hx103_1⟩ := at_T28 HR0_0.out x4_2 p103 q103
                    cases e103
                    replace hx103_0 := (HB.out.cell (World.block_lt_of_cell? w _ hx103_0)).trans hx103_0
                    replace hx103_1 := (HB.out.cell (World.block_lt_of_cell? w _ hx103_1)).trans hx103_1
                    replace p103 := eq_true p103
                    replace q103 := eq_true q103
                    go_wp2_with (first | ((with_reducible refine gate_dst (N := 5) rfl ?_); (try (refine gate_guard (by rfl) ?_; dsimp only)); refine box_event ?hg (N := 5) ?hd (cs := #[.int .i64 0, .int .i64 0]) (t := 28) ?hr ?_; (case hd => rfl); (case hg => rfl); (case hr => first | (go_simp; done) | (go_simp; rfl)); intro gb104 hg w57 hbox hb; have n0_ := Aside0.mk (blk_below (g := gb102) (o := .cells #[.slice (some ad103) l0_0.length c0_0, .slice A0_1 l0_1.length c0_1, .slice A0_2 l0_2.length c0_2] 24 (0, 0)) (by (with_reducible repeat (first | refine blk_drewN ?_ _ | refine blk_drew ?_ | refine blk_alloc ?_ _)); exact BK102.out) hb); have n1_ := Aside0.mk (below_step (by repeat (first | (with_reducible first | exact HB.out | apply below_alloc | apply pw_below_drewN | apply below_drew1 | refine below_set ?_ GE102.out) | exact HB.out)) hb); have n2_ := Aside0.mk (hbox); have n3_ := Aside0.mk ((by rw [hg]; exact (below_size (by repeat (first | (with_reducible first | exact HB.out | apply below_alloc | apply pw_below_drewN | apply below_drew1 | refine below_set ?_ GE102.out) | exact HB.out))) : w.heap.size ≤ gb104)); have n4_ := Aside0.mk ((by rw [hg]; exact (below_size (by repeat (first | (with_reducible first | exact HB.out | apply below_alloc | apply pw_below_drewN | apply below_drew1 | refine below_set ?_ GE102.out) | exact HB.out))) : w.heap.size ≤ gb104)); have n5_ := Aside0.mk ((by rw [hg]; exact Nat.ne_of_lt (blk_lt (g := gb102) (o := .cells #[.slice (some ad103) l0_0.length c0_0, .slice A0_1 l0_1.length c0_1, .slice A0_2 l0_2.length c0_2] 24 (0, 0)) (by (with_reducible repeat (first | refine blk_drewN ?_ _ | refine blk_drew ?_ | refine blk_alloc ?_ _)); exact BK102.out)) : gb102 ≠ gb104)); have n6_ := Aside0.mk ((by rw [hg]; exact Nat.ne_of_gt (blk_lt (g := gb102) (o := .cells #[.slice (some ad103) l0_0.length c0_0, .slice A0_1 l0_1.length c0_1, .slice A0_2 l0_2.length c0_2] 24 (0, 0)) (by (with_reducible repeat (first | refine blk_drewN ?_ _ | refine blk_drew ?_ | refine blk_alloc ?_ _)); exact BK102.out)) : gb104 ≠ gb102)); clear BK102; clear HB; have BK102 := n0_; have HB := n1_; have BK104 := n2_; have GW104 := n3_; have GE104 := n4_; have NB102_104 := n5_; have NB104_102 := n6_; clear n0_ n1_ n2_ n3_ n4_ n5_ n6_; clear hb hbox hg; have hnb58 := NB104_102.out; have hnc58 := NB102_104.out; have hcz59_0 : w57.cell? ⟨gb104, 0, none⟩ = some (.int .i64 0) := (blk_cell BK104.out 0).trans rfl; have hcz59_1 : w57.cell? ⟨gb104, 1, none⟩ = some (.int .i64 0) := (blk_cell BK104.out 1).trans rfl; have hfz59_0 := blk_frozen BK104.out 0; have hfz59_1 := blk_frozen BK104.out 1) | ((with_reducible refine gate_callee (f := 76) rfl ?_); refine goesL_ (some 36) rfl rfl Try.func76 (by kernel_rfl) rfl #[.agg #[.int .i64 ((rd_T28 l0_0 x4_2).f0), .int .i64 ((rd_T28 l0_0 x4_2).f1)], .int .i64 (-12), .int .i64 12] rfl (by (try simp only [List.map_toArray, List.map_cons, List.map_nil]); first | done | rfl | (simp only [List.length_drop, List.length_take]; rfl)) ?_; (with_reducible refine (furrowworksref04_span.calls ((rd_T28 l0_0 x4_2).f0) ((rd_T28 l0_0 x4_2).f1) (-12) 12 false _ A13.out).mono ?_); rintro e w60 ⟨rfl, hb⟩; refine ⟨_, rfl, ?_⟩; have n0_ := Aside0.mk (blk_below (g := gb102) (o := .cells #[.slice (some ad103) l0_0.length c0_0, .slice A0_1 l0_1.length c0_1, .slice A0_2 l0_2.length c0_2] 24 (0, 0)) (by (with_reducible repeat (first | refine blk_drewN ?_ _ | refine blk_drew ?_ | refine blk_alloc ?_ _)); refine blk_far ?_ NB102_104.out _; (with_reducible repeat (first | refine blk_drewN ?_ _ | refine blk_drew ?_ | refine blk_alloc ?_ _)); refine blk_far ?_ NB102_104.out _; (with_reducible repeat (first | refine blk_drewN ?_ _ | refine blk_drew ?_ | refine blk_alloc ?_ _)); exact BK102.out) hb); have n1_ := Aside0.mk (blk_below (g := gb104) (o := .cells #[.int .i64 ((rd_T28 l0_0 x4_2).f0), .int .i64 ((rd_T28 l0_0 x4_2).f1)] 28 (0, 0)) (by (with_reducible repeat (first | refine blk_drewN ?_ _ | refine blk_drew ?_ | refine blk_alloc ?_ _)); refine blk_put (cs := #[.int .i64 ((rd_T28 l0_0 x4_2).f0), .int .i64 0]) ?_ 1 _ rfl; (with_reducible repeat (first | refine blk_drewN ?_ _ | refine blk_drew ?_ | refine blk_alloc ?_ _)); refine blk_put (cs := #[.int .i64 0, .int .i64 0]) ?_ 0 _ rfl; (with_reducible repeat (first | refine blk_drewN ?_ _ | refine blk_drew ?_ | refine blk_alloc ?_ _)); exact BK104.out) hb); have n2_ := Aside0.mk (below_step (by repeat (first | (with_reducible first | exact HB.out | apply below_alloc | apply pw_below_drewN | apply below_drew1 | refine below_set ?_ GE102.out | refine below_set ?_ GE104.out) | exact HB.out)) hb); clear BK102; clear BK104; clear HB; have BK102 := n0_; have BK104 := n1_; have HB := n2_; clear n0_ n1_ n2_; (try clear hb); (try clear hb2); (try clear hk); (try clear hi)))
                    go_ret
                    exact ⟨by first | rfl | (simp [errW_none, errW_some] <;> rfl) | (simp [*, errW_none, errW_some] <;> rfl), by repeat (first | (with_reducible first | exact HB.out | apply below_alloc | apply pw_below_drewN | apply below_drew1 | refine below_set ?_ GE102.out | refine below_set ?_ GE104.out) | exact HB.out)⟩
                · rw [if_neg c12] at H
                  exact absurd H (by simp)
              · rw [if_neg c11] at H
                exact absurd H (by simp)
            · rw [if_neg c10] at H
              have c10b0 : decide (x4_2 < (l0_0.length : Int)) = false := decide_eq_false c10
              clear c10
              obtain rfl := Option.some.inj H
              go_wp2
              go_ret
              exact ⟨by first | rfl | (simp [errW_none, errW_some] <;> rfl) | (simp [*, errW_none, errW_some] <;> rfl), by repeat (first | (with_reducible first | exact HB.out | apply below_alloc | apply pw_below_drewN | apply below_drew1 | refine below_set ?_ GE102.out) | exact HB.out)⟩

end Go.Proofs.Ytafmgmaelnpehaa.PFurrowAsks
end

section
set_option linter.unusedVariables false
set_option linter.unusedSimpArgs false
namespace Go.Proofs.Ytafmgmaelnpehaa
open Go.RowKit PFurrowAsks
def stOk (o w d : S28) : Bool := decide (-12 ≤ o.f0 ∧ o.f0 ≤ o.f1 ∧ o.f1 ≤ 12) && decide (o.f1 - o.f0 ≤ 6) && decide (1 ≤ w.f0 ∧ w.f0 ≤ w.f1 ∧ w.f1 ≤ 60) && decide (0 ≤ d.f0 ∧ d.f0 ≤ d.f1 ∧ d.f1 ≤ 40)
/-- From station i on, n of them. -/
def stsOk (l0 l1 l2 : List S28) : Nat → Nat → Bool
  | _, 0 => true
  | i, n + 1 => stOk (rd_T28 l0 i) (rd_T28 l1 i) (rd_T28 l2 i) && stsOk l0 l1 l2 (i + 1) n
def valid (l0 l1 l2 : List S28) : Bool := decide (l0.length ≤ 8) && decide (l1.length = l0.length) && decide (l2.length = l0.length) && stsOk l0 l1 l2 0 l0.length
theorem within_is (a b lo hi : Int) : furrow_span_within.f a b lo hi = some (decide (lo ≤ a ∧ a ≤ b ∧ b ≤ hi)) := by
  unfold furrow_span_within.f
  by_cases h1 : lo ≤ a <;> by_cases h2 : a ≤ b <;> simp [h1, h2]
theorem span_is (a b lo hi : Int) : furrowworksref04_span.f a b lo hi = some (decide (lo ≤ a ∧ a ≤ b ∧ b ≤ hi)) := by
  unfold furrowworksref04_span.f
  by_cases h1 : lo ≤ a <;> by_cases h2 : a ≤ b <;> simp [h1, h2]
theorem stsOk_all (l0 l1 l2 : List S28) : ∀ (n i : Nat), stsOk l0 l1 l2 i n = true ↔ ∀ j, i ≤ j → j < i + n → stOk (rd_T28 l0 j) (rd_T28 l1 j) (rd_T28 l2 j) = true
  | 0, i => by simp [stsOk]; omega
  | n + 1, i => by
    simp only [stsOk, Bool.and_eq_true, stsOk_all l0 l1 l2 n (i + 1)]
    constructor
    · rintro ⟨h1, h2⟩ j hj hj2
      by_cases e : j = i
      · rw [e]; exact h1
      · exact h2 j (by omega) (by omega)
    · exact fun h => ⟨h i (Nat.le_refl _) (by omega), fun j h1 h2 => h j (by omega) (by omega)⟩
theorem wrap_one {i n : Nat} (h : i < n) (hn : n ≤ 8) : wrap64 ((i : Int) + 1) = ((i + 1 : Nat) : Int) := by unfold wrap64; omega
theorem wrap_sub {a b : Int} (h : decide (-12 ≤ a ∧ a ≤ b ∧ b ≤ 12) = true) : wrap64 (b - a) = b - a := by
  have := of_decide_eq_true h
  unfold wrap64; omega
theorem refFurrow_l0 (l0 l1 l2 : List S28) (n : Nat) (hn : n ≤ 8) (h0 : l0.length = n) (h1 : l1.length = n) (h2 : l2.length = n) :
    ∀ (d i k : Nat), i + d = n → d < k → furrowworksref04_Furrow.l0 k n i l0 l1 l2 = some (stsOk l0 l1 l2 i d)
  | 0, i, k, hd, hk => by
    obtain ⟨k, rfl⟩ : ∃ m, k = m + 1 := ⟨k - 1, by omega⟩
    simp only [furrowworksref04_Furrow.l0]
    rw [if_neg (by omega)]
    rfl
  | d + 1, i, k, hd, hk => by
    obtain ⟨k, rfl⟩ : ∃ m, k = m + 1 := ⟨k - 1, by omega⟩
    have ih := refFurrow_l0 l0 l1 l2 n hn h0 h1 h2 d (i + 1) k (by omega) (by omega)
    simp only [furrowworksref04_Furrow.l0, span_is, Option.bind_some, stsOk, wrap_one (show i < n by omega) hn, ih]
    rw [if_pos (by omega), if_pos (by omega), if_pos (by omega)]
    unfold stOk
    generalize stsOk l0 l1 l2 (i + 1) d = q
    by_cases c1 : decide (-12 ≤ (rd_T28 l0 i).f0 ∧ (rd_T28 l0 i).f0 ≤ (rd_T28 l0 i).f1 ∧ (rd_T28 l0 i).f1 ≤ 12) = true
    · rw [if_pos c1, wrap_sub c1, c1]
      by_cases c2 : (rd_T28 l0 i).f1 - (rd_T28 l0 i).f0 ≤ 6
      · rw [if_neg (by omega), decide_eq_true c2]
        by_cases c3 : decide (1 ≤ (rd_T28 l1 i).f0 ∧ (rd_T28 l1 i).f0 ≤ (rd_T28 l1 i).f1 ∧ (rd_T28 l1 i).f1 ≤ 60) = true
        · rw [c3]
          rw [if_pos rfl, if_pos (by omega)]
          by_cases c4 : decide (0 ≤ (rd_T28 l2 i).f0 ∧ (rd_T28 l2 i).f0 ≤ (rd_T28 l2 i).f1 ∧ (rd_T28 l2 i).f1 ≤ 40) = true
          · rw [c4]; simp; omega
          · rw [Bool.not_eq_true] at c4; rw [c4]; simp; omega
        · rw [if_pos (by omega)]
          rw [Bool.not_eq_true] at c3; rw [c3]; simp
      · rw [if_pos (by omega), decide_eq_false c2]
        simp
    · rw [if_neg c1]
      rw [Bool.not_eq_true] at c1
      rw [c1]
      simp
theorem refFurrow_is (l0 l1 l2 : List S28) : furrowworksref04_Furrow.f 20 l0 l1 l2 = some (valid l0 l1 l2) := by
  unfold furrowworksref04_Furrow.f valid
  by_cases h8 : l0.length ≤ 8
  · rw [if_neg (by omega)]
    by_cases h1 : l1.length = l0.length
    · rw [if_pos (by omega)]
      simp only [furrowworksref04_Furrow.j0]
      by_cases h2 : l2.length = l0.length
      · have e : ((l2.length : Int) != (l0.length : Int)) = false := by simp [h2]
        rw [e, if_neg (by simp)]
        have := refFurrow_l0 l0 l1 l2 l0.length h8 rfl h1 h2 l0.length 0 19 (by omega) (by omega)
        exact this.trans (by simp [h8, h1, h2])
      · have e : ((l2.length : Int) != (l0.length : Int)) = true := by simp; omega
        rw [e, if_pos rfl]
        simp [h2]
    · rw [if_neg (by omega)]
      simp only [furrowworksref04_Furrow.j0]
      simp [h1]
  · rw [if_pos (by omega)]
    simp only [furrowworksref04_Furrow.j0]
    simp [h8]
end Go.Proofs.Ytafmgmaelnpehaa
end
