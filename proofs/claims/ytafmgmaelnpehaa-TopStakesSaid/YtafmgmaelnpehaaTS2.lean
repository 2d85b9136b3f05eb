/- Parts of the proof: The layer over the walk that this claim's proofs use: what code does, with a loop's marks and records out of sight. Regions in the layer: a region's operations, walked as everywhere, also within a round; regions that draw their order. Maps in the layer: a map's block read as a list of keys and values, in the order in which they came; look-ups, stores, and a range over it. Frames of which only some slots are told. Regions that draw their order: some operations in whatever order, and behind them others that wait for all of these. A deferred function whose first operation is recover, and that hands what it got to another function. Where a function that defers goes on behind its deferral. Drawn regions by a schedule: a list of the operations in one order, checked once; each is then walked by itself. Drawn regions by a tree: where several operations may come up, each way is walked. Regions th -/
import Derived.RangeFuncNested
import Derived.RangeFuncBound
import Derived.RangeFuncCalls
import Derived.RangeFuncLeaves
import Derived.RecoverIn
import Derived.Shelf.Abstract
import Derived.Deep.Draws
import Derived.OrdersHeld
import Derived.Deep.Quiet
import Derived.TacticsIn
import Derived.OwnWalkIn
import Derived.Maps.OwnIn
import Derived.Maps.RangeRun
import Derived.DeepKeys4
import Derived.BigQuiet
import Derived.Test.YtafmgmaelnpehaaProg
import Derived.Deep.Upon
import Derived.ArgAppend
import Derived.Maps.AppendAt
import Derived.WalkKit
import Derived.WalkSpells
import Derived.WalkLawsBesides
import Derived.Outline
import Derived.TacticsInMore
import Derived.LoopNIn
import Derived.LoopIn
import Derived.Shelf.RegionOpen
import Derived.Deep.QuietTactic
import Derived.Lib.Hide
import Derived.Test.YtafmgmaelnpehaaTS1
set_option linter.unusedVariables false
set_option linter.unusedSimpArgs false
section
namespace Go.TL
open Go Go.RowKit

def book : Obj → Bool
  | .loop _ => true
  | .deferred _ => true
  | _ => false

structure Grow (B : Nat) (W W' : World) : Prop where
  os : W'.os = W.os
  tape : W'.tape = W.tape
  output : W'.output = W.output
  size : W.heap.size ≤ W'.heap.size
  same : ∀ (k : Nat) (o : Obj), W.heap[k]? = some o → (k < B ∨ book o = false) → W'.heap[k]? = some o

theorem Grow.refl (B : Nat) (W : World) : Grow B W W := ⟨rfl, rfl, rfl, Nat.le_refl _, fun _ _ h _ => h⟩
theorem Grow.trans {B : Nat} {X Y Z : World} (h : Grow B X Y) (k : Grow B Y Z) : Grow B X Z :=
  ⟨k.os.trans h.os, k.tape.trans h.tape, k.output.trans h.output, Nat.le_trans h.size k.size, fun i o hi ho => k.same i o (h.same i o hi ho) ho⟩
theorem Grow.of_below {B : Nat} {W W' : World} (h : Below W.heap.size W W') : Grow B W W' :=
  ⟨h.os, h.tape, h.output, h.size, fun k _ hk _ => (h.block k (Array.getElem?_eq_some_iff.1 hk).1).trans hk⟩
theorem Grow.alloc (B : Nat) (W : World) (o : Obj) : Grow B W (W.alloc o) := Grow.of_below ((Below.refl _ W).alloc (Nat.le_refl _) o)
theorem Grow.putBook {B : Nat} {W : World} {l : Nat} {o : Obj} (o' : Obj) (hl : B ≤ l) (h : W.heap[l]? = some o) (hb : book o = true) : Grow B W (W.putObj l o') :=
  ⟨rfl, rfl, rfl, by simp, fun k p hk hp => by
    by_cases e : k = l
    · subst e
      rw [h] at hk
      cases hk
      rcases hp with hp | hp
      · omega
      · rw [hb] at hp
        cases hp
    · exact (World.putObj_heap_other e).trans hk⟩
theorem Grow.mono {B B' : Nat} {W W' : World} (h : Grow B W W') (hB : B' ≤ B) : Grow B' W W' :=
  ⟨h.os, h.tape, h.output, h.size, fun k o hk ho => h.same k o hk (ho.imp (fun x => Nat.lt_of_lt_of_le x hB) id)⟩
theorem Grow.below {B n : Nat} {W W' : World} (h : Grow B W W') (hn : n ≤ B) (hs : n ≤ W.heap.size) : Below n W W' :=
  ⟨h.os, h.tape, h.output, h.size, fun k hk => by
    have hk' : k < W.heap.size := by omega
    rw [Array.getElem?_eq_getElem hk']
    exact h.same k _ (Array.getElem?_eq_getElem hk') (.inl (by omega))⟩
theorem Grow.boxed {B b : Nat} {t : TypeId} {v : Value} {W W' : World} (h : Grow B W W') (hb : Boxed W b t v) : Boxed W' b t v := h.same b _ hb (.inr rfl)
theorem Grow.cell {B : Nat} {W W' : World} (h : Grow B W W') {a : Addr} {v : Value} (hc : W.cell? a = some v) : W'.cell? a = some v := by
  unfold World.cell? at hc ⊢
  cases ho : W.heap[a.block]? with
  | none => simp [ho] at hc
  | some o =>
    cases o with
    | cells c e f => rw [h.same _ _ ho (.inr rfl)]; rw [ho] at hc; exact hc
    | _ => simp [ho] at hc

def Stab (B : Nat) (I : World → Prop) : Prop := ∀ W W', I W → Grow B W W' → I W'
theorem Stab.pure (B : Nat) (p : Prop) : Stab B (fun _ => p) := fun _ _ h _ => h
theorem Stab.and {B : Nat} {I J : World → Prop} (h : Stab B I) (k : Stab B J) : Stab B (fun W => I W ∧ J W) := fun W W' hi hg => ⟨h W W' hi.1 hg, k W W' hi.2 hg⟩
theorem Stab.or {B : Nat} {I J : World → Prop} (h : Stab B I) (k : Stab B J) : Stab B (fun W => I W ∨ J W) := fun W W' hi hg => hi.imp (h W W' · hg) (k W W' · hg)
theorem Stab.ex {B : Nat} {β : Sort _} {I : β → World → Prop} (h : ∀ x, Stab B (I x)) : Stab B (fun W => ∃ x, I x W) := fun W W' ⟨x, hx⟩ hg => ⟨x, h x W W' hx hg⟩
theorem Stab.all {B : Nat} {β : Sort _} {I : β → World → Prop} (h : ∀ x, Stab B (I x)) : Stab B (fun W => ∀ x, I x W) := fun W W' hi hg x => h x W W' (hi x) hg
theorem Stab.imp {B : Nat} {p : Prop} {I : World → Prop} (h : Stab B I) : Stab B (fun W => p → I W) := fun W W' hi hg hp => h W W' (hi hp) hg
theorem Stab.boxed (B b : Nat) (t : TypeId) (v : Value) : Stab B (fun W => Boxed W b t v) := fun _ _ h hg => hg.boxed h
theorem Stab.cell (B : Nat) (a : Addr) (v : Value) : Stab B (fun W => W.cell? a = some v) := fun _ _ h hg => hg.cell h
theorem Stab.below {B n : Nat} {w : World} (hn : n ≤ B) (hs : n ≤ w.heap.size) : Stab B (fun W => Below n w W) := fun _ _ h hg => h.trans (hg.below hn (Nat.le_trans hs h.size))
theorem Stab.heap {B k : Nat} {o : Obj} (ho : book o = false) : Stab B (fun W => W.heap[k]? = some o) := fun _ _ h hg => hg.same k o h (.inr ho)
theorem Stab.size {B n : Nat} : Stab B (fun W => n ≤ W.heap.size) := fun _ _ h hg => Nat.le_trans h hg.size
theorem Stab.lt {B n : Nat} : Stab B (fun W => n < W.heap.size) := fun _ _ h hg => Nat.lt_of_lt_of_le h hg.size

/-! ### The fence, and marks -/
def FW (r : Option Nat) : Fence := { Fence.wide with round := r }
def Ctx (r : Option Nat) (w : World) : Prop := ∀ l, r = some l → ∃ c, w.heap[l]? = some (.loop c)
theorem Ctx.none (w : World) : Ctx none w := fun _ h => by cases h
structure Keep (w w' : World) : Prop where
  size : w.heap.size ≤ w'.heap.size
  same : ∀ (k : Nat) (o : Obj), w.heap[k]? = some o → book o = true → w'.heap[k]? = some o
theorem Keep.refl (w : World) : Keep w w := ⟨Nat.le_refl _, fun _ _ h _ => h⟩
theorem Keep.trans {X Y Z : World} (h : Keep X Y) (k : Keep Y Z) : Keep X Z := ⟨Nat.le_trans h.size k.size, fun i o hi ho => k.same i o (h.same i o hi ho) ho⟩
theorem Keep.of_below {W W' : World} (h : Below W.heap.size W W') : Keep W W' := ⟨h.size, fun k _ hk _ => (h.block k (Array.getElem?_eq_some_iff.1 hk).1).trans hk⟩
theorem Keep.alloc {w W : World} (h : Keep w W) (o : Obj) : Keep w (W.alloc o) := h.trans (Keep.of_below ((Below.refl _ W).alloc (Nat.le_refl _) o))
theorem Keep.setCell {w W : World} (h : Keep w W) (a : Addr) (v : Value) : Keep w (W.setCell a v) :=
  h.trans ⟨(KeepsWalks.setCell W a v).size, fun k o hk ho => by
    by_cases e : k = a.block
    · subst e
      obtain ⟨hlt, hk'⟩ := Array.getElem?_eq_some_iff.1 hk
      show (W.heap.modify a.block _)[a.block]? = some o
      rw [Array.getElem?_eq_getElem (by rw [Array.size_modify]; exact hlt), Array.getElem_modify_self, hk']
      cases o <;> first | rfl | (simp [book] at ho)
    · exact (Below.heap_setCell W a v k e).trans hk⟩
theorem Keep.drewN {w W : World} (h : Keep w W) (n : Nat) : Keep w (W.drewN n) := ⟨h.size, h.same⟩
theorem Keep.drew {w W : World} (h : Keep w W) : Keep w W.drew := ⟨h.size, h.same⟩
theorem Keep.grown {w W W' : World} {row : Option Nat} (h : Keep w W) (hg : W.grownBy W' row) (hrow : ∀ j o, row = some j → W.heap[j]? = some o → book o = false) : Keep w W' :=
  h.trans ⟨hg.size, fun k o hk ho => by
    refine (hg.block k (Array.getElem?_eq_some_iff.1 hk).1 ?_).trans hk
    intro e
    rw [hrow k o e.symm hk] at ho
    cases ho⟩
theorem Ctx.keep {r : Option Nat} {w w' : World} (h : Ctx r w) (k : Keep w w') : Ctx r w' := fun l hl => let ⟨c, hc⟩ := h l hl; ⟨c, k.same l _ hc rfl⟩

def Marks (w : World) (lo : Nat) : List Deferred → Nat → Prop
  | [], _ => True
  | d :: ds, hi => ∃ D, d = { target := .collected D, args := #[] } ∧ lo ≤ D ∧ D < hi ∧ w.heap[D]? = some (.deferred (some [])) ∧ Marks w lo ds D
theorem Marks.keep {w w' : World} (k : Keep w w') {lo : Nat} : ∀ {ms : List Deferred} {hi : Nat}, Marks w lo ms hi → Marks w' lo ms hi
  | [], _, _ => trivial
  | _ :: _, _, ⟨D, e, h1, h2, h3, h4⟩ => ⟨D, e, h1, h2, k.same D _ h3 rfl, h4.keep k⟩
theorem Marks.mono {w : World} {lo lo' : Nat} (hl : lo' ≤ lo) : ∀ {ms : List Deferred} {hi hi' : Nat}, hi ≤ hi' → Marks w lo ms hi → Marks w lo' ms hi'
  | [], _, _, _, _ => trivial
  | _ :: _, _, _, hh, ⟨D, e, h1, h2, h3, h4⟩ => ⟨D, e, by omega, by omega, h3, h4.mono hl (Nat.le_refl _)⟩
theorem Marks.append {w : World} {lo mid : Nat} (hl : lo ≤ mid) : ∀ {ms : List Deferred} {hi : Nat} {ns : List Deferred}, mid ≤ hi → Marks w mid ms hi → Marks w lo ns mid → Marks w lo (ms ++ ns) hi
  | [], _, _, hh, _, h => h.mono (Nat.le_refl _) hh
  | _ :: _, _, _, _, ⟨D, e, h1, h2, h3, h4⟩, h => ⟨D, e, by omega, h2, h3, Marks.append (hi := D) hl h1 h4 h⟩

def EQ (w : World) (ds : List Deferred) (Q : Exit → Array Value → World → Prop) : Exit → Act → World → Prop := fun e a W =>
  Keep w W ∧ (∃ ms, a.defers = ms ++ ds ∧ Marks W w.heap.size ms W.heap.size) ∧ Q e a.tmps W

def Exec (P : Program) (r : Option Nat) (c : Code) (t : Array Value) (w : World) (Q : Exit → Array Value → World → Prop) : Prop :=
  Ctx r w → ∀ ds, c.wpIn (FW r) 0 P (EQ w ds Q) { tmps := t, defers := ds } w

section rules
variable {P : Program} {r : Option Nat} {Q : Exit → Array Value → World → Prop} {t : Array Value} {w : World}

theorem Exec.mono {c : Code} {Q' : Exit → Array Value → World → Prop} (h : Exec P r c t w Q) (hq : ∀ e t W, Q e t W → Q' e t W) : Exec P r c t w Q' :=
  fun hc ds => wpIn_mono (h hc ds) fun e _ W ⟨k, m, q⟩ => ⟨k, m, hq e _ W q⟩
def andThen (K : Array Value → World → Prop) (Q : Exit → Array Value → World → Prop) : Exit → Array Value → World → Prop
  | .normal, t, W => K t W
  | e, t, W => Q e t W

theorem exec_seq {x y : Code} (h : Exec P r x t w (andThen (fun t' W => Exec P r y t' W Q) Q)) : Exec P r (.seq x y) t w Q := by
  intro hc ds
  refine wpIn_seq (wpIn_mono (h hc ds) ?_)
  rintro e a W ⟨k, ⟨ms, hd, hm⟩, q⟩
  cases e with
  | normal =>
    show y.wpIn (FW r) 0 P _ a W
    have h2 := (show Exec P r y a.tmps W Q from q) (hc.keep k) (ms ++ ds)
    rw [show a = { tmps := a.tmps, defers := ms ++ ds } from by rw [← hd]]
    refine wpIn_mono h2 ?_
    rintro e b V ⟨k2, ⟨ns, hd2, hm2⟩, q2⟩
    exact ⟨k.trans k2, ⟨ns ++ ms, by rw [hd2, List.append_assoc], Marks.append (hi := V.heap.size) k.size k2.size hm2 (hm.keep k2)⟩, q2⟩
  | exit id => exact ⟨k, ⟨ms, hd, hm⟩, q⟩
  | goto l => exact ⟨k, ⟨ms, hd, hm⟩, q⟩
  | ret => exact ⟨k, ⟨ms, hd, hm⟩, q⟩
  | panic ch => exact ⟨k, ⟨ms, hd, hm⟩, q⟩
  | outgrown => exact ⟨k, ⟨ms, hd, hm⟩, q⟩

theorem eq_refl {e : Exit} {ds : List Deferred} (h : Q e t w) : EQ w ds Q e { tmps := t, defers := ds } w := ⟨Keep.refl w, ⟨[], rfl, trivial⟩, h⟩
theorem exec_skip (h : Q .normal t w) : Exec P r .skip t w Q := fun _ _ => wpIn_skip (eq_refl h)
theorem exec_label {l : Nat} (h : Q .normal t w) : Exec P r (.label l) t w Q := fun _ _ => wpIn_label (eq_refl h)
theorem exec_exit {id : Nat} (h : Q (.exit id) t w) : Exec P r (.exit id) t w Q := fun _ _ => wpIn_exit (eq_refl h)
theorem exec_ret (h : Q .ret t w) : Exec P r .ret t w Q := fun _ _ => wpIn_ret (eq_refl h)

def ev (t : Array Value) (x : Operand) : Value := ({ tmps := t, defers := [] } : Act).eval x
theorem ev_eq (t : Array Value) (ds : List Deferred) (x : Operand) : ({ tmps := t, defers := ds } : Act).eval x = ev t x := by cases x <;> rfl

theorem exec_cond {c : Operand} {x y : Code} {b : Bool} (hb : ev t c = .bool b) (h1 : b = true → Exec P r x t w Q) (h2 : b = false → Exec P r y t w Q) : Exec P r (.cond c x y) t w Q := fun hc ds =>
  wpIn_cond_split (t := b) (by rw [ev_eq]; exact hb) (fun e => h1 e hc ds) (fun e => h2 e hc ds)

def inBlk (id : Nat) (Q : Exit → Array Value → World → Prop) : Exit → Array Value → World → Prop
  | .exit id', t, W => if id' = id then Q .normal t W else Q (.exit id') t W
  | e, t, W => Q e t W
theorem exec_block {id : Nat} {c : Code} (h : Exec P r c t w (inBlk id Q)) : Exec P r (.block id c) t w Q := by
  intro hc ds
  refine wpIn_block (wpIn_mono (h hc ds) ?_)
  rintro e _ W ⟨k, m, q⟩
  cases e with
  | exit id' =>
    simp only [inBlk] at q
    simp only [Exit.inBlock]
    split
    · rename_i h; rw [if_pos h] at q; exact ⟨k, m, q⟩
    · rename_i h; rw [if_neg h] at q; exact ⟨k, m, q⟩
  | normal => exact ⟨k, m, q⟩
  | goto l => exact ⟨k, m, q⟩
  | ret => exact ⟨k, m, q⟩
  | panic ch => exact ⟨k, m, q⟩
  | outgrown => exact ⟨k, m, q⟩

theorem least {p : Nat → Prop} (h : ∃ n, p n) : ∃ n, p n ∧ ∀ m, p m → n ≤ m := by
  obtain ⟨n, hn⟩ := h
  induction n using Nat.strongRecOn with
  | _ n ih =>
    by_cases hm : ∃ m, m < n ∧ p m
    · obtain ⟨m, h1, h2⟩ := hm
      exact ih m h1 h2
    · exact ⟨n, hn, fun m hp => Nat.le_of_not_lt fun hlt => hm ⟨m, hlt, hp⟩⟩
theorem exec_loop {c : Code} (I : Nat → Array Value → World → Prop) (n : Nat) (h0 : I n t w)
    (round : ∀ n t W, I n t W → Exec P r c t W (andThen (fun t' W' => ∃ m, m < n ∧ I m t' W') Q)) : Exec P r (.loop c) t w Q := by
  intro hc ds
  -- the measure as a function of the state: the least n at which the invariant holds
  let J : Act → World → Prop := fun a W => Keep w W ∧ (∃ ms, a.defers = ms ++ ds ∧ Marks W w.heap.size ms W.heap.size) ∧ ∃ n, I n a.tmps W
  classical
  let μ : Act → World → Nat := fun a W => if h : ∃ n, I n a.tmps W then Classical.choose (least h) else 0
  refine wpIn_loop J μ ⟨Keep.refl w, ⟨[], rfl, trivial⟩, n, h0⟩ ?_
  rintro a W ⟨k, ⟨ms, hd, hm⟩, hn⟩
  have hI := (Classical.choose_spec (least hn)).1
  have h2 := round _ _ _ hI (hc.keep k) (ms ++ ds)
  rw [show a = { tmps := a.tmps, defers := ms ++ ds } from by rw [← hd]]
  refine wpIn_mono h2 ?_
  rintro e b V ⟨k2, ⟨ns, hd2, hm2⟩, q2⟩
  have all : Keep w V ∧ ∃ ks, b.defers = ks ++ ds ∧ Marks V w.heap.size ks V.heap.size :=
    ⟨k.trans k2, ns ++ ms, by rw [hd2, List.append_assoc], Marks.append (hi := V.heap.size) k.size k2.size hm2 (hm.keep k2)⟩
  cases e with
  | normal =>
    obtain ⟨m, hlt, hm'⟩ := q2
    refine ⟨⟨all.1, all.2, m, hm'⟩, ?_⟩
    have e1 : μ b V ≤ m := by
      show (if h : ∃ n, I n b.tmps V then Classical.choose (least h) else 0) ≤ m
      rw [dif_pos ⟨m, hm'⟩]
      exact (Classical.choose_spec (least ⟨m, hm'⟩)).2 m hm'
    have e2 : μ { tmps := a.tmps, defers := ms ++ ds } W = Classical.choose (least hn) := by
      show (if h : ∃ n, I n a.tmps W then Classical.choose (least h) else 0) = _
      rw [dif_pos hn]
    omega
  | exit id => exact ⟨all.1, all.2, q2⟩
  | goto l => exact ⟨all.1, all.2, q2⟩
  | ret => exact ⟨all.1, all.2, q2⟩
  | panic ch => exact ⟨all.1, all.2, q2⟩
  | outgrown => exact ⟨all.1, all.2, q2⟩
end rules

/-! ### A range over a function -/
def Same (S : Nat → Prop) (W W' : World) : Prop := ∀ k, S k → W'.heap[k]? = W.heap[k]?
theorem Same.refl (S : Nat → Prop) (W : World) : Same S W W := fun _ _ => rfl
theorem Same.trans {S : Nat → Prop} {X Y Z : World} (h : Same S X Y) (k : Same S Y Z) : Same S X Z := fun i hi => (k i hi).trans (h i hi)
theorem Same.of_below {S : Nat → Prop} {n : Nat} {W W' : World} (h : Below n W W') (hS : ∀ k, S k → k < n) : Same S W W' := fun k hk => h.block k (hS k hk)

def Iter {α : Type} (P : Program) (gf : Nat) (lb : Array Value) (encs : α → Array Value) (L : List α) (S : Nat → Prop) (w : World) : Prop :=
  ∀ (l : Nat) (J : Nat → World → Prop) (Jx : World → Prop) (W : World), Same S w W →
    (∀ k X Y, J k X → Below X.heap.size X Y → J k Y) → (∀ X Y, Jx X → Below X.heap.size X Y → Jx Y) →
    (∀ (k : Nat) (hk : k < L.length) (W1 : World), J k W1 → YieldAt Fence.wide 0 P l (encs (L[k]'hk)) W1 fun e W' =>
      (e = .returned (.bool true) ∧ J (k + 1) W' ∧ Same S W1 W') ∨ (e = .returned (.bool false) ∧ Jx W')) →
    J 0 W →
    CallsIn Fence.wide 0 P gf (#[.func (.yield l) #[] #[]] ++ lb) W fun e W' => (∃ v, e = .returned v) ∧ (J L.length W' ∨ Jx W')

theorem Iter.same {α : Type} {P : Program} {gf : Nat} {lb : Array Value} {encs : α → Array Value} {L : List α} {S : Nat → Prop} {w w' : World} (h : Iter P gf lb encs L S w) (hs : Same S w w') : Iter P gf lb encs L S w' :=
  fun l J Jx W hW => h l J Jx W (hs.trans hW)

def bodyEnd (S : Nat → Prop) (I : World → Prop) (Ix : Code → World → Prop) (W : World) : Exit → Array Value → World → Prop
  | .normal, _, W' => Same S W W' ∧ I W'
  | .ret, _, W' => Ix .ret W'
  | .exit id, _, W' => Ix (.exit id) W'
  | _, _, _ => False

section range
variable {P : Program}

theorem keep_putBook {w W : World} {l : Nat} (o' : Obj) (h : Keep w W) (hl : w.heap.size ≤ l) : Keep w (W.putObj l o') :=
  ⟨by simp; exact h.size, fun k o hk ho => by
    have := (Array.getElem?_eq_some_iff.1 hk).1
    exact (World.putObj_heap_other (by omega)).trans (h.same k o hk ho)⟩

theorem same_putBook {S : Nat → Prop} {W : World} {l : Nat} (o' : Obj) (hS : ∀ k, S k → k < l) : Same S W (W.putObj l o') := fun k hk => World.putObj_heap_other (by have := hS k hk; omega)

theorem range_core {α : Type} {ps : Array Tmp} {assign body : Code} {t : Array Value} {w W1 : World} {gf : Nat} {lb : Array Value} {encs : α → Array Value} {L : List α} {S : Nat → Prop}
    (hit : Iter P gf lb encs L S w) (hS : ∀ k, S k → k < w.heap.size) (hps : ∀ x, (encs x).size = ps.size)
    (I : Nat → World → Prop) (Ix : Code → World → Prop) (hI : ∀ k, Stab w.heap.size (I k)) (hIx : ∀ c, Stab w.heap.size (Ix c))
    (hround : ∀ (l k : Nat) (hk : k < L.length) (W : World), w.heap.size < W.heap.size → I k W →
      Exec P (some l) assign ((ps.zip (encs (L[k]'hk))).foldl (fun t (p, v) => t.setIfInBounds p v) t) W fun e t' W' => e = .normal ∧ Same S W W' ∧
        ∀ V, Grow w.heap.size W' V → V.heap.size = W'.heap.size → Exec P (some l) body t' V (bodyEnd S (I (k + 1)) Ix V))
    (fn l dd : Nat) (hl : w.heap.size ≤ l) (rec : LoopState → Option Code → Loop) (hrec : ∀ st pe, rec st pe = { state := st, pending := pe, fn, tmps := t, params := ps, assign, body, defers := dd })
    (B : World → Prop) (hB : ∀ X Y, B X → Keep X Y → B Y) (hB2 : ∀ X o, B X → B (X.putObj l o))
    (hk1 : Keep w W1) (hs1 : Same S w W1) (h0 : I 0 W1) (hb1 : B W1) (hl1 : W1.heap[l]? = some (.loop (rec .ready none))) :
    CallsIn Fence.wide 0 P gf (#[.func (.yield l) #[] #[]] ++ lb) W1 fun e W' => (∃ v, e = .returned v) ∧
      ((I L.length W' ∧ Keep w W' ∧ B W' ∧ W'.heap[l]? = some (.loop (rec .ready none))) ∨
       (∃ c, (c = .ret ∨ ∃ id, c = .exit id) ∧ Ix c W' ∧ Keep w W' ∧ B W' ∧ W'.heap[l]? = some (.loop (rec .done (some c))))) := by
  have below_keep : ∀ {X Y : World}, Below X.heap.size X Y → Keep X Y := Keep.of_below
  refine (hit l (fun k W => I k W ∧ Keep w W ∧ B W ∧ W.heap[l]? = some (.loop (rec .ready none)))
    (fun W => ∃ c, (c = .ret ∨ ∃ id, c = .exit id) ∧ Ix c W ∧ Keep w W ∧ B W ∧ W.heap[l]? = some (.loop (rec .done (some c)))) W1 hs1
    (fun k X Y ⟨a, b, c, d⟩ hXY => ⟨hI k X Y a (Grow.of_below hXY), b.trans (below_keep hXY), hB X Y c (below_keep hXY), (below_keep hXY).same _ _ d rfl⟩)
    (fun X Y ⟨cd, hcd, a, b, c, d⟩ hXY => ⟨cd, hcd, hIx cd X Y a (Grow.of_below hXY), b.trans (below_keep hXY), hB X Y c (below_keep hXY), (below_keep hXY).same _ _ d rfl⟩)
    ?_ ⟨h0, hk1, hb1, hl1⟩).mono (fun e W' h => h)
  rintro k hk W ⟨hi, hkW, hbW, hlW⟩
  have hltW : l < W.heap.size := (Array.getElem?_eq_some_iff.1 hlW).1
  have hy := run_yield (P := P) (args := encs (L[k]'hk)) hlW (by rw [hrec]; exact hps _)
  rw [hrec] at hy
  refine ⟨fn, _, assign, body, hy, roundIn_of_wpIn trivial ?_⟩
  refine wpIn_mono ((hround l k hk W (by omega) hi) (fun l' e => by cases e; exact ⟨_, hlW⟩) []) ?_
  rintro e a Wa ⟨hka, _, rfl, hsa, hAa⟩
  have hla := hka.same l _ hlW rfl
  have hlta : l < Wa.heap.size := (Array.getElem?_eq_some_iff.1 hla).1
  refine ⟨_, run_beginRound hla (by rw [hrec]), ?_⟩
  -- the round's own world
  obtain ⟨Wb, hWb⟩ : ∃ Wb, Wa.putObj l (.loop { rec .ready none with state := .busy }) = Wb := ⟨_, rfl⟩
  have hlb : Wb.heap[l]? = some (.loop (rec .busy none)) := by rw [← hWb, World.putObj_heap_same hlta, hrec, hrec]
  have hszb : Wb.heap.size = Wa.heap.size := by rw [← hWb]; simp
  have hAb : Grow w.heap.size Wa Wb := by rw [← hWb]; exact Grow.putBook _ hl hla rfl
  have hkb : Keep w Wb := by rw [← hWb]; exact keep_putBook _ (hkW.trans hka) hl
  have hbb : B Wb := by rw [← hWb]; exact hB2 _ _ (hB _ _ hbW hka)
  have hsb : Same S W Wb := by rw [← hWb]; exact hsa.trans (same_putBook _ fun k hk => by have := hS k hk; omega)
  rw [hWb]
  have hb := (hAa Wb hAb hszb) (fun l' e => by cases e; exact ⟨_, hlb⟩) a.defers
  refine wpIn_mono hb ?_
  rintro e2 b V ⟨hkV, _, hq⟩
  have hlV := hkV.same l _ hlb rfl
  have hltV : l < V.heap.size := (Array.getElem?_eq_some_iff.1 hlV).1
  have fin : ∀ (jump : Option Code), (Instr.endRound l jump).run P V = .ok (.bool jump.isNone) (V.putObj l (.loop (rec (if jump.isNone then .ready else .done) jump))) := fun jump => by
    have := run_endRound (P := P) jump hlV
    rw [hrec] at this ⊢
    exact this
  have at_ : ∀ o, (V.putObj l o).heap[l]? = some o := fun o => World.putObj_heap_same hltV
  have kp : ∀ o, Keep w (V.putObj l o) := fun o => keep_putBook _ (hkb.trans hkV) hl
  have bp : ∀ o, B (V.putObj l o) := fun o => hB2 _ _ (hB _ _ hbb hkV)
  cases e2 with
  | normal =>
    obtain ⟨hs, hi2⟩ := hq
    exact ⟨_, _, fin none, .inl ⟨rfl, ⟨hI _ _ _ hi2 (Grow.putBook _ hl hlV rfl), kp _, bp _, at_ _⟩, (hsb.trans hs).trans (same_putBook _ fun k hk => by have := hS k hk; omega)⟩⟩
  | ret => exact ⟨_, _, fin (some .ret), .inr ⟨rfl, .ret, .inl rfl, hIx _ _ _ hq (Grow.putBook _ hl hlV rfl), kp _, bp _, at_ _⟩⟩
  | exit id => exact ⟨_, _, fin (some (.exit id)), .inr ⟨rfl, .exit id, .inr ⟨id, rfl⟩, hIx _ _ _ hq (Grow.putBook _ hl hlV rfl), kp _, bp _, at_ _⟩⟩
  | goto l => exact hq.elim
  | panic ch => exact hq.elim
  | outgrown => exact hq.elim

theorem exec_range {α : Type} {r : Option Nat} {Q : Exit → Array Value → World → Prop} {g : Operand} {ps : Array Tmp} {assign body : Code} {t : Array Value} {w : World} {gf : Nat} {lb : Array Value} {encs : α → Array Value} {L : List α} {S : Nat → Prop}
    (hg : ev t g = .func (.func gf) #[] lb) (eg : ∀ args w, (callFunc gf args).run P w = .ok (.enter gf args) w)
    (hit : Iter P gf lb encs L S w) (hS : ∀ k, S k → k < w.heap.size) (hps : ∀ x, (encs x).size = ps.size)
    (I : Nat → World → Prop) (Ix : Code → World → Prop) (hI : ∀ k, Stab w.heap.size (I k)) (hIx : ∀ c, Stab w.heap.size (Ix c))
    (h0 : I 0 w)
    (hround : ∀ (l k : Nat) (hk : k < L.length) (W : World), w.heap.size < W.heap.size → I k W →
      Exec P (some l) assign ((ps.zip (encs (L[k]'hk))).foldl (fun t (p, v) => t.setIfInBounds p v) t) W fun e t' W' => e = .normal ∧ Same S W W' ∧
        ∀ V, Grow w.heap.size W' V → V.heap.size = W'.heap.size → Exec P (some l) body t' V (bodyEnd S (I (k + 1)) Ix V))
    (hdone : ∀ W, I L.length W → Q .normal t W) (hret : ∀ W, Ix .ret W → Q .ret t W) (hexit : ∀ id W, Ix (.exit id) W → Q (.exit id) t W) :
    Exec P r (.rangeFunc g ps assign body) t w Q := by
  intro hc ds
  refine wpIn_rangeFunc ?_
  intro fn _
  have hev : ∀ X : World, (resolve ({ tmps := t, defers := ds } : Act).eval (rangeCall g 0) 0).run P X = (resolve ({ tmps := t, defers := ds } : Act).eval (rangeCall g 0) 0).run P X := fun _ => rfl
  clear hev
  cases r with
  | none =>
    obtain ⟨rec, hrec⟩ : ∃ rec : LoopState → Option Code → Loop, ∀ st pe, rec st pe = { state := st, pending := pe, fn, tmps := t, params := ps, assign, body, defers := w.heap.size } := ⟨_, fun _ _ => rfl⟩
    obtain ⟨W1, hW1⟩ : ∃ W1, (w.alloc (.deferred (some []))).alloc (.loop (rec .ready none)) = W1 := ⟨_, rfl⟩
    have hL1 : W1.heap[w.heap.size + 1]? = some (.loop (rec .ready none)) := by
      rw [← hW1]; have := World.alloc_heap_new (w.alloc (.deferred (some []))) (.loop (rec .ready none)); rwa [World.size_alloc] at this
    have hK1 : W1.heap[w.heap.size]? = some (.deferred (some [])) := by
      rw [← hW1]; exact (Below.heap_alloc _ _ _ (by simp)).trans (World.alloc_heap_new w _)
    have hb1 : Below w.heap.size w W1 := by rw [← hW1]; exact ((Below.refl _ w).alloc (Nat.le_refl _) _).alloc (by simp) _
    refine ⟨w.heap.size + 1, [{ target := .collected w.heap.size, args := #[] }], W1, { target := .fn (.func gf) lb, args := #[.func (.yield (w.heap.size + 1)) #[] #[]] }, W1, gf,
      #[.func (.yield (w.heap.size + 1)) #[] #[]] ++ lb, W1, ?_, ?_, fun _ _ => trivial, ?_, (fun h => by cases h), ?_⟩
    · rw [← hW1, hrec]; exact run_enterLoop_outer _ _ _ _ _
    · simp only [resolve, ev_eq, hg]
      simp [go_sem]
    · simp [invoke, go_sem, eg]
    · refine (range_core hit hS hps I Ix hI hIx hround fn (w.heap.size + 1) w.heap.size (by omega) rec hrec (fun X => X.heap[w.heap.size]? = some (.deferred (some [])))
        (fun X Y h k => k.same _ _ h rfl) (fun X o h => (World.putObj_heap_other (by omega)).trans h) (Keep.of_below hb1) (Same.of_below hb1 hS) (hI 0 _ _ h0 (Grow.of_below hb1)) hK1 hL1).mono ?_
      rintro e W2 ⟨⟨v, rfl⟩, (⟨hi, hk, hd, hl⟩ | ⟨c, hc', hi, hk, hd, hl⟩)⟩
      · have hlt := (Array.getElem?_eq_some_iff.1 hl).1
        refine ⟨none, _, by have := run_endLoop (P := P) hl (by rw [hrec]; simp); rw [hrec] at this; exact this, keep_putBook _ hk (by omega), ⟨[{ target := .collected w.heap.size, args := #[] }], rfl, ⟨w.heap.size, rfl, Nat.le_refl _, by simp; omega, (World.putObj_heap_other (by omega)).trans hd, trivial⟩⟩, hdone _ (hI _ _ _ hi (Grow.putBook _ (by omega) hl rfl))⟩
      · have hlt := (Array.getElem?_eq_some_iff.1 hl).1
        refine ⟨some c, _, by have := run_endLoop (P := P) hl (by rw [hrec]; simp); rw [hrec] at this; exact this, ?_⟩
        have hx := hIx _ _ _ hi (Grow.putBook (.loop { rec .done (some c) with state := .exhausted }) (by omega) hl rfl)
        rw [hrec] at hx
        have post : ∀ e, Q e t _ → EQ w ds Q e { tmps := t, defers := [{ target := .collected w.heap.size, args := #[] }] ++ ds } _ := fun e hq =>
          ⟨keep_putBook (.loop { state := .exhausted, pending := some c, fn, tmps := t, params := ps, assign, body, defers := w.heap.size }) hk (Nat.le_succ w.heap.size), ⟨[{ target := .collected w.heap.size, args := #[] }], rfl, ⟨w.heap.size, rfl, Nat.le_refl _, by simp; omega, (World.putObj_heap_other (by omega)).trans hd, trivial⟩⟩, hq⟩
        rcases hc' with rfl | ⟨id, rfl⟩
        · exact wpIn_ret (post _ (hret _ hx))
        · exact wpIn_exit (post _ (hexit _ _ hx))
  | some l₀ =>
    obtain ⟨r₀, hr₀⟩ := hc l₀ rfl
    obtain ⟨rec, hrec⟩ : ∃ rec : LoopState → Option Code → Loop, ∀ st pe, rec st pe = { state := st, pending := pe, fn, tmps := t, params := ps, assign, body, defers := r₀.defers } := ⟨_, fun _ _ => rfl⟩
    obtain ⟨W1, hW1⟩ : ∃ W1, w.alloc (.loop (rec .ready none)) = W1 := ⟨_, rfl⟩
    have hL1 : W1.heap[w.heap.size]? = some (.loop (rec .ready none)) := by rw [← hW1]; exact World.alloc_heap_new w _
    have hb1 : Below w.heap.size w W1 := by rw [← hW1]; exact (Below.refl _ w).alloc (Nat.le_refl _) _
    refine ⟨w.heap.size, [], W1, { target := .fn (.func gf) lb, args := #[.func (.yield w.heap.size) #[] #[]] }, W1, gf,
      #[.func (.yield w.heap.size) #[] #[]] ++ lb, W1, ?_, ?_, fun _ _ => trivial, ?_, (fun h => by cases h), ?_⟩
    · rw [← hW1, hrec]; exact run_enterLoop_inner hr₀ _ _ _ _ _
    · simp only [resolve, ev_eq, hg]
      simp [go_sem]
    · simp [invoke, go_sem, eg]
    · refine CallsIn.mono (F := Fence.wide.inRound l₀) (CallsIn.inRound l₀ (range_core hit hS hps I Ix hI hIx hround fn w.heap.size r₀.defers (Nat.le_refl _) rec hrec (fun _ => True)
        (fun _ _ _ _ => trivial) (fun _ _ _ => trivial) (Keep.of_below hb1) (Same.of_below hb1 hS) (hI 0 _ _ h0 (Grow.of_below hb1)) trivial hL1)) ?_
      rintro e W2 ⟨⟨v, rfl⟩, (⟨hi, hk, _, hl⟩ | ⟨c, hc', hi, hk, _, hl⟩)⟩
      · exact ⟨none, _, by have := run_endLoop (P := P) hl (by rw [hrec]; simp); rw [hrec] at this; exact this, keep_putBook _ hk (Nat.le_refl _), ⟨[], rfl, trivial⟩, hdone _ (hI _ _ _ hi (Grow.putBook _ (Nat.le_refl _) hl rfl))⟩
      · refine ⟨some c, _, by have := run_endLoop (P := P) hl (by rw [hrec]; simp); rw [hrec] at this; exact this, ?_⟩
        have hx := hIx _ _ _ hi (Grow.putBook (.loop { rec .done (some c) with state := .exhausted }) (Nat.le_refl _) hl rfl)
        rw [hrec] at hx
        have post : ∀ e, Q e t _ → EQ w ds Q e { tmps := t, defers := [] ++ ds } _ := fun e hq =>
          ⟨keep_putBook (.loop { state := .exhausted, pending := some c, fn, tmps := t, params := ps, assign, body, defers := r₀.defers }) hk (Nat.le_refl _), ⟨[], rfl, trivial⟩, hq⟩
        rcases hc' with rfl | ⟨id, rfl⟩
        · exact wpIn_ret (post _ (hret _ hx))
        · exact wpIn_exit (post _ (hexit _ _ hx))
end range

/-! ### A function's contract -/
section fns
variable {P : Program}

theorem leaves_marks {fn : Func} {t : Array Value} {R : Ending → World → Prop} {u : FrameMode} (hu : u ≠ .run) {lo : Nat} {ds : List Deferred} : ∀ {ms : List Deferred} {hi : Nat} {W : World}, Marks W lo ms hi →
    (∀ W', Grow lo W W' → W'.heap.size = W.heap.size → LeavesInM Fence.wide 0 P fn t R ds u W') → LeavesInM Fence.wide 0 P fn t R (ms ++ ds) u W
  | [], _, W, _, h => h W (Grow.refl _ _) rfl
  | _ :: ms, _, W, ⟨D, e, h1, h2, h3, h4⟩, h => by
    subst e
    refine ⟨hu, .inl ⟨D, _, rfl, run_takeDeferred h3, ?_⟩⟩
    have hg : Grow lo W (W.putObj D (.deferred none)) := Grow.putBook _ h1 h3 rfl
    have hm : Marks (W.putObj D (.deferred none)) lo ms D := by
      have go : ∀ {ns : List Deferred} {k : Nat}, k ≤ D → Marks W lo ns k → Marks (W.putObj D (.deferred none)) lo ns k := by
        intro ns
        induction ns with
        | nil => exact fun _ _ => trivial
        | cons n ns ih => exact fun hk ⟨E, e, a, b, c, d⟩ => ⟨E, e, a, b, (World.putObj_heap_other (by omega)).trans c, ih (by omega) d⟩
      exact go (Nat.le_refl _) h4
    exact leaves_marks hu hm fun W' g hs => h W' (hg.trans g) (by simp at hs; exact hs)

theorem leaves_nil {fn : Func} {t : Array Value} {R : Ending → World → Prop} {W : World} (h : ∃ v, (results fn t).run P W = .ok v W ∧ R (.returned v) W) : LeavesInM Fence.wide 0 P fn t R [] .returning W := h

theorem calls_of_exec {f : FuncId} {fn : Func} {c : Code} {args : Array Value} {w : World} {R : Ending → World → Prop} (hf : P.funcs[f]? = some fn) (hb : fn.body = some c)
    (h : Exec P none c (args ++ Array.replicate (fn.ntmps - args.size) undef) w fun e t W =>
      ((e = .normal ∨ e = .ret) ∧ ∀ W', Grow w.heap.size W W' → ∃ v, (results fn t).run P W' = .ok v W' ∧ R (.returned v) W')) : Calls P f args w R := by
  refine (callsIn_wide (n := 0)).1 (callsIn_of_wp_marks hf hb trivial ?_)
  refine wpIn_mono (h (Ctx.none w) []) ?_
  rintro e a W ⟨hk, ⟨ms, hd, hm⟩, he, hq⟩
  have := leaves_marks (P := P) (fn := fn) (t := a.tmps) (R := R) (u := .returning) (by simp) (ds := []) hm fun W' hg _ => leaves_nil (hq W' hg)
  rcases he with rfl | rfl <;> (show LeavesInM _ _ _ _ _ _ a.defers _ _; rw [hd]; exact this)

structure Catches (P : Program) (G : FuncId) (cargs : Nat → Array Value) (T : TypeId) : Prop where
  calm : ∀ (b : Nat) (W : World), b < W.heap.size → CallsDIn Fence.wide 0 P G (cargs b) .returning W fun e u W' => (∃ v, e = .returned v) ∧ u = .returning ∧ Below W.heap.size W W'
  caught : ∀ (b : Nat) (t : TypeId) (x code : Int) (W : World), Boxed W b t (.int .i64 x) →
    CallsDIn Fence.wide 0 P G (cargs b) (.panicking [{ v := .iface T (.agg #[.int .i64 code]), recovered := false }]) W fun e u W' =>
      (∃ v, e = .returned v) ∧ u = .panicking [{ v := .iface T (.agg #[.int .i64 code]), recovered := true }] ∧ ∃ W1, Below W.heap.size W W1 ∧ W' = W1.setCell ⟨b, 0, none⟩ (.int .i64 code)

def guardEnd (fn : Func) (T : TypeId) (b lo : Nat) (R : Ending → World → Prop) (P : Program) : Exit → Array Value → World → Prop := fun e t W =>
  ((e = .normal ∨ e = .ret) ∧ b < W.heap.size ∧ ∀ W', Grow lo W W' → ∃ v, (results fn t).run P W' = .ok v W' ∧ R (.returned v) W') ∨
  (∃ code ty x, e = .panic [{ v := .iface T (.agg #[.int .i64 code]), recovered := false }] ∧ Boxed W b ty (.int .i64 x) ∧
    ∀ W' W'', Grow lo W W' → W'' = W'.setCell ⟨b, 0, none⟩ (.int .i64 code) → ∃ v, (results fn t).run P W'' = .ok v W'' ∧ R (.returned v) W'')

theorem guard_rest {fn : Func} {R : Ending → World → Prop} {rest : Code} {t : Array Value} {w : World} {G : FuncId} {cargs : Nat → Array Value} {T : TypeId} {b lo : Nat} {d : Deferred} (hG : Catches P G cargs T)
    (hd1 : ∃ fv cap, d.target = .fn fv cap) (hinv : ∀ W, (invoke d.target d.args).run P W = .ok (.enter G (cargs b)) W) (hlo : lo ≤ w.heap.size)
    (h : Exec P none rest t w (guardEnd fn T b lo R P)) :
    rest.wpIn Fence.wide 0 P (bodyPostM Fence.wide 0 P fn R) { tmps := t, defers := [d] } w := by
  refine wpIn_mono (h (Ctx.none w) [d]) ?_
  rintro e a W ⟨hk, ⟨ms, hd, hm⟩, hq⟩
  have hm' : Marks W lo ms W.heap.size := hm.mono hlo (Nat.le_refl _)
  obtain ⟨fv, cap, htar⟩ := hd1
  rcases hq with ⟨he, hb, hq⟩ | ⟨code, ty, x, rfl, hbox, hq⟩
  · have := leaves_marks (P := P) (fn := fn) (t := a.tmps) (R := R) (u := .returning) (by simp) (ds := [d]) hm' fun W' hg hs => by
      refine ⟨by simp, .inr ⟨(fun h => by cases h), fv, cap, G, cargs b, htar, hinv W', fun _ _ => trivial, ?_⟩⟩
      refine (hG.calm b W' (by omega)).mono ?_
      rintro e' u W'' ⟨⟨v, rfl⟩, rfl, hb2⟩
      exact leaves_nil (hq W'' (hg.trans (Grow.of_below hb2)))
    rcases he with rfl | rfl <;> (show LeavesInM _ _ _ _ _ _ a.defers _ _; rw [hd]; exact this)
  · show LeavesInM _ _ _ _ _ _ a.defers _ _
    rw [hd]
    refine leaves_marks (P := P) (by simp) (ds := [d]) hm' fun W' hg hs => ?_
    refine ⟨by simp, .inr ⟨(fun h => by cases h), fv, cap, G, cargs b, htar, hinv W', fun _ _ => trivial, ?_⟩⟩
    refine (hG.caught b ty x code W' (hg.boxed hbox)).mono ?_
    rintro e' u W'' ⟨⟨v, rfl⟩, rfl, W1, hb2, rfl⟩
    exact leaves_nil (hq W1 _ (hg.trans (Grow.of_below hb2)) rfl)
end fns
/-! ### Small words -/
def updObj (a : Addr) (v : Value) : Obj → Obj
  | .cells c e f => .cells (if a.spot.isSome then c else c.setIfInBounds a.off v) e f
  | o => o
theorem heap_set_at (w : World) (a : Addr) (v : Value) (k : Nat) : (w.setCell a v).heap[k]? = if k = a.block then (w.heap[k]?).map (updObj a v) else w.heap[k]? := by
  show (w.heap.modify a.block _)[k]? = _
  rw [Array.getElem?_modify]
  by_cases h : a.block = k
  · subst h
    simp only [if_true]
    cases w.heap[a.block]? with
    | none => rfl
    | some o => cases o <;> rfl
  · rw [if_neg h, if_neg (fun e => h e.symm)]
theorem heap_alloc_at (w : World) (o : Obj) (k : Nat) : (w.alloc o).heap[k]? = if k = w.heap.size then some o else w.heap[k]? := by
  show (w.heap.push o)[k]? = _
  rw [Array.getElem?_push]
section
variable {P : Program} {t : Array Value} {Q : Exit → Array Value → World → Prop} {c : Code}
theorem exec_world {r : Option Nat} {W : World} (F : World → Prop) (hF : F W) (h : ∀ W', F W' → Exec P r c t W' Q) : Exec P r c t W Q := h W hF
theorem exec_region_r {l : Nat} {w : World} (h : ∀ ds, c.wpIn (Fence.wide.inRound l) 0 P (EQ w ds Q) { tmps := t, defers := ds } w) : Exec P (some l) c t w Q := fun _ ds => h ds
theorem exec_region_o {w : World} (h : ∀ ds, c.wpIn Fence.wide 0 P (EQ w ds Q) { tmps := t, defers := ds } w) : Exec P none c t w Q := fun _ ds => h ds
theorem eq_mk {w : World} {ds : List Deferred} {e : Exit} {W : World} (hk : Keep w W) (h : Q e t W) : EQ w ds Q e { tmps := t, defers := ds } W := ⟨hk, ⟨[], rfl, trivial⟩, h⟩
theorem exec_cut {r : Option Nat} {x y : Code} {w : World} (M : Array Value → World → Prop) (h1 : Exec P r x t w (andThen M Q)) (h2 : ∀ t' W, M t' W → Exec P r y t' W Q) : Exec P r (.seq x y) t w Q :=
  exec_seq (h1.mono fun e t' W h => by cases e <;> first | exact h2 t' W h | exact h)
end
theorem foldl_take {α β : Type} (f : β → α → β) (s : β) (l : List α) (k : Nat) (h : k < l.length) : (l.take (k + 1)).foldl f s = f ((l.take k).foldl f s) (l[k]'h) := by
  rw [List.take_succ_eq_append_getElem h, List.foldl_append]; rfl
def Box2 (W : World) (B : Nat) (t : TypeId) (a b : Int) : Prop := W.heap[B]? = some (.cells #[.int .i64 a, .int .i64 b] t (0, 0))
theorem Box2.cell0 {W : World} {B : Nat} {t : TypeId} {a b : Int} (h : Box2 W B t a b) : W.cell? ⟨B, 0, none⟩ = some (.int .i64 a) := by simp [World.cell?, show W.heap[B]? = _ from h]
theorem Box2.cell1 {W : World} {B : Nat} {t : TypeId} {a b : Int} (h : Box2 W B t a b) : W.cell? ⟨B, 1, none⟩ = some (.int .i64 b) := by simp [World.cell?, show W.heap[B]? = _ from h]
theorem Box2.new (W : World) (t : TypeId) (a b : Int) : Box2 (W.alloc (.cells #[.int .i64 a, .int .i64 b] t)) W.heap.size t a b := World.alloc_heap_new W _
theorem Box2.frozen {W : World} {B : Nat} {t : TypeId} {a b : Int} (h : Box2 W B t a b) (o : Nat) : W.frozen? ⟨B, o, none⟩ = false := by simp [World.frozen?, show W.heap[B]? = _ from h]
theorem Box2.lt {W : World} {B : Nat} {t : TypeId} {a b : Int} (h : Box2 W B t a b) : B < W.heap.size := (Array.getElem?_eq_some_iff.1 h).1
theorem Grow.box2 {B b : Nat} {t : TypeId} {x y : Int} {W W' : World} (h : Grow B W W') (hb : Box2 W b t x y) : Box2 W' b t x y := h.same b _ hb (.inr rfl)
theorem Stab.box2 (B b : Nat) (t : TypeId) (x y : Int) : Stab B (fun W => Box2 W b t x y) := fun _ _ h hg => hg.box2 h
end Go.TL
end

section
namespace Go.TL
open Go Go.RowKit

def isDefer : Op → Bool
  | .defer _ => true
  | _ => false

section
variable {P : Program} {ops : Array Oper} {Q : Exit → Act → World → Prop} {r : Option Nat}

theorem callsIn_any {n : Nat} {f : FuncId} {args : Array Value} {w : World} {R : Ending → World → Prop} (h : Calls P f args w R) : CallsIn (FW r) n P f args w R := by
  cases r with
  | none => exact callsIn_wide.2 h
  | some l => exact CallsIn.inRound l (callsIn_wide.2 h)

theorem rowsIn_any {n : Nat} {row : String} {args : Array Value} {w : World} {R : Value → World → Prop} (h : Rows P row args w R) : RowsIn (FW r) n P row args w R := fun c cs _ =>
  let ⟨v, w', hr, hs⟩ := h c cs
  ⟨v, w', hr, by cases r <;> exact stepsIn_wide.2 hs⟩

theorem upon_in {o : Oper} {a : Act} {next next' : Act → World → Prop} (hn : ∀ a w, next a w → next' a w) (hQ : ∀ a w, ¬ Q .outgrown a w) {res : Result Next} (h : o.upon P a next Q res) : o.uponIn (FW r) 0 P a next' Q res := by
  have hd : ∀ {p : Prop}, ((FW r).depth.isSome = true → p) := fun {p} h => by cases r <;> cases h
  cases res with
  | ok x w =>
    cases x with
    | value v => exact hn _ _ h
    | skip => exact hn _ _ h
    | defer d => exact hn _ _ h
    | enter f args =>
      refine ⟨hd, callsIn_any (Calls.mono h ?_)⟩
      rintro e w' he
      cases e with
      | returned v => exact hn _ _ he
      | panicked c => exact he
      | outgrown => exact absurd he (fun ⟨a, w, hq⟩ => hQ a w hq)
    | row row args => exact ⟨hd, (rowsIn_any (P := P) (r := r) h).mono fun v w' hv => hn _ _ hv⟩
    | _ => exact False.elim h
  | halt x w =>
    cases x with
    | panic v => exact h
    | _ => exact False.elim h

theorem ops_in (hnd : ops.all (fun o => !isDefer o.op) = true) (hQ : ∀ a w, ¬ Q .outgrown a w) : ∀ (l : List Nat) (a : Act) (w : World), wpOps P ops Q l a w → wpOpsIn (FW r) 0 P ops Q l a w
  | [], _, _, h => h
  | i :: rest, a, w, h => by
    simp only [wpOps] at h
    simp only [wpOpsIn]
    cases ho : ops[i]? with
    | none => simp only [ho] at h ⊢; exact ops_in hnd hQ rest a w h
    | some o =>
      simp only [ho] at h ⊢
      have hfn : ∀ f, (FW r).fn f := fun f => by cases r <;> exact trivial
      by_cases hw : Region.wanted o (yielded ops a.tmps) = true
      · simp only [hw, if_true] at h ⊢
        rcases h with h | ⟨_, a₀, w₀, hq⟩
        · refine ⟨fun f _ => hfn f, ?_⟩
          have hop : ∀ c, o.op ≠ .defer c := fun c e => by
            obtain ⟨hi, he⟩ := Array.getElem?_eq_some_iff.1 ho
            have := Array.all_eq_true.1 hnd i hi
            rw [he, e] at this
            simp [isDefer] at this
          rw [Oper.semAt_plain (FW r) _ _ hop]
          exact upon_in (fun a w => ops_in hnd hQ rest a w) hQ h
        · exact absurd hq (hQ a₀ w₀)
      · simp only [hw, if_false, Bool.false_eq_true] at h ⊢
        exact ⟨fun f _ => hfn f, ops_in hnd hQ rest _ _ h⟩
end

section
variable {P : Program} {r : Option Nat} {Q : Exit → Array Value → World → Prop} {t : Array Value} {w : World} {ops : Array Oper} {id : Nat}

theorem region_of_quiet (hm : P.follows .mixedOrders = true) (hnd : ops.all (fun o => !isDefer o.op) = true) (hB : Region.lexB .any ops = true) (C : World → Prop) (hC : C w.drew)
    (h : ∀ ds, wpQuiet P ops C (fun a' => a'.defers = ds ∧ ∀ W', C W' → Keep w W' ∧ Q .normal a'.tmps W') ops.toList { tmps := t, defers := ds }) : Exec P r (.region id ops true) t w Q := by
  intro hc ds
  refine wpIn_mono (Q := EQ w ds fun e t' W' => e = .normal ∧ Q .normal t' W') ?_ (by rintro e a W ⟨k, m, rfl, q⟩; exact ⟨k, m, q⟩)
  refine wpIn_region_draw fun tt => ?_
  simp only [Region.schedule, hm, Bool.true_or, if_true]
  refine ops_in hnd (fun a W ⟨_, _, e, _⟩ => by cases e) _ _ _ (wpAny_sound ops.size tt _ _ _ ?_)
  simp only [Region.lexB, Bool.and_eq_true] at hB
  refine wpAny_of_quiet (Q := fun a' => a'.defers = ds ∧ ∀ W', C W' → Keep w W' ∧ Q .normal a'.tmps W') (fun a' W' hW' hq => ⟨(hq.2 W' hW').1, ⟨[], hq.1, trivial⟩, rfl, (hq.2 W' hW').2⟩) _ _ _ _ hC ?_
  have := wpAnyQ_lex (C := C) (md := .any) hB.1 ops.toList 0 (Array.replicate ops.size false) { tmps := t, defers := ds } (by simp) (by simpa using hB.2) (h ds)
  simpa using this

end

/-! ### A scope that nothing jumps within -/
section
variable {P : Program} {r : Option Nat} {Q : Exit → Array Value → World → Prop} {t : Array Value} {w : World}
def noJump (Q : Exit → Array Value → World → Prop) : Exit → Array Value → World → Prop
  | .goto _, _, _ => False
  | e, t, W => Q e t W
theorem exec_scope {c : Code} (h : Exec P r c t w (noJump Q)) : Exec P r (.scope c) t w Q := by
  intro hc ds b k cs hro hb hr
  have s1 : step P (lone (b.atR { tmps := t, defers := ds } (.code (.scope c) :: k)) cs w) = .next (lone (b.atR { tmps := t, defers := ds } (.code c :: .inScope c :: k)) cs w) := step_lone_go (by simp [stepG, stepG.exec, Frame.atR])
  have h0 : (lone (b.atR { tmps := t, defers := ds } (.code (.scope c) :: k)) cs w).fenced P (FW r) := fenced_calm hb hr rfl
  obtain ⟨e, a₁, w₁, ⟨hk, hm, hq⟩, harr⟩ := h hc ds b (.inScope c :: k) cs hro hb hr
  have s2 : ∀ a w, step P (lone (b.atR a (.inScope c :: k)) cs w) = .next (lone (b.atR a k) cs w) := fun a w => step_lone_go (by simp [stepG, stepG.exec, Frame.atR])
  have hx : ∀ id, exitTo id (.inScope c :: k) = exitTo id k := fun id => by simp [exitTo]
  cases e with
  | normal => exact ⟨.normal, a₁, w₁, ⟨hk, hm, hq⟩, .head h0 s1 (StepsIn.trans harr (.one (fenced_calm hb hr rfl) (s2 _ _)))⟩
  | exit id => exact ⟨.exit id, a₁, w₁, ⟨hk, hm, hq⟩, fun k' hk' => .head h0 s1 (harr.1 k' (by rw [hx]; exact hk')), fun hr' hk' => let ⟨k₁, h1, h2⟩ := harr.2 hr' (by rw [hx]; exact hk'); ⟨k₁, h1, .head h0 s1 h2⟩⟩
  | goto l => exact hq.elim
  | ret => exact ⟨_, a₁, w₁, ⟨hk, hm, hq⟩, .of_steps (.one h0 s1) harr⟩
  | panic ch => exact ⟨_, a₁, w₁, ⟨hk, hm, hq⟩, .of_steps (.one h0 s1) harr⟩
  | outgrown => exact ⟨_, a₁, w₁, ⟨hk, hm, hq⟩, .of_steps (.one h0 s1) harr⟩
end
end Go.TL
end

section
namespace Go.TL
open Go Go.RowKit
open Go.ChangeMaps (setBlock heap_setBlock_same heap_setBlock_other modify_eq_set)

structure KeyEnc (P : Program) (k : TypeId) {κ : Type} (enc : κ → Value) (ok : κ → Prop) : Prop where
  keyed : Maps.Keyed P k
  lit : ∀ x, ok x → ∃ l, keyOf P k (enc x) = some l
  inj : ∀ x y, enc x = enc y → x = y

section
variable {κ : Type}

structure EntR (enc : κ → Value) (ok : κ → Prop) (es : Array MapEntry) (clock : Nat) (l : List (κ × Value)) : Prop where
  map : es.toList.map (fun e => (e.key, e.val)) = l.map (fun p => (enc p.1, p.2))
  nodup : (l.map (·.1)).Nodup
  ok : ∀ p ∈ l, ok p.1
  born : (es.toList.map (·.born)).Nodup
  old : ∀ e ∈ es.toList, e.born < clock

def MapR (enc : κ → Value) (ok : κ → Prop) (W : World) (b : Nat) (l : List (κ × Value)) : Prop :=
  ∃ es clock, W.heap[b]? = some (.map es clock) ∧ EntR enc ok es clock l

def at? [DecidableEq κ] (l : List (κ × Value)) (x : κ) : Option Value := (l.find? fun p => decide (p.1 = x)).map (·.2)
def put [DecidableEq κ] (l : List (κ × Value)) (x : κ) (v : Value) : List (κ × Value) := if x ∈ l.map (·.1) then l.map fun p => if p.1 = x then (x, v) else p else l ++ [(x, v)]

theorem MapR.new (enc : κ → Value) (ok : κ → Prop) (W : World) : MapR enc ok (W.alloc (.map #[] 0)) W.heap.size [] :=
  ⟨#[], 0, World.alloc_heap_new W _, ⟨rfl, List.nodup_nil, by simp, by simp, by simp⟩⟩

theorem MapR.lt {enc : κ → Value} {ok : κ → Prop} {W : World} {b : Nat} {l : List (κ × Value)} (h : MapR enc ok W b l) : b < W.heap.size := by
  obtain ⟨es, c, h, _⟩ := h
  exact (Array.getElem?_eq_some_iff.1 h).1
theorem MapR.kept {enc : κ → Value} {ok : κ → Prop} {W W' : World} {b : Nat} {l : List (κ × Value)} (h : MapR enc ok W b l) (hb : W'.heap[b]? = W.heap[b]?) : MapR enc ok W' b l := by
  obtain ⟨es, c, h, k⟩ := h
  exact ⟨es, c, hb.trans h, k⟩
theorem MapR.grow {B : Nat} {enc : κ → Value} {ok : κ → Prop} {W W' : World} {b : Nat} {l : List (κ × Value)} (h : MapR enc ok W b l) (hg : Grow B W W') : MapR enc ok W' b l := by
  obtain ⟨es, c, h, k⟩ := h
  exact ⟨es, c, hg.same _ _ h (.inr rfl), k⟩
theorem entR_at {enc : κ → Value} {ok : κ → Prop} {es : Array MapEntry} {clock : Nat} {l : List (κ × Value)} (h : EntR enc ok es clock l) (j : Nat) : (es.toList[j]?).map (fun e => (e.key, e.val)) = (l[j]?).map (fun p => (enc p.1, p.2)) := by
  have := congrArg (fun m => m[j]?) h.map
  simpa using this

theorem entR_find {P : Program} {k : TypeId} {enc : κ → Value} {ok : κ → Prop} (E : KeyEnc P k enc ok) {es : Array MapEntry} {clock : Nat} {l : List (κ × Value)} (h : EntR enc ok es clock l) (w : World) {x : κ} (hx : ok x) :
    ((Instr.findKey k (enc x) es.toList).run P w = .ok none w ∧ x ∉ l.map (·.1)) ∨
    ∃ j v e, (Instr.findKey k (enc x) es.toList).run P w = .ok (some (j, v)) w ∧ l[j]? = some (x, v) ∧ es.toList[j]? = some e ∧ e.key = enc x ∧ e.val = v := by
  obtain ⟨lx, hlx⟩ := E.lit x hx
  have hk : ∀ e ∈ es.toList, ∃ l', keyOf P k e.key = some l' := by
    intro e he
    have hm : (e.key, e.val) ∈ es.toList.map (fun e => (e.key, e.val)) := List.mem_map.2 ⟨e, he, rfl⟩
    rw [h.map] at hm
    obtain ⟨p, hp, hpe⟩ := List.mem_map.1 hm
    obtain ⟨l', hl'⟩ := E.lit p.1 (h.ok p hp)
    exact ⟨l', by rw [show e.key = enc p.1 from (congrArg Prod.fst hpe).symm]; exact hl'⟩
  rcases E.keyed.find w hlx es.toList hk with ⟨h1, h2⟩ | ⟨j, e, h1, h2, h3⟩
  · refine .inl ⟨h1, fun hm => ?_⟩
    obtain ⟨p, hp, rfl⟩ := List.mem_map.1 hm
    have hm : (enc p.1, p.2) ∈ l.map (fun p => (enc p.1, p.2)) := List.mem_map.2 ⟨p, hp, rfl⟩
    rw [← h.map] at hm
    obtain ⟨e, he, hpe⟩ := List.mem_map.1 hm
    exact h2 e he (congrArg Prod.fst hpe)
  · have ha := entR_at h j
    rw [h2] at ha
    cases hl : l[j]? with
    | none => rw [hl] at ha; simp at ha
    | some p =>
      rw [hl] at ha
      simp at ha
      have hpx : p.1 = x := E.inj _ _ (by rw [← ha.1, h3])
      refine .inr ⟨j, e.val, e, h1, ?_, h2, h3, rfl⟩
      rw [ha.2, ← hpx]; exact hl

theorem at_none [DecidableEq κ] {l : List (κ × Value)} {x : κ} (h : x ∉ l.map (·.1)) : at? l x = none := by
  unfold at?
  rw [List.find?_eq_none.2]
  · rfl
  · intro p hp he
    exact h (List.mem_map.2 ⟨p, hp, by simpa using he⟩)
theorem at_some [DecidableEq κ] {l : List (κ × Value)} (hn : (l.map (·.1)).Nodup) {x : κ} {v : Value} {j : Nat} (h : l[j]? = some (x, v)) : at? l x = some v := by
  have hm : (x, v) ∈ l := List.mem_of_getElem? h
  unfold at?
  cases hf : l.find? (fun p => decide (p.1 = x)) with
  | none =>
    have := List.find?_eq_none.1 hf _ hm
    simp at this
  | some q =>
    have hq := List.find?_some hf
    have hqm := List.mem_of_find?_eq_some hf
    simp at hq
    have : q = (x, v) := by
      clear hf h
      induction l with
      | nil => simp at hm
      | cons a r ih =>
        simp only [List.map_cons, List.nodup_cons] at hn
        rcases List.mem_cons.1 hm with rfl | hm'
        · rcases List.mem_cons.1 hqm with h' | h'
          · exact h'
          · exact absurd (List.mem_map.2 ⟨q, h', hq⟩) hn.1
        · rcases List.mem_cons.1 hqm with h' | h'
          · subst h'
            exact absurd (List.mem_map.2 ⟨(x, v), hm', hq.symm⟩) hn.1
          · exact ih hn.2 hm' h'
    rw [this]
    rfl

variable {P : Program} {k t e : TypeId} {enc : κ → Value} {ok : κ → Prop} {W : World} {b : Nat} {l : List (κ × Value)}

theorem MapR.lookup [DecidableEq κ] (h : MapR enc ok W b l) (E : KeyEnc P k enc ok) (ht : P.underlying t = some (.map k e)) {z : Value} (hz : (zeroValue e).run P W = .ok z W) {x : κ} (hx : ok x) (c : Bool) :
    (Instr.lookup t (.map (some b)) (enc x) c).run P W = .ok (if c then .tuple #[(at? l x).getD z, .bool (at? l x).isSome] else (at? l x).getD z) W := by
  obtain ⟨es, clock, hb, R⟩ := h
  obtain ⟨lx, hlx⟩ := E.lit x hx
  rcases entR_find E R W hx with ⟨h1, h2⟩ | ⟨j, v, e0, h1, h2, h3, h4, h5⟩
  · rw [at_none h2]
    cases c <;> simp [Instr.lookup, run_underlying ht, MapKept.run_getObj_map hb, E.keyed.check W _ hlx, h1, hz, Result.andThen]
  · rw [at_some R.nodup h2]
    cases c <;> simp [Instr.lookup, run_underlying ht, MapKept.run_getObj_map hb, E.keyed.check W _ hlx, h1, Result.andThen]

theorem put_new [DecidableEq κ] {x : κ} {v : Value} (h : x ∉ l.map (·.1)) : put l x v = l ++ [(x, v)] := if_neg h
theorem put_old [DecidableEq κ] {x : κ} {v : Value} (h : x ∈ l.map (·.1)) : put l x v = l.map fun p => if p.1 = x then (x, v) else p := if_pos h

theorem MapR.update [DecidableEq κ] (h : MapR enc ok W b l) (E : KeyEnc P k enc ok) (ht : P.underlying t = some (.map k e)) {x : κ} (hx : ok x) (v : Value) :
    ∃ W', (Instr.mapUpdate t (.map (some b)) (enc x) v).run P W = .ok () W' ∧ MapR enc ok W' b (put l x v) ∧ W.grownBy W' (some b) := by
  obtain ⟨es, clock, hb, R⟩ := h
  obtain ⟨lx, hlx⟩ := E.lit x hx
  have gr : ∀ o, W.grownBy (setBlock W b o) (some b) := fun o => ⟨rfl, rfl, rfl, by simp [setBlock], fun i _ hi => heap_setBlock_other hb _ (fun e => hi (by rw [e]))⟩
  rcases entR_find E R W hx with ⟨h1, h2⟩ | ⟨j, v0, e0, h1, h2, h3, h4, h5⟩
  · refine ⟨setBlock W b (.map (es.push ⟨enc x, v, clock⟩) (clock + 1)), ?_, ⟨_, _, heap_setBlock_same hb _, ?_⟩, gr _⟩
    · simp [Instr.mapUpdate, run_underlying ht, MapKept.run_getObj_map hb, E.keyed.check W false hlx, h1, MapKept.run_setObj_map _ hb, Result.andThen, setBlock]
    · rw [put_new h2]
      refine ⟨by simp [R.map], ?_, ?_, ?_, ?_⟩
      · rw [List.map_append, List.nodup_append]
        refine ⟨R.nodup, by simp, fun a ha y hy e => ?_⟩
        simp at hy
        subst hy
        subst e
        exact h2 ha
      · intro p hp
        rcases List.mem_append.1 hp with hp | hp
        · exact R.ok p hp
        · simp at hp; subst hp; exact hx
      · rw [Array.toList_push, List.map_append, List.nodup_append]
        refine ⟨R.born, by simp, fun a ha y hy e => ?_⟩
        simp at hy
        subst hy
        subst e
        obtain ⟨e1, he1, hc⟩ := List.mem_map.1 ha
        have := R.old e1 he1
        omega
      · intro e1 he1
        rw [Array.toList_push] at he1
        rcases List.mem_append.1 he1 with he1 | he1
        · have := R.old e1 he1; omega
        · simp at he1; subst he1; simp
  · have hm : x ∈ l.map (·.1) := List.mem_map.2 ⟨_, List.mem_of_getElem? h2, rfl⟩
    have hj : es[j]? = some e0 := by simpa using h3
    refine ⟨setBlock W b (.map (es.modify j fun e' => { e' with key := enc x, val := v }) clock), ?_, ⟨_, _, heap_setBlock_same hb _, ?_⟩, gr _⟩
    · simp [Instr.mapUpdate, run_underlying ht, MapKept.run_getObj_map hb, E.keyed.check W false hlx, h1, hj, h4, E.keyed.stays W hlx, MapKept.run_setObj_map _ hb, Result.andThen, setBlock]
    · rw [put_old hm]
      have hlist : (es.modify j (fun e' => { e' with key := enc x, val := v })).toList = es.toList.set j { e0 with key := enc x, val := v } := by rw [Array.toList_modify, modify_eq_set _ _ _ _ h3]
      have hset : (l.map fun p => if p.1 = x then (x, v) else p) = l.set j (x, v) := by
        refine List.ext_getElem? fun i => ?_
        rw [List.getElem?_map, List.getElem?_set]
        by_cases hi : j = i
        · subst hi
          rw [h2]
          have hlt := (List.getElem?_eq_some_iff.1 h2).1
          simp [hlt]
        · rw [if_neg hi]
          cases hl : l[i]? with
          | none => rfl
          | some p =>
            simp only [Option.map_some]
            rw [if_neg]
            intro he
            -- two places of one key
            have n := List.pairwise_iff_getElem.1 (show (l.map (·.1)).Pairwise (· ≠ ·) from R.nodup)
            obtain ⟨hjl, hje⟩ := List.getElem?_eq_some_iff.1 h2
            obtain ⟨hil, hie⟩ := List.getElem?_eq_some_iff.1 hl
            rcases Nat.lt_trichotomy i j with hlt | heq | hlt
            · exact n i j (by simpa using hil) (by simpa using hjl) hlt (by simp [hie, hje, he])
            · exact hi heq.symm
            · exact n j i (by simpa using hjl) (by simpa using hil) hlt (by simp [hie, hje, he])
      rw [hset]
      have hjl := (List.getElem?_eq_some_iff.1 h3).1
      refine ⟨?_, ?_, ?_, ?_, ?_⟩
      · rw [hlist, List.map_set, R.map, List.map_set]
      · rw [List.map_set]
        have : (l.map (·.1)).set j x = l.map (·.1) := by
          refine List.ext_getElem? fun i => ?_
          rw [List.getElem?_set]
          by_cases hi : j = i
          · subst hi; rw [if_pos rfl, List.getElem?_map, h2]; simp [(List.getElem?_eq_some_iff.1 h2).1]
          · rw [if_neg hi]
        rw [this]; exact R.nodup
      · intro p hp
        rcases List.mem_or_eq_of_mem_set hp with hp | rfl
        · exact R.ok p hp
        · exact hx
      · rw [hlist, List.map_set]
        have : (es.toList.map (·.born)).set j e0.born = es.toList.map (·.born) := by
          refine List.ext_getElem? fun i => ?_
          rw [List.getElem?_set]
          by_cases hi : j = i
          · subst hi; rw [if_pos rfl, List.getElem?_map, h3]; simpa using hjl
          · rw [if_neg hi]
        simp only [this]
        exact R.born
      · intro e1 he1
        rw [hlist] at he1
        rcases List.mem_or_eq_of_mem_set he1 with he1 | rfl
        · exact R.old e1 he1
        · exact R.old e0 (List.mem_of_getElem? h3)

theorem heap_setBlock_any (w : World) (r k : Nat) (o : Obj) (h : k ≠ r) : (setBlock w r o).heap[k]? = w.heap[k]? := by
  simp [setBlock, Array.getElem?_setIfInBounds_ne (Ne.symm h)]

/-! ### A range over it -/
def IterR (enc : κ → Value) (W : World) (it b : Nat) (rem : List (κ × Value)) : Prop :=
  ∃ es clock since seen c0, W.heap[b]? = some (.map es clock) ∧ W.heap[it]? = some (.mapIter (some b) since seen c0) ∧ (∀ x ∈ es.toList, x.born < since) ∧ since ≤ c0 ∧ since ≤ clock ∧ (es.toList.map (·.born)).Nodup ∧
    (leftOf es seen).toList.map (fun e => (e.key, e.val)) = rem.map (fun p => (enc p.1, p.2))

theorem IterR.kept {W' : World} {it : Nat} {rem : List (κ × Value)} (h : IterR enc W it b rem) (h1 : W'.heap[b]? = W.heap[b]?) (h2 : W'.heap[it]? = W.heap[it]?) : IterR enc W' it b rem := by
  obtain ⟨es, clock, since, seen, c0, a, b, c⟩ := h
  exact ⟨es, clock, since, seen, c0, h1.trans a, h2.trans b, c⟩
theorem IterR.grow {B : Nat} {W' : World} {it : Nat} {rem : List (κ × Value)} (h : IterR enc W it b rem) (hg : Grow B W W') : IterR enc W' it b rem := by
  obtain ⟨es, clock, since, seen, c0, a, b, c⟩ := h
  exact ⟨es, clock, since, seen, c0, hg.same _ _ a (.inr rfl), hg.same _ _ b (.inr rfl), c⟩
theorem MapR.range (h : MapR enc ok W b l) (ht : P.underlying t = some (.map k e)) : ∃ since, (Instr.range t (.map (some b))).run P W = .ok (.pointer (some ⟨W.heap.size, 0, none⟩)) (W.alloc (.mapIter (some b) since #[] since)) ∧
    IterR enc (W.alloc (.mapIter (some b) since #[] since)) W.heap.size b l := by
  obtain ⟨es, clock, hb, R⟩ := h
  have hlt := (Array.getElem?_eq_some_iff.1 hb).1
  refine ⟨clock, ?_, es, clock, clock, #[], clock, (Below.heap_alloc _ _ _ hlt).trans hb, World.alloc_heap_new _ _, R.old, Nat.le_refl _, Nat.le_refl _, R.born, ?_⟩
  · simp [Instr.range, run_underlying ht, MapKept.run_getObj_map hb, Result.andThen, run_newObj_alloc]
  · rw [← R.map]
    congr 1
    unfold leftOf
    simp

theorem IterR.next {it : Nat} {rem : List (κ × Value)} (h : IterR enc W it b rem) (ty : TypeId) (hne : it ≠ b) :
    (rem = [] ∧ (Instr.next (.pointer (some ⟨it, 0, none⟩)) false ty).run P W = .ok (.tuple #[.bool false]) W) ∨
    ∃ p pre post W', rem = pre ++ p :: post ∧ (Instr.next (.pointer (some ⟨it, 0, none⟩)) false ty).run P W = .ok (.tuple #[.bool true, enc p.1, p.2]) W' ∧ IterR enc W' it b (pre ++ post) ∧ W.grownBy W' (some it) ∧
      (Instr.entry (.pointer (some ⟨it, 0, none⟩))).run P W' = .ok (.tuple #[enc p.1, p.2]) W' := by
  obtain ⟨es, clock, since, seen, c0, hb, hr, hold, hsc, hsk, hn, hmap⟩ := h
  rcases run_next_at W ty it b since c0 seen es clock hr hb hold hsc with ⟨h0, hrun⟩ | ⟨e0, he0, w1, hw1, hrun⟩
  · left
    have : (leftOf es seen).toList = [] := by simpa using h0
    rw [this] at hmap
    exact ⟨by simpa using hmap.symm, hrun⟩
  · right
    obtain ⟨p1, p2, hsp⟩ := List.append_of_mem he0
    rw [hsp] at hmap
    simp only [List.map_append, List.map_cons] at hmap
    obtain ⟨r1, r2, hrem, hm1, hm2⟩ := List.map_eq_append_iff.1 hmap.symm
    cases r2 with
    | nil => simp at hm2
    | cons p r2 =>
      simp only [List.map_cons, List.cons.injEq, Prod.mk.injEq] at hm2
      obtain ⟨⟨hk, hv⟩, hm2⟩ := hm2
      have hmem : e0 ∈ es.toList := by
        have := he0
        unfold leftOf at this
        simp at this ⊢
        exact this.1
      have hlt := (Array.getElem?_eq_some_iff.1 hr).1
      have e1 : ∀ k : Nat, w1.heap[k]? = W.heap[k]? := fun k => by rcases hw1 with rfl | rfl <;> rfl
      have hit : (setBlock w1 it (.mapIter (some b) since (seen.push e0.born) clock)).heap[it]? = some (.mapIter (some b) since (seen.push e0.born) clock) := by
        have h9 : it < w1.heap.size := (Array.getElem?_eq_some_iff.1 ((e1 it).trans hr)).1
        simp [setBlock, h9]
      have hoth : ∀ k, k ≠ it → (setBlock w1 it (.mapIter (some b) since (seen.push e0.born) clock)).heap[k]? = W.heap[k]? := fun k hk => (heap_setBlock_any w1 it k _ hk).trans (e1 k)
      have hbb : (setBlock w1 it (.mapIter (some b) since (seen.push e0.born) clock)).heap[b]? = some (.map es clock) := (hoth b (Ne.symm hne)).trans hb
      refine ⟨p, r1, r2, setBlock w1 it (.mapIter (some b) since (seen.push e0.born) clock), hrem, by rw [hrun, hk, hv], ⟨es, clock, since, seen.push e0.born, clock, hbb, hit, hold, hsk, hsk, hn, ?_⟩, ?_, ?_⟩
      · have hL : (leftOf es (seen.push e0.born)).toList = (leftOf es seen).toList.filter (fun x => !(x.born == e0.born)) := by
          unfold leftOf
          simp [List.filter_filter]
          refine List.filter_congr fun x _ => ?_
          simp [Bool.and_comm, Bool.not_or]
          rfl
        rw [hL, hsp]
        have hnL : ((leftOf es seen).toList.map (·.born)).Nodup := by
          unfold leftOf
          simp only [Array.toList_filter]
          exact hn.sublist (List.filter_sublist.map _)
        rw [hsp] at hnL
        simp only [List.map_append, List.map_cons] at hnL
        rw [List.nodup_append] at hnL
        obtain ⟨_, n2, n3⟩ := hnL
        rw [List.nodup_cons] at n2
        have f1 : p1.filter (fun x => !(x.born == e0.born)) = p1 := List.filter_eq_self.2 fun x hx => by
          have := n3 x.born (List.mem_map.2 ⟨x, hx, rfl⟩) e0.born (by simp)
          simpa using this
        have f2 : p2.filter (fun x => !(x.born == e0.born)) = p2 := List.filter_eq_self.2 fun x hx => by
          have : x.born ≠ e0.born := fun e => n2.1 (List.mem_map.2 ⟨x, hx, e⟩)
          simpa using this
        rw [List.filter_append, List.filter_cons, f1, f2]
        simp only [beq_self_eq_true, Bool.not_true, Bool.false_eq_true, if_false, List.map_append]
        rw [← hm1, ← hm2]
      · refine ⟨?_, ?_, ?_, ?_, fun i _ hi => hoth i (fun e => hi (by rw [e]))⟩
        · rcases hw1 with rfl | rfl <;> rfl
        · rcases hw1 with rfl | rfl <;> rfl
        · rcases hw1 with rfl | rfl <;> rfl
        · rcases hw1 with rfl | rfl <;> simp [setBlock]
      · rw [hk, hv]
        exact run_entry_at _ it b since seen es clock e0 hit hbb hmem hn
end

/-! ### The operations, for the walk -/
section
variable {κ : Type} {F : Fence} {n : Nat} {P : Program} {ops : Array Oper} {rest : List Oper} {o : Oper} {a : Act} {Q : Exit → Act → World → Prop}
variable {k t e : TypeId} {enc : κ → Value} {ok : κ → Prop} {W : World} {b : Nat} {l : List (κ × Value)}

theorem walk_mapUpdate [DecidableEq κ] (hg : o.guard = none) {m x v : Operand} (hop : o.op = Op.mapUpdate t m x v) (hm : a.eval m = .map (some b)) (h : MapR enc ok W b l) (E : KeyEnc P k enc ok) (ht : P.underlying t = some (.map k e)) {y : κ} (hy : ok y) (hx : a.eval x = enc y) {u : Value} (hv : a.eval v = u)
    (hK : ∀ W', MapR enc ok W' b (put l y u) → W.grownBy W' (some b) → wpListIn F n P ops Q rest (a.put o.dst undef) W') : wpListIn F n P ops Q (o :: rest) a W := by
  refine wpListIn_plain hg fun K' hK' => ?_
  obtain ⟨w', hrun, r1, r2⟩ := h.update E ht hy u
  unfold Oper.wpIn
  refine ⟨by simp [Oper.about, hop], ?_⟩
  rw [Oper.semAt_plain F _ _ (by rw [hop]; intro c hc'; cases hc')]
  simp [execOp, hop, hm, hx, hv, hrun, Result.andThen]
  exact hK' _ _ (hK w' r1 r2)

theorem walk_range (hg : o.guard = none) {m : Operand} (hop : o.op = Op.range t m) (hm : a.eval m = .map (some b)) (h : MapR enc ok W b l) (ht : P.underlying t = some (.map k e))
    (hK : ∀ since, IterR enc (W.alloc (.mapIter (some b) since #[] since)) W.heap.size b l → wpListIn F n P ops Q rest (a.put o.dst (.pointer (some ⟨W.heap.size, 0, none⟩))) (W.alloc (.mapIter (some b) since #[] since))) : wpListIn F n P ops Q (o :: rest) a W := by
  refine wpListIn_plain hg fun K' hK' => ?_
  obtain ⟨since, hrun, r1⟩ := h.range (P := P) ht
  unfold Oper.wpIn
  refine ⟨by simp [Oper.about, hop], ?_⟩
  rw [Oper.semAt_plain F _ _ (by rw [hop]; intro c hc'; cases hc')]
  simp [execOp, hop, hm, hrun, Result.andThen]
  exact hK' _ _ (hK since r1)

theorem walk_next (hg : o.guard = none) {m : Operand} (hop : o.op = Op.next m false) {it : Nat} (hm : a.eval m = .pointer (some ⟨it, 0, none⟩)) (h : IterR enc W it b l) (hne : it ≠ b)
    (h0 : l = [] → wpListIn F n P ops Q rest (a.put o.dst (.tuple #[.bool false])) W)
    (h1 : ∀ p pre post W', l = pre ++ p :: post → IterR enc W' it b (pre ++ post) → W.grownBy W' (some it) → (Instr.entry (.pointer (some ⟨it, 0, none⟩))).run P W' = .ok (.tuple #[enc p.1, p.2]) W' →
      wpListIn F n P ops Q rest (a.put o.dst (.tuple #[.bool true, enc p.1, p.2])) W') : wpListIn F n P ops Q (o :: rest) a W := by
  refine wpListIn_plain hg fun K' hK' => ?_
  unfold Oper.wpIn
  refine ⟨by simp [Oper.about, hop], ?_⟩
  rw [Oper.semAt_plain F _ _ (by rw [hop]; intro c hc'; cases hc')]
  rcases h.next (P := P) o.type hne with ⟨hl, hrun⟩ | ⟨p, pre, post, W', hl, hrun, hi, hg', he⟩
  · simp [execOp, hop, hm, hrun, Result.andThen]
    exact hK' _ _ (h0 hl)
  · simp [execOp, hop, hm, hrun, Result.andThen]
    exact hK' _ _ (h1 p pre post W' hl hi hg' he)

theorem MapR.len (h : MapR enc ok W b l) (ht : P.underlying t = some (.map k e)) (ty : TypeId) : (Builtin.len_ #[t] ty #[.map (some b)]).run P W = .ok (.int .i64 l.length) W := by
  obtain ⟨es, clock, hb, R⟩ := h
  have e1 : es.size = l.length := by have := congrArg List.length R.map; simpa using this
  simp [Builtin.len_, run_underlying ht, MapKept.run_getObj_map hb, goInt, Result.andThen, e1]

theorem walk_len (hg : o.guard = none) {m : Operand} (hop : o.op = Op.call { callee := Callee.builtin Builtin.len, args := #[m], argTypes := #[t] }) (hm : a.eval m = .map (some b)) (h : MapR enc ok W b l) (ht : P.underlying t = some (.map k e))
    (hK : wpListIn F n P ops Q rest (a.put o.dst (.int .i64 l.length)) W) : wpListIn F n P ops Q (o :: rest) a W := by
  refine wpListIn_plain hg fun K' hK' => ?_
  unfold Oper.wpIn
  refine ⟨?_, ?_⟩
  · simp [Oper.about, hop, resolve, Target.leads, Sem.run_pure]
  · rw [Oper.semAt_plain F _ _ (by rw [hop]; intro c hc'; cases hc')]
    simp [execOp, hop, resolve, invoke, builtin, hm, h.len ht o.type, Result.andThen]
    exact hK' _ _ hK
end
end Go.TL
end

section
namespace Go.TL
open Go Go.RowKit
def Fits : List (Option Value) → List Value → Prop
  | [], [] => True
  | none :: r, _ :: s => Fits r s
  | some v :: r, u :: s => u = v ∧ Fits r s
  | _, _ => False
def fill : List (Option Value) → Nat → (Nat → Value) → List Value
  | [], _, _ => []
  | none :: r, i, x => x i :: fill r (i + 1) x
  | some v :: r, i, x => v :: fill r (i + 1) x
theorem fits_open : ∀ {p : List (Option Value)} {l : List Value} (i : Nat), Fits p l → ∃ x : Nat → Value, l = fill p i x
  | [], [], _, _ => ⟨fun _ => .bool true, rfl⟩
  | none :: r, u :: s, i, h => by
    obtain ⟨x, hx⟩ := fits_open (i + 1) (show Fits r s from h)
    refine ⟨fun j => if j = i then u else x j, ?_⟩
    have : ∀ (r : List (Option Value)) (k : Nat), i < k → fill r k (fun j => if j = i then u else x j) = fill r k x := by
      intro r
      induction r with
      | nil => intros; rfl
      | cons a r ih =>
        intro k hk
        cases a with
        | none => show _ :: _ = _ :: _; rw [ih (k + 1) (by omega)]; show (if k = i then u else x k) :: _ = _; rw [if_neg (by omega)]
        | some v => show _ :: _ = _ :: _; rw [ih (k + 1) (by omega)]
    show u :: s = (if i = i then u else x i) :: fill r (i + 1) _
    rw [this r (i + 1) (by omega), if_pos rfl, ← hx]
  | some v :: r, u :: s, i, h => by
    obtain ⟨x, hx⟩ := fits_open (i + 1) (show Fits r s from h.2)
    exact ⟨x, by rw [h.1]; show v :: s = v :: _; rw [← hx]⟩
  | [], _ :: _, _, h => h.elim
  | none :: _, [], _, h => h.elim
  | some _ :: _, [], _, h => h.elim
def Slots (p : List (Option Value)) (t : Array Value) : Prop := Fits p t.toList
theorem Slots.open_ {p : List (Option Value)} {t : Array Value} (h : Slots p t) : ∃ x : Nat → Value, t = (fill p 0 x).toArray := by
  obtain ⟨x, hx⟩ := fits_open 0 h
  exact ⟨x, by rw [← hx]⟩

/-! ### Operations of a region that draws its order -/
section
variable {P : Program} {C : World → Prop} {o : Oper} {a : Act} {K : Act → Prop}
theorem quiet_val (v : Value) (h : ∀ w, C w → (execOp a.eval o).run P w = .ok (.value v) w) (hk : K (a.put o.dst v)) : o.quiet P a C K :=
  ⟨v, fun w hw => by unfold Oper.quietAt; rw [h w hw]; exact ⟨rfl, rfl⟩, hk⟩
theorem quiet_call {f : FuncId} {args : Array Value} (v : Value) (h : ∀ w, C w → (execOp a.eval o).run P w = .ok (.enter f args) w) (hc : ∀ w, C w → Calls P f args w fun e w' => e = .returned v ∧ C w') (hk : K (a.put o.dst v)) : o.quiet P a C K :=
  ⟨v, fun w hw => by unfold Oper.quietAt; rw [h w hw]; exact ⟨rfl, hc w hw⟩, hk⟩
end
def sub : Code → List Nat → Code
  | c, [] => c
  | .seq a _, 0 :: r => sub a r
  | .seq _ b, _ :: r => sub b r
  | .block _ c, _ :: r => sub c r
  | .loop c, _ :: r => sub c r
  | .scope c, _ :: r => sub c r
  | .cond _ a _, 0 :: r => sub a r
  | .cond _ _ b, _ :: r => sub b r
  | .rangeFunc _ _ a _, 0 :: r => sub a r
  | .rangeFunc _ _ _ b, _ :: r => sub b r
  | c, _ :: _ => c
end Go.TL
end

section
namespace Go.TL
open Go Go.RowKit

def tailOk (md : Region.Mode) (pre tail : Array Oper) : Bool :=
  (tail.all fun o => (List.range pre.size).all fun j => o.after.any fun e => Region.binds md e && e.on == j) &&
  ((List.range pre.size).all fun j => match pre[j]? with
    | some o => (o.after.all fun e => !Region.binds md e || decide (e.on < j)) && (match o.guard with | some (g, _) => decide (g < pre.size) | none => true)
    | none => true)

section
variable {P : Program} {md : Region.Mode} {pre tail : Array Oper} {Q : Exit → Act → World → Prop}

theorem tailOk_tail (h : tailOk md pre tail = true) {o : Oper} {i : Nat} (ho : tail[i]? = some o) {j : Nat} (hj : j < pre.size) : ∃ e ∈ o.after, Region.binds md e = true ∧ e.on = j := by
  obtain ⟨hi, rfl⟩ := Array.getElem?_eq_some_iff.1 ho
  have h1 := (Bool.and_eq_true _ _ ▸ h : _ ∧ _).1
  have h2 := Array.all_eq_true.1 h1 i hi
  have h3 := List.all_eq_true.1 h2 j (List.mem_range.2 hj)
  obtain ⟨e, he, hb⟩ := Array.any_eq_true'.1 h3
  simp only [Bool.and_eq_true, beq_iff_eq] at hb
  exact ⟨e, he, hb.1, hb.2⟩
theorem tailOk_pre (h : tailOk md pre tail = true) {o : Oper} {j : Nat} (ho : pre[j]? = some o) : (∀ e ∈ o.after, Region.binds md e = true → e.on < j) ∧ ∀ g b, o.guard = some (g, b) → g < pre.size := by
  have hj := (Array.getElem?_eq_some_iff.1 ho).1
  have h1 := (Bool.and_eq_true _ _ ▸ h : _ ∧ _).2
  have h2 := List.all_eq_true.1 h1 j (List.mem_range.2 hj)
  simp only [ho, Bool.and_eq_true] at h2
  refine ⟨fun e he hb => ?_, fun g b hg => ?_⟩
  · have := (Array.all_eq_true_iff_forall_mem.1 h2.1) e he
    simp only [Bool.or_eq_true, Bool.not_eq_true', hb, decide_eq_true_eq] at this
    rcases this with h | h
    · cases h
    · exact h
  · have := h2.2
    rw [hg] at this
    simpa using this

def left (listed : Array Bool) : Nat := (listed.toList.filter (fun b => !b)).length
theorem left_set {listed : Array Bool} {i : Nat} (h : listed.getD i true = false) : left (listed.setIfInBounds i true) + 1 = left listed := by
  obtain ⟨l⟩ := listed
  unfold left
  simp only [List.setIfInBounds_toArray] at *
  induction l generalizing i with
  | nil => simp at h
  | cons b l ih =>
    cases i with
    | zero =>
      have : b = false := by simpa using h
      subst this
      simp
    | succ i =>
      have h' : (l.toArray).getD i true = false := by simpa using h
      have := ih h'
      cases b <;> simp at this ⊢ <;> omega
theorem left_zero {listed : Array Bool} (h : left listed = 0) : listed = Array.replicate listed.size true := by
  obtain ⟨l⟩ := listed
  unfold left at h
  have h2 : ∀ b ∈ l, b = true := by
    intro b hb
    have := List.filter_eq_nil_iff.1 (List.length_eq_zero_iff.1 h) b hb
    simpa using this
  apply Array.ext'
  simpa using List.eq_replicate_of_mem h2
theorem left_pos {listed : Array Bool} (h : left listed ≠ 0) : ∃ j, listed.getD j true = false := by
  obtain ⟨l⟩ := listed
  unfold left at h
  obtain ⟨b, hb⟩ := List.exists_mem_of_length_pos (Nat.pos_of_ne_zero h)
  rw [List.mem_filter] at hb
  obtain ⟨j, hj, e⟩ := List.getElem_of_mem hb.1
  have : b = false := by simpa using hb.2
  refine ⟨j, ?_⟩
  simp [hj, e, this]

theorem ready_some (h : tailOk md pre tail = true) {listed : Array Bool} (hs : listed.size = pre.size) (hl : left listed ≠ 0) : Region.ready md pre listed ≠ [] := by
  obtain ⟨j, hj, hmin⟩ := least (left_pos hl)
  intro e
  have hlt : j < listed.size := by
    rcases Nat.lt_or_ge j listed.size with h | h
    · exact h
    · simp [Array.getElem?_eq_none h] at hj
  have : j ∈ Region.ready md pre listed := by
    refine mem_ready.2 ⟨hj, pre[j]'(hs ▸ hlt), Array.getElem?_eq_getElem _, fun e he hb => ?_⟩
    have := (tailOk_pre h (Array.getElem?_eq_getElem (hs ▸ hlt))).1 e he hb
    have h2 : ¬ listed.getD e.on true = false := fun h => by have := hmin _ h; omega
    have h3 : e.on < listed.size := by omega
    simp [h3] at h2 ⊢
    exact h2
  rw [e] at this
  cases this

theorem getD_app {listed : Array Bool} {k j : Nat} (d : Bool) (h : j < listed.size) : (listed ++ Array.replicate k false).getD j d = listed.getD j d := by
  simp [Array.getElem?_append_left h, h]
theorem getD_app2 {listed : Array Bool} {k j : Nat} (h : listed.size ≤ j) : (listed ++ Array.replicate k false).getD j false = false := by
  rw [Array.getD_eq_getD_getElem?, Array.getElem?_append_right h]
  by_cases hk : j - listed.size < k
  · simp [hk]
  · simp [Array.getElem?_eq_none (show (Array.replicate k false).size ≤ j - listed.size by simp; omega)]

theorem ready_pre (h : tailOk md pre tail = true) {listed : Array Bool} (hs : listed.size = pre.size) (hl : left listed ≠ 0) {j : Nat} :
    j ∈ Region.ready md (pre ++ tail) (listed ++ Array.replicate tail.size false) → j ∈ Region.ready md pre listed := by
  intro hj
  obtain ⟨h1, o, ho, h2⟩ := mem_ready.1 hj
  by_cases hlt : j < pre.size
  · rw [Array.getElem?_append_left hlt] at ho
    rw [getD_app _ (by omega)] at h1
    refine mem_ready.2 ⟨h1, o, ho, fun e he hb => ?_⟩
    have := h2 e he hb
    have hlt2 := (tailOk_pre h ho).1 e he hb
    rwa [getD_app _ (by omega)] at this
  · exfalso
    rw [Array.getElem?_append_right (by omega)] at ho
    obtain ⟨j0, hj0⟩ := left_pos hl
    have hj1 : j0 < listed.size := by
      rcases Nat.lt_or_ge j0 listed.size with h | h
      · exact h
      · simp [Array.getElem?_eq_none h] at hj0
    obtain ⟨e, he, hb, rfl⟩ := tailOk_tail h ho (hs ▸ hj1)
    have := h2 e he hb
    rw [getD_app _ hj1] at this
    simp [hj1] at hj0 this
    rw [hj0] at this
    cases this

def behind (P : Program) (md : Region.Mode) (pre tail : Array Oper) (Q : Exit → Act → World → Prop) : Exit → Act → World → Prop
  | .normal, a, w => wpAny P md (pre ++ tail) Q tail.size (Array.replicate pre.size true ++ Array.replicate tail.size false) a w
  | .outgrown, _, _ => False
  | e, a, w => Q e a w

theorem wpOp_app (h : tailOk md pre tail = true) {i : Nat} (hi : i < pre.size) {K K' : Act → World → Prop} {a : Act} {w : World} (hK : ∀ a w, K a w → K' a w)
    (hw : wpOp P pre (behind P md pre tail Q) i K a w) : wpOp P (pre ++ tail) Q i K' a w := by
  have ho : pre[i]? = some pre[i] := Array.getElem?_eq_getElem hi
  have ho' : (pre ++ tail)[i]? = some pre[i] := by rw [Array.getElem?_append_left hi]; exact ho
  have hpre := fun g b => (tailOk_pre h ho).2 g b
  unfold wpOp at *
  simp only [ho, ho'] at hw ⊢
  have hy : Region.wanted pre[i] (yielded (pre ++ tail) a.tmps) = Region.wanted pre[i] (yielded pre a.tmps) := by
    unfold Region.wanted
    cases hg : (pre[i]).guard with
    | none => rfl
    | some gb =>
      obtain ⟨g, b⟩ := gb
      have hlt := hpre g b hg
      simp only [yielded, Array.getElem?_append_left hlt]
  rw [hy]
  split
  · rename_i hc
    rw [if_pos hc] at hw
    rcases hw with hw | ⟨_, a', w', hq⟩
    · left
      unfold Oper.wp at *
      generalize (execOp a.eval pre[i]).run P w = r at *
      cases r with
      | ok n w' =>
        cases n <;> simp only [Oper.upon] at hw ⊢ <;>
          first
            | exact hK _ _ hw
            | exact Calls.mono hw (fun e w'' he => by cases e <;> first | exact hK _ _ he | exact he | (obtain ⟨_, _, hq⟩ := he; exact hq.elim))
            | exact Rows.mono hw (fun _ _ he => hK _ _ he)
      | halt x w' => cases x <;> simp only [Oper.upon] at hw ⊢ <;> exact hw
    · exact hq.elim
  · rename_i hc
    rw [if_neg hc] at hw
    exact hK _ _ hw

theorem set_app {listed : Array Bool} {k i : Nat} (h : i < listed.size) : (listed ++ Array.replicate k false).setIfInBounds i true = listed.setIfInBounds i true ++ Array.replicate k false := by
  obtain ⟨l⟩ := listed
  apply Array.ext'
  simp at h ⊢
  rw [List.set_append_left _ _ h]

theorem wpAny_tail (h : tailOk md pre tail = true) : ∀ (fuel : Nat) (listed : Array Bool) (a : Act) (w : World), listed.size = pre.size → left listed = fuel →
    wpAny P md pre (behind P md pre tail Q) fuel listed a w → wpAny P md (pre ++ tail) Q (fuel + tail.size) (listed ++ Array.replicate tail.size false) a w
  | 0, listed, a, w, hs, hf, hw => by
    have e := left_zero hf
    rw [hs] at e
    rw [e, Nat.zero_add]
    exact hw.2
  | fuel + 1, listed, a, w, hs, hf, hw => by
    have hne : left listed ≠ 0 := by omega
    rw [show fuel + 1 + tail.size = (fuel + tail.size) + 1 by omega]
    refine ⟨fun e => ?_, fun i hi => ?_⟩
    · exfalso
      obtain ⟨j, hj⟩ := List.exists_mem_of_ne_nil _ (ready_some h hs hne)
      have : j ∈ Region.ready md (pre ++ tail) (listed ++ Array.replicate tail.size false) := by
        obtain ⟨h1, o, ho, h2⟩ := mem_ready.1 hj
        have hlt := (Array.getElem?_eq_some_iff.1 ho).1
        refine mem_ready.2 ⟨by rw [getD_app _ (by omega)]; exact h1, o, by rw [Array.getElem?_append_left hlt]; exact ho, fun e he hb => ?_⟩
        have := (tailOk_pre h ho).1 e he hb
        rw [getD_app _ (by omega)]
        exact h2 e he hb
      rw [e] at this
      cases this
    · have hr := ready_pre h hs hne hi
      obtain ⟨h1, o, ho, h2⟩ := mem_ready.1 hr
      have hlt := (Array.getElem?_eq_some_iff.1 ho).1
      rw [set_app (by omega)]
      exact wpOp_app h hlt (fun a' w' hK => wpAny_tail h fuel _ a' w' (by simp [hs]) (by have := left_set h1; omega) hK) (hw.2 i hr)
end

section
variable {P : Program} {r : Option Nat} {Q : Exit → Array Value → World → Prop} {t : Array Value} {w : World} {ops : Array Oper} {id : Nat}

theorem region_of_tail (n : Nat) (hm : P.follows .mixedOrders = true) (hnd : ops.all (fun o => !isDefer o.op) = true) (hok : tailOk .any (ops.toList.take n).toArray (ops.toList.drop n).toArray = true) (S : World → Prop) (Pn : List PanicEntry → Array Value → World → Prop)
    (hPn : ∀ c t W, Pn c t W → Q (.panic c) t W)
    (h : ∀ ds, wpAnyH P .any (ops.toList.take n).toArray (behind P .any (ops.toList.take n).toArray (ops.toList.drop n).toArray fun e a W => match e with
        | .normal => a.defers = ds ∧ Keep w W ∧ Q .normal a.tmps W
        | .panic c => a.defers = ds ∧ Keep w W ∧ Pn c a.tmps W
        | _ => False) S (ops.toList.take n).toArray.size (Array.replicate (ops.toList.take n).toArray.size false) { tmps := t, defers := ds } w.drew) : Exec P r (.region id ops true) t w Q := by
  intro hc ds
  refine wpIn_mono (Q := fun e a W => match e with
        | .normal => a.defers = ds ∧ Keep w W ∧ Q .normal a.tmps W
        | .panic c => a.defers = ds ∧ Keep w W ∧ Pn c a.tmps W
        | _ => False) ?_ ?_
  · refine wpIn_region_draw fun tt => ?_
    simp only [Region.schedule, hm, Bool.true_or, if_true]
    have e : (ops.toList.take n).toArray ++ (ops.toList.drop n).toArray = ops := by
      apply Array.ext'
      simp
    have h1 := wpAny_tail hok _ _ _ _ (by simp) (by simp [left]) (wpAny_of_held _ _ _ _ (h ds))
    have e2 : Array.replicate (ops.toList.take n).toArray.size false ++ Array.replicate (ops.toList.drop n).toArray.size false = Array.replicate ops.size false := by
      conv => rhs; rw [← e]
      simp only [Array.size_append, Array.replicate_append_replicate]
    have e3 : (ops.toList.take n).toArray.size + (ops.toList.drop n).toArray.size = ops.size := by
      conv => rhs; rw [← e]
      simp only [Array.size_append]
    rw [e, e2, e3] at h1
    exact ops_in hnd (fun a W hq => hq) _ _ _ (wpAny_sound ops.size tt _ _ _ h1)
  · rintro e a W hq
    cases e with
    | normal => exact ⟨hq.2.1, ⟨[], hq.1, trivial⟩, hq.2.2⟩
    | panic c => exact ⟨hq.2.1, ⟨[], hq.1, trivial⟩, hPn _ _ _ hq.2.2⟩
    | exit id => exact hq.elim
    | goto l => exact hq.elim
    | ret => exact hq.elim
    | outgrown => exact hq.elim
end

/-! ### The moves -/
section
variable {P : Program} {md : Region.Mode} {ops : Array Oper} {Q : Exit → Act → World → Prop} {S : World → Prop} {i : Nat} {o : Oper} {fuel : Nat} {listed : Array Bool} {a : Act} {w : World}

theorem held_take (i : Nat) (v : Value) (hi : ops[i]? = some o) (hs : Region.noSelect ops = true) (hf : Region.free md ops listed i = true) (hr : (Region.ready md ops listed).contains i = true)
    (hQ : ∀ c a w, Q (.panic c) (a.put o.dst v) w → Q (.panic c) a w) (hw : Region.wanted o (yielded ops a.tmps) = true) (hS : S w) (hv : ∀ w, S w → (execOp a.eval o).run P w = .ok (.value v) w)
    (h : wpAnyH P md ops Q S fuel (listed.setIfInBounds i true) (a.put o.dst v) w) : wpAnyH P md ops Q S (fuel + 1) listed a w :=
  wpAnyH_take hi hs hf hr hQ (.inl ⟨hw, hv⟩) hS h
theorem held_call (i : Nat) {f : FuncId} {args : Array Value} (hi : ops[i]? = some o) (hr : Region.ready md ops listed = [i]) (hw : Region.wanted o (yielded ops a.tmps) = true) (he : (execOp a.eval o).run P w = .ok (.enter f args) w)
    (hc : Calls P f args w fun e w' => (∃ v, e = .returned v ∧ S w' ∧ wpAnyH P md ops Q S fuel (listed.setIfInBounds i true) (a.put o.dst v) w') ∨ ∃ c, e = .panicked c ∧ Q (.panic c) a w') : wpAnyH P md ops Q S (fuel + 1) listed a w := by
  refine wpAnyH_all hr (by simp) fun j hj => ?_
  obtain rfl : j = i := by simpa using hj
  unfold wpOp
  simp only [hi, hw, if_true]
  left
  unfold Oper.wp
  rw [he]
  refine Calls.mono hc fun e w' h => ?_
  rcases h with ⟨v, rfl, h1, h2⟩ | ⟨c, rfl, h⟩
  · exact ⟨h1, h2⟩
  · exact h
theorem held_done (hr : Region.ready md ops listed = []) (h : Q .normal a w) : wpAnyH P md ops Q S fuel listed a w := wpAnyH_done hr h fuel
theorem any_val (i : Nat) (v : Value) (hi : ops[i]? = some o) (hr : Region.ready md ops listed = [i]) (hw : Region.wanted o (yielded ops a.tmps) = true) (he : (execOp a.eval o).run P w = .ok (.value v) w)
    (h : wpAny P md ops Q fuel (listed.setIfInBounds i true) (a.put o.dst v) w) : wpAny P md ops Q (fuel + 1) listed a w := by
  refine ⟨fun h0 => (by rw [h0] at hr; cases hr), fun j hj => ?_⟩
  rw [hr] at hj
  obtain rfl : j = i := by simpa using hj
  unfold wpOp
  simp only [hi, hw, if_true]
  left
  unfold Oper.wp
  rw [he]
  exact h
theorem any_skip (i : Nat) (w' : World) (hi : ops[i]? = some o) (hr : Region.ready md ops listed = [i]) (hw : Region.wanted o (yielded ops a.tmps) = true) (he : (execOp a.eval o).run P w = .ok .skip w')
    (h : wpAny P md ops Q fuel (listed.setIfInBounds i true) (a.put o.dst undef) w') : wpAny P md ops Q (fuel + 1) listed a w := by
  refine ⟨fun h0 => (by rw [h0] at hr; cases hr), fun j hj => ?_⟩
  rw [hr] at hj
  obtain rfl : j = i := by simpa using hj
  unfold wpOp
  simp only [hi, hw, if_true]
  left
  unfold Oper.wp
  rw [he]
  exact h
theorem any_done (hr : Region.ready md ops listed = []) (h : Q .normal a w) : ∀ {fuel}, wpAny P md ops Q fuel listed a w
  | 0 => ⟨hr, h⟩
  | _ + 1 => ⟨fun _ => h, by rw [hr]; simp⟩
end
end Go.TL
end

section
namespace Go.TL
open Go Go.RowKit
section
variable {F : Fence} {n : Nat} {P : Program} {Q : Exit → Act → List Frame → World → Prop} {a : Act} {cs : List Frame} {w : World}
theorem wpSIn_recover_first {id m : Nat} {ops : Array Oper} {o : Oper} (hF1 : F.round = none) (ho : ops[0]? = some o) (hsz : ops.size = m + 1) (hg : o.guard = none) (habout : ∀ f, o.about P w a.eval = some f → F.fn f)
    (hr : (execOp a.eval o).run P w = .ok .recover w) {v : Value} {cs' : List Frame} (hrec : recoverD cs = some (v, cs') ∨ (recoverD cs = none ∧ v = .nilIface ∧ cs' = cs))
    (h : wpOpsIn F n P ops (fun e a' w' => Q e a' cs' w') (List.range' 1 m) (a.put o.dst v) w) : (Code.region id ops false).wpSIn F n P Q a cs w := by
  intro b k hb hro hF hroom
  have hlen : cs'.length = cs.length := by
    rcases hrec with h | ⟨_, _, rfl⟩
    · exact recoverD_length h
    · rfl
  have hrange : List.range ops.size = 0 :: List.range' 1 m := by
    rw [hsz, List.range_eq_range', List.range'_succ]
  have h0 : (lone (b.atR a (.inRegion ops (0 :: List.range' 1 m) :: k)) cs w).fenced P F := fenced_oper hF hroom ho habout
  have hw : Region.wanted o (yielded ops a.tmps) = true := by simp [Region.wanted, hg]
  have hgs := stepGR_op (P := P) (b := b) (k := k) (cs := cs) (w := w) (rest := List.range' 1 m) ho hw
  rw [hro, Oper.semAt_none] at hgs
  have hfin : ∀ v, (b.atR a (.inRegion ops (0 :: List.range' 1 m) :: k)).finish v = b.atR (a.put o.dst v) (.inRegion ops (List.range' 1 m) :: k) := by
    intro v; rw [Frame.finish_atR, ho]; rfl
  have hk : (b.atR a (.inRegion ops (0 :: List.range' 1 m) :: k)).kind = .deferred := hb
  have htr := tryRecover_deferred hk cs
  obtain ⟨e, a', w', hq, harr⟩ := wp_opsIn _ _ _ h b k cs' (hro.trans hF1.symm) hF (hlen ▸ hroom)
  refine ⟨e, a', cs', w', hlen, hq, .of_steps (.one (fenced_calm hF hroom rfl) stepR_region) ?_⟩
  rw [hrange]
  refine .of_steps (.one h0 (step_lone_go ?_)) harr
  rw [hgs, ← hfin]
  simp only [Frame.atR, hro] at htr ⊢
  rcases hrec with hrec | ⟨hrec, rfl, rfl⟩
  · simp [stepG.apply, hr, htr, hrec]
  · simp [stepG.apply, hr, htr, hrec]
theorem opsIn_call {P : Program} {ops : Array Oper} {Q : Exit → Act → World → Prop} {a : Act} {w : World} {i : Nat} {o : Oper} {f : FuncId} {args : Array Value} (ho : ops[i]? = some o) (hg : o.guard = none) (hop : ∀ c, o.op ≠ .defer c)
    (he : (execOp a.eval o).run P w = .ok (.enter f args) w) (hc : Calls P f args w fun e w' => ∃ v, e = .returned v ∧ Q .normal (a.put o.dst v) w') : wpOpsIn Fence.wide 0 P ops Q [i] a w := by
  simp only [wpOpsIn, ho, show Region.wanted o (yielded ops a.tmps) = true from by simp [Region.wanted, hg], if_true]
  refine ⟨fun _ _ => trivial, ?_⟩
  rw [Oper.semAt_plain Fence.wide _ _ hop, he]
  refine ⟨fun h => (by cases h), (callsIn_wide.2 hc).mono ?_⟩
  rintro e w' ⟨v, rfl, h⟩
  exact h
end
end Go.TL
end

section
namespace Go.TL
open Go Go.RowKit
theorem split_rest {F : Fence} {n : Nat} {P : Program} {Q : Exit → Act → World → Prop} {a : Act} {w : World} {x y rest : Code} (h : ∀ rest', rest' = rest → (Code.seq x (.seq y rest')).wpIn F n P Q a w) : (Code.seq x (.seq y rest)).wpIn F n P Q a w := h rest rfl
theorem behind_normal {P : Program} {md : Region.Mode} {pre tail : Array Oper} {Q : Exit → Act → World → Prop} {a : Act} {w : World} (k : Nat) (hk : tail.size = k)
    (h : wpAny P md (pre ++ tail) Q k (Array.replicate pre.size true ++ Array.replicate k false) a w) : behind P md pre tail Q .normal a w := by subst hk; exact h
end Go.TL
end

section
namespace Go.TL
open Go Go.RowKit
structure It where
  op : Op
  dst : Option Tmp
  ty : TypeId
  take : Bool
  gd : Option (Tmp × Bool)
def mkO (x : It) : Oper := { dst := x.dst, op := x.op, type := x.ty, pos := "", after := #[], guard := none }
def itemOf (ops : Array Oper) (i : Nat) (t : Bool) : Option It :=
  match ops[i]? with
  | none => none
  | some o => match o.guard with
    | none => some ⟨o.op, o.dst, o.type, t, none⟩
    | some (g, b) => match (ops[g]?).bind (·.dst) with
      | some d => some ⟨o.op, o.dst, o.type, t, some (d, b)⟩
      | none => none
def needL (md : Region.Mode) : List Edge → Nat
  | [] => 0
  | e :: r => if Region.binds md e then 2 ^ e.on ||| needL md r else needL md r
def needsOf (md : Region.Mode) (ops : Array Oper) : List Nat := ops.toList.map fun o => needL md o.after.toList
def rdy1 (mask i : Nat) : Nat → List Nat → Bool
  | _, [] => true
  | j, d :: r => (if j == i then !mask.testBit j && (d &&& mask == d) else mask.testBit j || !(d &&& mask == d)) && rdy1 mask i (j + 1) r
def rdyHas (mask i : Nat) (needs : List Nat) : Bool := !mask.testBit i && (match needs[i]? with | some d => d &&& mask == d | none => false)
def okS (md : Region.Mode) (ops : Array Oper) (needs : List Nat) : List (Nat × Bool) → Nat → Array Bool → Bool
  | [], mask, _ => mask == 2 ^ needs.length - 1
  | (i, t) :: r, mask, listed => (itemOf ops i t).isSome && decide (i < needs.length) && (if t then Region.free md ops listed i && rdyHas mask i needs else rdy1 mask i 0 needs) && okS md ops needs r (mask ||| 2 ^ i) (listed.setIfInBounds i true)
structure Rel (n mask : Nat) (listed : Array Bool) : Prop where
  size : listed.size = n
  bit : ∀ j, mask.testBit j = listed.getD j false
theorem Rel.set {n mask : Nat} {listed : Array Bool} (h : Rel n mask listed) {i : Nat} (hi : i < n) : Rel n (mask ||| 2 ^ i) (listed.setIfInBounds i true) := by
  obtain ⟨h1, h2⟩ := h
  refine ⟨by simpa using h1, fun j => ?_⟩
  rw [Nat.testBit_or, Nat.testBit_two_pow, h2]
  simp only [Array.getD_eq_getD_getElem?, Array.getElem?_setIfInBounds]
  by_cases e : i = j
  · subst e; simp [h1, hi]
  · simp [e]
theorem need_bit (md : Region.Mode) : ∀ (l : List Edge) (k : Nat), (needL md l).testBit k = l.any fun e => Region.binds md e && e.on == k
  | [], k => by simp [needL]
  | e :: r, k => by
    simp only [needL, List.any_cons]
    cases hb : Region.binds md e with
    | true =>
      simp only [if_true, Nat.testBit_or, Nat.testBit_two_pow, need_bit md r k, Bool.true_and]
      congr 1
    | false => simp only [if_false, Bool.false_eq_true, need_bit md r k, Bool.false_and, Bool.false_or]
theorem need_all {md : Region.Mode} {n mask : Nat} {listed : Array Bool} (h : Rel n mask listed) (l : List Edge) : (l.all fun e => !Region.binds md e || listed.getD e.on false) = (needL md l &&& mask == needL md l) := by
  rw [Bool.eq_iff_iff, List.all_eq_true, beq_iff_eq]
  constructor
  · intro ha
    apply Nat.eq_of_testBit_eq
    intro k
    rw [Nat.testBit_and, h.bit]
    cases hk : (needL md l).testBit k with
    | false => rfl
    | true =>
      rw [need_bit, List.any_eq_true] at hk
      obtain ⟨e, he, hb⟩ := hk
      simp only [Bool.and_eq_true, beq_iff_eq] at hb
      have := ha e he
      rw [hb.1, hb.2] at this
      simpa using this
  · intro hn e he
    cases hb : Region.binds md e with
    | false => rfl
    | true =>
      have h1 : (needL md l).testBit e.on = true := by
        rw [need_bit, List.any_eq_true]
        exact ⟨e, he, by simp [hb]⟩
      have h2 : (needL md l &&& mask).testBit e.on = true := by rw [hn]; exact h1
      rw [Nat.testBit_and, h.bit] at h2
      simp only [Bool.and_eq_true] at h2
      simp [h2.2]
theorem getD_ft {listed : Array Bool} {j n : Nat} (hs : listed.size = n) (h : j < n) : listed.getD j true = listed.getD j false := by
  simp [Array.getD_eq_getD_getElem?, show j < listed.size by omega]
theorem after_list (o : Oper) (md : Region.Mode) (listed : Array Bool) : (o.after.all fun e => !Region.binds md e || listed.getD e.on false) = (o.after.toList.all fun e => !Region.binds md e || listed.getD e.on false) := by
  rw [Array.all_toList]
theorem ready_bit {md : Region.Mode} {ops : Array Oper} {mask : Nat} {listed : Array Bool} (h : Rel ops.size mask listed) (j : Nat) (hj : j < ops.size) :
    (!listed.getD j true && ((ops[j]?).map (·.after.all fun e => !Region.binds md e || listed.getD e.on false)).getD false) = (!mask.testBit j && ((needsOf md ops)[j]'(by simpa [needsOf] using hj) &&& mask == (needsOf md ops)[j]'(by simpa [needsOf] using hj))) := by
  rw [getD_ft h.size hj, h.bit, Array.getElem?_eq_getElem hj]
  simp only [Option.map_some, Option.getD_some]
  rw [after_list, need_all h]
  simp [needsOf]
def gdOk (g : Option (Tmp × Bool)) (t : Array Value) (p : Bool) : Prop :=
  match g with
  | none => p = true
  | some (d, b) => t[d]? = some (.bool (if p then b else !b))
section
variable {P : Program} {md : Region.Mode} {ops : Array Oper} {Q : Exit → Act → World → Prop} {S : World → Prop}
theorem execOp_congr {ρ : Operand → Value} {o o' : Oper} (h : o.op = o'.op) (ht : o.type = o'.type) : execOp ρ o = execOp ρ o' := by
  cases o; cases o'
  simp only at h ht
  subst h ht
  rfl
theorem itemOf_spec {i : Nat} {t : Bool} {x : It} (h : itemOf ops i t = some x) : ∃ o, ops[i]? = some o ∧ x.op = o.op ∧ x.dst = o.dst ∧ x.ty = o.type ∧ x.take = t ∧
    ∀ (T : Array Value) (p : Bool), gdOk x.gd T p → Region.wanted o (yielded ops T) = p := by
  unfold itemOf at h
  cases ho : ops[i]? with
  | none => rw [ho] at h; cases h
  | some o =>
    rw [ho] at h
    simp only at h
    cases hg : o.guard with
    | none =>
      rw [hg] at h
      simp only [Option.some.injEq] at h
      subst h
      refine ⟨o, rfl, rfl, rfl, rfl, rfl, fun T p hp => ?_⟩
      simp only [gdOk] at hp
      unfold Region.wanted
      rw [hg, hp]
    | some gb =>
      obtain ⟨g, b⟩ := gb
      rw [hg] at h
      simp only at h
      cases hd : (ops[g]?).bind (·.dst) with
      | none => rw [hd] at h; cases h
      | some d =>
        rw [hd] at h
        simp only [Option.some.injEq] at h
        subst h
        refine ⟨o, rfl, rfl, rfl, rfl, rfl, fun T p hp => ?_⟩
        simp only [gdOk] at hp
        have hy : yielded ops T g = some (if p then b else !b) := by
          unfold yielded
          rw [hd]
          simp only [Option.bind_some]
          rw [hp]
        unfold Region.wanted
        rw [hg]
        simp only [hy]
        cases p <;> cases b <;> rfl
end
def regOps : Code → Array Oper
  | .region _ ops _ => ops
  | _ => #[]
section
variable {P : Program} {r : Option Nat} {Q : Exit → Array Value → World → Prop} {t : Array Value} {w : World}
theorem put_defers {a : Act} {d : Option Tmp} {v : Value} {ds : List Deferred} (h : (a.put d v).defers = ds) : a.defers = ds := by cases d <;> exact h
end
section
variable {P : Program} {Q : Exit → Act → World → Prop} {S : World → Prop} {L : List It} {a : Act} {w : World}
end
end Go.TL
end

section
namespace Go.TL
open Go Go.RowKit
inductive Sch where
  | nil : Sch
  | one : Nat → Bool → Sch → Sch
  | two : Nat → Nat → Sch → Sch → Sch
  | three : Nat → Nat → Nat → Sch → Sch → Sch → Sch
def rdyL (mask : Nat) (l : List Nat) : Nat → List Nat → Bool
  | _, [] => true
  | j, d :: r => (l.contains j || mask.testBit j || !(d &&& mask == d)) && rdyL mask l (j + 1) r
def okT (md : Region.Mode) (ops : Array Oper) (needs : List Nat) : Sch → Nat → Array Bool → Bool
  | .nil, mask, _ => mask == 2 ^ needs.length - 1
  | .one i t r, mask, listed => (itemOf ops i t).isSome && decide (i < needs.length) && (if t then Region.free md ops listed i && rdyHas mask i needs else rdyHas mask i needs && rdyL mask [i] 0 needs) && okT md ops needs r (mask ||| 2 ^ i) (listed.setIfInBounds i true)
  | .two i j a b, mask, listed => (itemOf ops i false).isSome && (itemOf ops j false).isSome && decide (i < needs.length) && decide (j < needs.length) && rdyHas mask i needs && rdyL mask [i, j] 0 needs && okT md ops needs a (mask ||| 2 ^ i) (listed.setIfInBounds i true) && okT md ops needs b (mask ||| 2 ^ j) (listed.setIfInBounds j true)
  | .three i j k a b c, mask, listed => (itemOf ops i false).isSome && (itemOf ops j false).isSome && (itemOf ops k false).isSome && decide (i < needs.length) && decide (j < needs.length) && decide (k < needs.length) && rdyHas mask i needs && rdyL mask [i, j, k] 0 needs && okT md ops needs a (mask ||| 2 ^ i) (listed.setIfInBounds i true) && okT md ops needs b (mask ||| 2 ^ j) (listed.setIfInBounds j true) && okT md ops needs c (mask ||| 2 ^ k) (listed.setIfInBounds k true)
def stepX (P : Program) (S : World → Prop) (Q : Exit → Act → World → Prop) (x : It) (K : Act → World → Prop) (a : Act) (w : World) : Prop :=
  (gdOk x.gd a.tmps false ∧ S w ∧ K (a.put x.dst undef) w) ∨
    (gdOk x.gd a.tmps true ∧ if x.take then ∃ v, (∀ w, S w → (execOp a.eval (mkO x)).run P w = .ok (.value v) w) ∧ S w ∧ K (a.put x.dst v) w
      else (∃ f args, (execOp a.eval (mkO x)).run P w = .ok (.enter f args) w ∧ Calls P f args w fun e w' => (∃ v, e = .returned v ∧ S w' ∧ K (a.put x.dst v) w') ∨ ∃ c, e = .panicked c ∧ Q (.panic c) a w') ∨
        (∃ v w', (execOp a.eval (mkO x)).run P w = .ok (.value v) w' ∧ S w' ∧ K (a.put x.dst v) w') ∨
        (∃ w', (execOp a.eval (mkO x)).run P w = .ok .skip w' ∧ S w' ∧ K (a.put x.dst undef) w'))
def stepN (P : Program) (ops : Array Oper) (S : World → Prop) (Q : Exit → Act → World → Prop) (i : Nat) (t : Bool) (K : Act → World → Prop) (a : Act) (w : World) : Prop := ∃ x, itemOf ops i t = some x ∧ stepX P S Q x K a w
def seqT (P : Program) (ops : Array Oper) (S : World → Prop) (Q : Exit → Act → World → Prop) : Sch → Act → World → Prop
  | .nil, a, w => Q .normal a w
  | .one i t r, a, w => stepN P ops S Q i t (seqT P ops S Q r) a w
  | .two i j x y, a, w => stepN P ops S Q i false (seqT P ops S Q x) a w ∧ stepN P ops S Q j false (seqT P ops S Q y) a w
  | .three i j k x y z, a, w => stepN P ops S Q i false (seqT P ops S Q x) a w ∧ stepN P ops S Q j false (seqT P ops S Q y) a w ∧ stepN P ops S Q k false (seqT P ops S Q z) a w
def lenT : Sch → Nat
  | .nil => 0
  | .one _ _ r => lenT r + 1
  | .two _ _ a _ => lenT a + 1
  | .three _ _ _ a _ _ => lenT a + 1
def evenT : Sch → Bool
  | .nil => true
  | .one _ _ r => evenT r
  | .two _ _ a b => evenT a && evenT b && lenT a == lenT b
  | .three _ _ _ a b c => evenT a && evenT b && evenT c && lenT a == lenT b && lenT a == lenT c
section
variable {P : Program} {md : Region.Mode} {ops : Array Oper} {Q : Exit → Act → World → Prop} {S : World → Prop}
theorem rdyL_spec {mask : Nat} {s : List Nat} : ∀ (l : List Nat) (j : Nat), rdyL mask s j l = true → ∀ k (hk : k < l.length), (!mask.testBit (j + k) && (l[k]'hk &&& mask == l[k]'hk)) = true → j + k ∈ s
  | [], _, _, k, hk, _ => by simp at hk
  | d :: r, j, h, k, hk, hb => by
    simp only [rdyL, Bool.and_eq_true] at h
    cases k with
    | zero =>
      simp only [Nat.add_zero, List.getElem_cons_zero, Bool.and_eq_true, Bool.not_eq_true'] at hb ⊢
      have h1 := h.1
      rw [hb.1, hb.2] at h1
      simpa using h1
    | succ k =>
      have := rdyL_spec r (j + 1) h.2 k (by simpa using hk) (by rw [show j + 1 + k = j + (k + 1) by omega]; simpa using hb)
      rw [show j + (k + 1) = j + 1 + k by omega]
      exact this
theorem ready_mem {mask : Nat} {listed : Array Bool} {needs : List Nat} (hn : needsOf md ops = needs) (h : Rel ops.size mask listed) (k : Nat) : k ∈ Region.ready md ops listed ↔ k < ops.size ∧ rdyHas mask k needs = true := by
  have hl : needs.length = ops.size := by rw [← hn]; simp [needsOf]
  unfold Region.ready
  rw [List.mem_filter, List.mem_range]
  constructor
  · rintro ⟨h1, h2⟩
    rw [ready_bit h k h1] at h2
    refine ⟨h1, ?_⟩
    unfold rdyHas
    subst hn
    rw [List.getElem?_eq_getElem (by omega)]
    exact h2
  · rintro ⟨h1, h2⟩
    refine ⟨h1, ?_⟩
    rw [ready_bit h k h1]
    unfold rdyHas at h2
    subst hn
    rw [List.getElem?_eq_getElem (by omega)] at h2
    exact h2
theorem rdyHas_bit {mask k : Nat} {needs : List Nat} (hk : k < needs.length) (h : rdyHas mask k needs = true) : (!mask.testBit (0 + k) && (needs[k]'hk &&& mask == needs[k]'hk)) = true := by
  unfold rdyHas at h
  rw [List.getElem?_eq_getElem hk] at h
  rw [Nat.zero_add]
  exact h
theorem any_mem {listed : Array Bool} {a : Act} {w : World} {fuel : Nat} {i : Nat} (hi : i ∈ Region.ready md ops listed) (h : ∀ k ∈ Region.ready md ops listed, wpOp P ops Q k (fun a' w' => S w' ∧ wpAnyH P md ops Q S fuel (listed.setIfInBounds k true) a' w') a w) : wpAnyH P md ops Q S (fuel + 1) listed a w :=
  ⟨fun h0 => absurd hi (by rw [h0]; simp), h⟩
theorem step_op {i : Nat} {x : It} {a : Act} {w : World} {K K' : Act → World → Prop} (hx : itemOf ops i false = some x) (h : stepX P S Q x K a w) (hK : ∀ a w, K a w → K' a w) : wpOp P ops Q i (fun a' w' => S w' ∧ K' a' w') a w := by
  obtain ⟨o, ho, e1, e2, e3, e4, hw⟩ := itemOf_spec hx
  have he : ∀ ρ, execOp ρ (mkO x) = execOp ρ o := fun ρ => execOp_congr e1 e3
  unfold stepX at h
  rw [e2] at h
  unfold wpOp
  rcases h with ⟨hg, hS, h⟩ | ⟨hg, h⟩
  · have hwn := hw _ _ hg
    simp only [ho, hwn, if_false, Bool.false_eq_true]
    exact ⟨hS, hK _ _ h⟩
  · have hwn := hw _ _ hg
    simp only [e4, if_false, Bool.false_eq_true] at h
    simp only [ho, hwn, if_true]
    left
    unfold Oper.wp
    rcases h with ⟨f, args, hr, hcall⟩ | ⟨v, w', hr, hS, h⟩ | ⟨w', hr, hS, h⟩
    · rw [he] at hr
      rw [hr]
      refine Calls.mono hcall fun e w' hq => ?_
      rcases hq with ⟨v, rfl, hS, hq⟩ | ⟨c, rfl, hq⟩
      · exact ⟨hS, hK _ _ hq⟩
      · exact hq
    · rw [he] at hr
      rw [hr]
      exact ⟨hS, hK _ _ h⟩
    · rw [he] at hr
      rw [hr]
      exact ⟨hS, hK _ _ h⟩
theorem tree_any (hs : Region.noSelect ops = true) {needs : List Nat} (hn : needsOf md ops = needs) (hp : ∀ i t x, itemOf ops i t = some x → ∀ c a v w, Q (.panic c) (a.put x.dst v) w → Q (.panic c) a w) :
    ∀ (T : Sch) (mask : Nat) (listed : Array Bool) (a : Act) (w : World), Rel ops.size mask listed → okT md ops needs T mask listed = true → evenT T = true → seqT P ops S Q T a w → wpAnyH P md ops Q S (lenT T) listed a w := by
  have hl : needs.length = ops.size := by rw [← hn]; simp [needsOf]
  intro T
  induction T with
  | nil =>
    intro mask listed a w h hc _ hq
    simp only [okT, beq_iff_eq] at hc
    refine ⟨?_, hq⟩
    rw [List.eq_nil_iff_forall_not_mem]
    intro k hk
    obtain ⟨h1, h2⟩ := (ready_mem hn h k).1 hk
    have := rdyHas_bit (by omega) h2
    rw [hc, Nat.testBit_two_pow_sub_one] at this
    simp only [Bool.and_eq_true, Bool.not_eq_true', decide_eq_false_iff_not] at this
    exact this.1 (by omega)
  | one i t r ih =>
    intro mask listed a w h hc he hq
    simp only [okT, Bool.and_eq_true, decide_eq_true_eq] at hc
    obtain ⟨⟨⟨h1, h2⟩, h3⟩, h4⟩ := hc
    obtain ⟨x, hx, hq⟩ := hq
    have hi : i < ops.size := by omega
    have ih' := fun a w => ih _ _ a w (h.set hi) h4 he
    cases t with
    | false =>
      simp only [if_false, Bool.false_eq_true, Bool.and_eq_true] at h3
      refine any_mem ((ready_mem hn h i).2 ⟨hi, h3.1⟩) fun k hk => ?_
      obtain ⟨k1, k2⟩ := (ready_mem hn h k).1 hk
      have := rdyL_spec needs 0 h3.2 k (by omega) (rdyHas_bit (by omega) k2)
      obtain rfl : k = i := by simpa using this
      exact step_op hx hq ih'
    | true =>
      simp only [if_true, Bool.and_eq_true] at h3
      obtain ⟨o, ho, e1, e2, e3, e4, hw⟩ := itemOf_spec hx
      have heq : ∀ ρ, execOp ρ (mkO x) = execOp ρ o := fun ρ => execOp_congr e1 e3
      have hpx := hp i true x hx
      unfold stepX at hq
      rw [e2] at hq hpx
      have hr : (Region.ready md ops listed).contains i = true := by simpa using (ready_mem hn h i).2 ⟨hi, h3.2⟩
      rcases hq with ⟨hg, hS, hq⟩ | ⟨hg, hq⟩
      · exact wpAnyH_take ho hs h3.1 hr (fun c a w => hpx c a undef w) (.inr ⟨hw _ _ hg, rfl⟩) hS (ih' _ _ hq)
      · simp only [e4, if_true] at hq
        obtain ⟨v, hv, hS, hq⟩ := hq
        exact wpAnyH_take ho hs h3.1 hr (fun c a w => hpx c a v w) (.inl ⟨hw _ _ hg, fun w hS => heq _ ▸ hv w hS⟩) hS (ih' _ _ hq)
  | two i j x y ihx ihy =>
    intro mask listed a w h hc he hq
    simp only [okT, Bool.and_eq_true, decide_eq_true_eq] at hc
    simp only [evenT, Bool.and_eq_true, beq_iff_eq] at he
    obtain ⟨⟨⟨⟨⟨⟨⟨h1, h2⟩, h3⟩, h4⟩, h5⟩, h6⟩, h7⟩, h8⟩ := hc
    obtain ⟨⟨e1, e2⟩, e3⟩ := he
    obtain ⟨⟨x1, hx1, q1⟩, ⟨x2, hx2, q2⟩⟩ := hq
    refine any_mem ((ready_mem hn h i).2 ⟨by omega, h5⟩) fun k hk => ?_
    obtain ⟨k1, k2⟩ := (ready_mem hn h k).1 hk
    have := rdyL_spec needs 0 h6 k (by omega) (rdyHas_bit (by omega) k2)
    simp only [Nat.zero_add, List.mem_cons, List.not_mem_nil, or_false] at this
    rcases this with rfl | rfl
    · exact step_op hx1 q1 fun a w => ihx _ _ a w (h.set (by omega)) h7 e1
    · exact step_op hx2 q2 fun a w hh => by
        have := ihy _ _ a w (h.set (by omega)) h8 e2 hh
        rw [← e3] at this
        exact this
  | three i j l x y z ihx ihy ihz =>
    intro mask listed a w h hc he hq
    simp only [okT, Bool.and_eq_true, decide_eq_true_eq] at hc
    simp only [evenT, Bool.and_eq_true, beq_iff_eq] at he
    obtain ⟨⟨⟨⟨⟨⟨⟨⟨⟨⟨h1, h2⟩, h2'⟩, h3⟩, h4⟩, h4'⟩, h5⟩, h6⟩, h7⟩, h8⟩, h9⟩ := hc
    obtain ⟨⟨⟨⟨e1, e2⟩, e2'⟩, e3⟩, e4⟩ := he
    obtain ⟨⟨x1, hx1, q1⟩, ⟨x2, hx2, q2⟩, ⟨x3, hx3, q3⟩⟩ := hq
    refine any_mem ((ready_mem hn h i).2 ⟨by omega, h5⟩) fun k hk => ?_
    obtain ⟨k1, k2⟩ := (ready_mem hn h k).1 hk
    have := rdyL_spec needs 0 h6 k (by omega) (rdyHas_bit (by omega) k2)
    simp only [Nat.zero_add, List.mem_cons, List.not_mem_nil, or_false] at this
    rcases this with rfl | rfl | rfl
    · exact step_op hx1 q1 fun a w => ihx _ _ a w (h.set (by omega)) h7 e1
    · exact step_op hx2 q2 fun a w hh => by
        have := ihy _ _ a w (h.set (by omega)) h8 e2 hh
        rw [← e3] at this
        exact this
    · exact step_op hx3 q3 fun a w hh => by
        have := ihz _ _ a w (h.set (by omega)) h9 e2' hh
        rw [← e4] at this
        exact this
end
section
variable {P : Program} {r : Option Nat} {Q : Exit → Array Value → World → Prop} {t : Array Value} {w : World}
def Opq (ops : Array Oper) : Array Oper := ops
theorem region_tree {c : Code} {id : Nat} (T : Sch) (ops : Array Oper) (hops : regOps c = ops) (hc : c = .region id (regOps c) true) (hm : P.follows .mixedOrders = true)
    (hnd : (regOps c).all (fun o => !isDefer o.op) = true) (hns : Region.noSelect (regOps c) = true) (hlen : lenT T = (regOps c).size) (heven : evenT T = true) (needs : List Nat) (hneeds : needsOf .any (regOps c) = needs) (hchk : okT .any (regOps c) needs T 0 (Array.replicate (regOps c).size false) = true)
    (S : World → Prop) (Pn : List PanicEntry → Array Value → World → Prop) (hPn : ∀ c t W, Pn c t W → Q (.panic c) t W)
    (hput : ∀ i t x, itemOf (regOps c) i t = some x → ∀ c (a : Act) v W, Pn c (a.put x.dst v).tmps W → Pn c a.tmps W)
    (h : ∀ ds (Q' : Exit → Act → World → Prop), (∀ t W, Keep w W → Q .normal t W → Q' .normal { tmps := t, defers := ds } W) → (∀ c t W, Keep w W → Pn c t W → Q' (.panic c) { tmps := t, defers := ds } W) →
      seqT P ops S Q' T { tmps := t, defers := ds } w.drew) : Exec P r c t w Q := by
  intro hc' ds
  subst hops
  generalize hops : regOps c = ops at *
  rw [hc]
  refine wpIn_mono (Q := fun e a W => match e with
        | .normal => a.defers = ds ∧ Keep w W ∧ Q .normal a.tmps W
        | .panic c => a.defers = ds ∧ Keep w W ∧ Pn c a.tmps W
        | _ => False) ?_ ?_
  · refine wpIn_region_draw fun tt => ?_
    simp only [Region.schedule, hm, Bool.true_or, if_true]
    refine ops_in hnd (fun a W hq => hq) _ _ _ (wpAny_sound ops.size tt _ _ _ (wpAny_of_held (S := S) _ _ _ _ ?_))
    have := h ds (fun e a W => match e with
        | .normal => a.defers = ds ∧ Keep w W ∧ Q .normal a.tmps W
        | .panic c => a.defers = ds ∧ Keep w W ∧ Pn c a.tmps W
        | _ => False) (fun t W hk hq => ⟨rfl, hk, hq⟩) (fun c t W hk hq => ⟨rfl, hk, hq⟩)
    have h2 := tree_any (S := S) (P := P) hns hneeds (fun i t x hx c a v W hq => ⟨put_defers hq.1, hq.2.1, hput i t x hx c a v W hq.2.2⟩) T 0 (Array.replicate ops.size false) _ _ ⟨by simp, fun j => by rw [Nat.zero_testBit, Array.getD_eq_getD_getElem?, Array.getElem?_replicate]; split <;> rfl⟩ hchk heven this
    rw [hlen] at h2
    exact h2
  · rintro e a W hq
    cases e with
    | normal => exact ⟨hq.2.1, ⟨[], hq.1, trivial⟩, hq.2.2⟩
    | panic c => exact ⟨hq.2.1, ⟨[], hq.1, trivial⟩, hPn _ _ _ hq.2.2⟩
    | exit id => exact hq.elim
    | goto l => exact hq.elim
    | ret => exact hq.elim
    | outgrown => exact hq.elim
end
section
variable {P : Program} {ops : Array Oper} {Q : Exit → Act → World → Prop} {S : World → Prop} {K : Act → World → Prop} {a : Act} {w : World} {i : Nat}
theorem tr_take (x : It) (v : Value) (hx : itemOf ops i true = some x) (ht : x.take = true) (hg : gdOk x.gd a.tmps true) (hv : ∀ w, S w → (execOp a.eval (mkO x)).run P w = .ok (.value v) w) (hS : S w) (h : K (a.put x.dst v) w) : stepN P ops S Q i true K a w :=
  ⟨x, hx, .inr ⟨hg, by rw [if_pos ht]; exact ⟨v, hv, hS, h⟩⟩⟩
theorem tr_call (x : It) {f : FuncId} {args : Array Value} (hx : itemOf ops i false = some x) (ht : x.take = false) (hg : gdOk x.gd a.tmps true) (he : (execOp a.eval (mkO x)).run P w = .ok (.enter f args) w)
    (hc : Calls P f args w fun e w' => (∃ v, e = .returned v ∧ S w' ∧ K (a.put x.dst v) w') ∨ ∃ c, e = .panicked c ∧ Q (.panic c) a w') : stepN P ops S Q i false K a w :=
  ⟨x, hx, .inr ⟨hg, by rw [if_neg (by simp [ht])]; exact .inl ⟨f, args, he, hc⟩⟩⟩
theorem tr_make (x : It) (v : Value) (w' : World) (hx : itemOf ops i false = some x) (ht : x.take = false) (hg : gdOk x.gd a.tmps true) (he : (execOp a.eval (mkO x)).run P w = .ok (.value v) w') (hS : S w') (h : K (a.put x.dst v) w') : stepN P ops S Q i false K a w :=
  ⟨x, hx, .inr ⟨hg, by rw [if_neg (by simp [ht])]; exact .inr (.inl ⟨v, w', he, hS, h⟩)⟩⟩
theorem tr_store (x : It) (w' : World) (hx : itemOf ops i false = some x) (ht : x.take = false) (hg : gdOk x.gd a.tmps true) (he : (execOp a.eval (mkO x)).run P w = .ok .skip w') (hS : S w') (h : K (a.put x.dst undef) w') : stepN P ops S Q i false K a w :=
  ⟨x, hx, .inr ⟨hg, by rw [if_neg (by simp [ht])]; exact .inr (.inr ⟨w', he, hS, h⟩)⟩⟩
end
end Go.TL
end

section
namespace Go.TL
open Go Go.RowKit
def tailOk2 (md : Region.Mode) (pre tail : Array Oper) : Bool :=
  (tail.all fun o => (o.after.any fun e => Region.binds md e && decide (pre.size ≤ e.on)) || (List.range pre.size).all fun j => (o.after.any fun e => Region.binds md e && e.on == j) || (List.range pre.size).any fun j' => decide (j < j') && match pre[j']? with | some p => p.after.any fun e => Region.binds md e && e.on == j | none => false) &&
  ((List.range pre.size).all fun j => match pre[j]? with
    | some o => (o.after.all fun e => !Region.binds md e || decide (e.on < j)) && (match o.guard with | some (g, _) => decide (g < pre.size) | none => true)
    | none => true)
section
variable {P : Program} {md : Region.Mode} {pre tail : Array Oper} {Q : Exit → Act → World → Prop}
theorem tail2_tail (h : tailOk2 md pre tail = true) {o : Oper} {i : Nat} (ho : tail[i]? = some o) {j : Nat} (hj : j < pre.size) : (∃ e ∈ o.after, Region.binds md e = true ∧ pre.size ≤ e.on) ∨ (∃ e ∈ o.after, Region.binds md e = true ∧ e.on = j) ∨ ∃ j' p, j < j' ∧ pre[j']? = some p ∧ ∃ e ∈ p.after, Region.binds md e = true ∧ e.on = j := by
  obtain ⟨hi, rfl⟩ := Array.getElem?_eq_some_iff.1 ho
  have h1 := (Bool.and_eq_true _ _ ▸ h : _ ∧ _).1
  have h2 := Array.all_eq_true.1 h1 i hi
  rcases Bool.or_eq_true_iff.1 h2 with h2 | h2
  · left
    obtain ⟨e, he, hb⟩ := Array.any_eq_true'.1 h2
    simp only [Bool.and_eq_true, decide_eq_true_eq] at hb
    exact ⟨e, he, hb.1, hb.2⟩
  right
  have h3 := List.all_eq_true.1 h2 j (List.mem_range.2 hj)
  rcases Bool.or_eq_true_iff.1 h3 with h3 | h3
  · left
    obtain ⟨e, he, hb⟩ := Array.any_eq_true'.1 h3
    simp only [Bool.and_eq_true, beq_iff_eq] at hb
    exact ⟨e, he, hb.1, hb.2⟩
  · right
    obtain ⟨j', hj', h4⟩ := List.any_eq_true.1 h3
    rw [Bool.and_eq_true, decide_eq_true_eq] at h4
    cases hp : pre[j']? with
    | none => rw [hp] at h4; exact absurd h4.2 (by simp)
    | some p =>
      rw [hp] at h4
      obtain ⟨e, he, hb⟩ := Array.any_eq_true'.1 h4.2
      simp only [Bool.and_eq_true, beq_iff_eq] at hb
      exact ⟨j', p, h4.1, hp, e, he, hb.1, hb.2⟩
theorem tail2_pre (h : tailOk2 md pre tail = true) {o : Oper} {j : Nat} (ho : pre[j]? = some o) : (∀ e ∈ o.after, Region.binds md e = true → e.on < j) ∧ ∀ g b, o.guard = some (g, b) → g < pre.size := by
  have hj := (Array.getElem?_eq_some_iff.1 ho).1
  have h1 := (Bool.and_eq_true _ _ ▸ h : _ ∧ _).2
  have h2 := List.all_eq_true.1 h1 j (List.mem_range.2 hj)
  simp only [ho, Bool.and_eq_true] at h2
  refine ⟨fun e he hb => ?_, fun g b hg => ?_⟩
  · have := (Array.all_eq_true_iff_forall_mem.1 h2.1) e he
    simp only [Bool.or_eq_true, Bool.not_eq_true', hb, decide_eq_true_eq] at this
    rcases this with h | h
    · cases h
    · exact h
  · have := h2.2
    rw [hg] at this
    simpa using this
theorem ready_some2 (h : tailOk2 md pre tail = true) {listed : Array Bool} (hs : listed.size = pre.size) (hl : left listed ≠ 0) : Region.ready md pre listed ≠ [] := by
  obtain ⟨j, hj, hmin⟩ := least (left_pos hl)
  intro e
  have hlt : j < listed.size := by
    rcases Nat.lt_or_ge j listed.size with h | h
    · exact h
    · simp [Array.getElem?_eq_none h] at hj
  have : j ∈ Region.ready md pre listed := by
    refine mem_ready.2 ⟨hj, pre[j]'(hs ▸ hlt), Array.getElem?_eq_getElem _, fun e he hb => ?_⟩
    have := (tail2_pre h (Array.getElem?_eq_getElem (hs ▸ hlt))).1 e he hb
    have h2 : ¬ listed.getD e.on true = false := fun h => by have := hmin _ h; omega
    have h3 : e.on < listed.size := by omega
    simp [h3] at h2 ⊢
    exact h2
  rw [e] at this
  cases this
def Down (md : Region.Mode) (pre : Array Oper) (listed : Array Bool) : Prop := ∀ i o, pre[i]? = some o → listed.getD i true = true → i < listed.size → ∀ e ∈ o.after, Region.binds md e = true → listed.getD e.on true = true
theorem last_left : ∀ (n : Nat) {listed : Array Bool}, listed.size = n → left listed ≠ 0 → ∃ j, j < listed.size ∧ listed.getD j true = false ∧ ∀ i, j < i → i < listed.size → listed.getD i true = true := by
  intro n listed hs hl
  obtain ⟨j, hj⟩ := left_pos hl
  have hlt : j < listed.size := by
    rcases Nat.lt_or_ge j listed.size with h | h
    · exact h
    · simp [Array.getElem?_eq_none h] at hj
  have : ∀ d j, listed.size - j = d → j < listed.size → listed.getD j true = false → ∃ j, j < listed.size ∧ listed.getD j true = false ∧ ∀ i, j < i → i < listed.size → listed.getD i true = true := by
    intro d
    induction d using Nat.strongRecOn with
    | _ d ih =>
      intro j hd hlt hj
      by_cases hx : ∃ i, j < i ∧ i < listed.size ∧ listed.getD i true = false
      · obtain ⟨i, h1, h2, h3⟩ := hx
        exact ih (listed.size - i) (by omega) i rfl h2 h3
      · refine ⟨j, hlt, hj, fun i h1 h2 => ?_⟩
        cases e : listed.getD i true with
        | true => rfl
        | false => exact absurd ⟨i, h1, h2, e⟩ hx
  exact this _ j rfl hlt hj
theorem ready_pre2 (h : tailOk2 md pre tail = true) {listed : Array Bool} (hs : listed.size = pre.size) (hl : left listed ≠ 0) (hd : Down md pre listed) {j : Nat} :
    j ∈ Region.ready md (pre ++ tail) (listed ++ Array.replicate tail.size false) → j ∈ Region.ready md pre listed := by
  intro hj
  obtain ⟨h1, o, ho, h2⟩ := mem_ready.1 hj
  by_cases hlt : j < pre.size
  · rw [Array.getElem?_append_left hlt] at ho
    rw [getD_app _ (by omega)] at h1
    refine mem_ready.2 ⟨h1, o, ho, fun e he hb => ?_⟩
    have := h2 e he hb
    have hlt2 := (tail2_pre h ho).1 e he hb
    rwa [getD_app _ (by omega)] at this
  · exfalso
    rw [Array.getElem?_append_right (by omega)] at ho
    obtain ⟨j0, hj1, hj0, hlast⟩ := last_left _ rfl hl
    rcases tail2_tail h ho (hs ▸ hj1) with ⟨e, he, hb, hle⟩ | ⟨e, he, hb, rfl⟩ | ⟨j', p, hjj, hp, e, he, hb, rfl⟩
    · have := h2 e he hb
      rw [getD_app2 (by omega)] at this
      cases this
    · have := h2 e he hb
      rw [getD_app _ hj1] at this
      simp [hj1] at hj0 this
      rw [hj0] at this
      cases this
    · have hj' : j' < listed.size := by rw [hs]; exact (Array.getElem?_eq_some_iff.1 hp).1
      have := hd j' p hp (hlast j' hjj hj') hj' e he hb
      rw [hj0] at this
      cases this
theorem wpOp_app2 (h : tailOk2 md pre tail = true) {i : Nat} (hi : i < pre.size) {K K' : Act → World → Prop} {a : Act} {w : World} (hK : ∀ a w, K a w → K' a w)
    (hw : wpOp P pre (behind P md pre tail Q) i K a w) : wpOp P (pre ++ tail) Q i K' a w := by
  have ho : pre[i]? = some pre[i] := Array.getElem?_eq_getElem hi
  have ho' : (pre ++ tail)[i]? = some pre[i] := by rw [Array.getElem?_append_left hi]; exact ho
  have hpre := fun g b => (tail2_pre h ho).2 g b
  unfold wpOp at *
  simp only [ho, ho'] at hw ⊢
  have hy : Region.wanted pre[i] (yielded (pre ++ tail) a.tmps) = Region.wanted pre[i] (yielded pre a.tmps) := by
    unfold Region.wanted
    cases hg : (pre[i]).guard with
    | none => rfl
    | some gb =>
      obtain ⟨g, b⟩ := gb
      have hlt := hpre g b hg
      simp only [yielded, Array.getElem?_append_left hlt]
  rw [hy]
  split
  · rename_i hc
    rw [if_pos hc] at hw
    rcases hw with hw | ⟨_, a', w', hq⟩
    · left
      unfold Oper.wp at *
      generalize (execOp a.eval pre[i]).run P w = r at *
      cases r with
      | ok n w' =>
        cases n <;> simp only [Oper.upon] at hw ⊢ <;>
          first
            | exact hK _ _ hw
            | exact Calls.mono hw (fun e w'' he => by cases e <;> first | exact hK _ _ he | exact he | (obtain ⟨_, _, hq⟩ := he; exact hq.elim))
            | exact Rows.mono hw (fun _ _ he => hK _ _ he)
      | halt x w' => cases x <;> simp only [Oper.upon] at hw ⊢ <;> exact hw
    · exact hq.elim
  · rename_i hc
    rw [if_neg hc] at hw
    exact hK _ _ hw
theorem down_set {listed : Array Bool} (hd : Down md pre listed) {i : Nat} {o : Oper} (h1 : listed.getD i true = false) (ho : pre[i]? = some o) (h2 : ∀ e ∈ o.after, Region.binds md e = true → listed.getD e.on false = true) : Down md pre (listed.setIfInBounds i true) := by
  have up : ∀ k, listed.getD k true = true → (listed.setIfInBounds i true).getD k true = true := by
    intro k hk
    rw [Array.getD_eq_getD_getElem?] at hk ⊢
    rw [Array.getElem?_setIfInBounds]
    split
    · split <;> rfl
    · exact hk
  have up2 : ∀ k, listed.getD k false = true → listed.getD k true = true := by
    intro k hk
    rw [Array.getD_eq_getD_getElem?] at hk ⊢
    cases h : listed[k]? with
    | none => rfl
    | some b => rw [h] at hk; simpa using hk
  intro k p hp hk hlt e he hb
  by_cases ek : k = i
  · subst ek
    rw [ho] at hp
    cases hp
    exact up _ (up2 _ (h2 e he hb))
  · refine up _ (hd k p hp ?_ (by simpa using hlt) e he hb)
    rw [Array.getD_eq_getD_getElem?, Array.getElem?_setIfInBounds, if_neg (Ne.symm ek), ← Array.getD_eq_getD_getElem?] at hk
    exact hk
theorem wpAny_tail2 (h : tailOk2 md pre tail = true) : ∀ (fuel : Nat) (listed : Array Bool) (a : Act) (w : World), listed.size = pre.size → left listed = fuel → Down md pre listed →
    wpAny P md pre (behind P md pre tail Q) fuel listed a w → wpAny P md (pre ++ tail) Q (fuel + tail.size) (listed ++ Array.replicate tail.size false) a w
  | 0, listed, a, w, hs, hf, hd, hw => by
    have e := left_zero hf
    rw [hs] at e
    rw [e, Nat.zero_add]
    exact hw.2
  | fuel + 1, listed, a, w, hs, hf, hd, hw => by
    have hne : left listed ≠ 0 := by omega
    rw [show fuel + 1 + tail.size = (fuel + tail.size) + 1 by omega]
    refine ⟨fun e => ?_, fun i hi => ?_⟩
    · exfalso
      obtain ⟨j, hj⟩ := List.exists_mem_of_ne_nil _ (ready_some2 h hs hne)
      have : j ∈ Region.ready md (pre ++ tail) (listed ++ Array.replicate tail.size false) := by
        obtain ⟨h1, o, ho, h2⟩ := mem_ready.1 hj
        have hlt := (Array.getElem?_eq_some_iff.1 ho).1
        refine mem_ready.2 ⟨by rw [getD_app _ (by omega)]; exact h1, o, by rw [Array.getElem?_append_left hlt]; exact ho, fun e he hb => ?_⟩
        have := (tail2_pre h ho).1 e he hb
        rw [getD_app _ (by omega)]
        exact h2 e he hb
      rw [e] at this
      cases this
    · have hr := ready_pre2 h hs hne hd hi
      obtain ⟨h1, o, ho, h2⟩ := mem_ready.1 hr
      have hlt := (Array.getElem?_eq_some_iff.1 ho).1
      rw [set_app (by omega)]
      exact wpOp_app2 h hlt (fun a' w' hK => wpAny_tail2 h fuel _ a' w' (by simp [hs]) (by have := left_set h1; omega) (down_set hd h1 ho h2) hK) (hw.2 i hr)
end
section
variable {P : Program} {r : Option Nat} {Q : Exit → Array Value → World → Prop} {t : Array Value} {w : World}
theorem rel_half (n k : Nat) : Rel (n + k) (2 ^ n - 1) (Array.replicate n true ++ Array.replicate k false) := by
  refine ⟨by simp, fun j => ?_⟩
  rw [Nat.testBit_two_pow_sub_one, Array.getD_eq_getD_getElem?]
  by_cases h : j < n
  · rw [Array.getElem?_append_left (by simpa using h)]
    simp [h]
  · rw [Array.getElem?_append_right (by simpa using h)]
    by_cases h2 : j - n < k
    · simp [h, h2]
    · simp [h, Array.getElem?_eq_none (show (Array.replicate k false).size ≤ j - n by simp; omega)]
theorem region_tree2 {c : Code} {id : Nat} (n k : Nat) (T1 T2 : Sch) (pre ops : Array Oper) (hops : regOps c = ops) (hpre : ((regOps c).toList.take n).toArray = pre) (hc : c = .region id (regOps c) true) (hm : P.follows .mixedOrders = true)
    (hnd : (regOps c).all (fun o => !isDefer o.op) = true) (hns : Region.noSelect (regOps c) = true) (hns1 : Region.noSelect ((regOps c).toList.take n).toArray = true) (hok : tailOk2 .any ((regOps c).toList.take n).toArray ((regOps c).toList.drop n).toArray = true)
    (hlen1 : lenT T1 = n) (hlen2 : lenT T2 = k) (hsz : ((regOps c).toList.take n).toArray.size = n) (hsz2 : ((regOps c).toList.drop n).toArray.size = k) (heven1 : evenT T1 = true) (heven2 : evenT T2 = true)
    (needs1 needs : List Nat) (hneeds1 : needsOf .any ((regOps c).toList.take n).toArray = needs1) (hneeds : needsOf .any (regOps c) = needs) (hchk1 : okT .any ((regOps c).toList.take n).toArray needs1 T1 0 (Array.replicate n false) = true) (hchk2 : okT .any (regOps c) needs T2 (2 ^ n - 1) (Array.replicate n true ++ Array.replicate k false) = true)
    (S : World → Prop)
    (h : ∀ ds (Q' Qh : Exit → Act → World → Prop), (∀ t W, Keep w W → Q .normal t W → Q' .normal { tmps := t, defers := ds } W) → (∀ a W, seqT P ops (fun _ => True) Q' T2 a W → Qh .normal a W) →
      seqT P pre S Qh T1 { tmps := t, defers := ds } w.drew) : Exec P r c t w Q := by
  intro hc' ds
  subst hops
  subst hpre
  generalize hops : regOps c = ops at *
  rw [hc]
  refine wpIn_mono (Q := fun e a W => match e with
        | .normal => a.defers = ds ∧ Keep w W ∧ Q .normal a.tmps W
        | _ => False) ?_ ?_
  · refine wpIn_region_draw fun tt => ?_
    simp only [Region.schedule, hm, Bool.true_or, if_true]
    have e : (ops.toList.take n).toArray ++ (ops.toList.drop n).toArray = ops := by
      apply Array.ext'
      simp
    have hs : ops.size = n + k := by rw [← e, Array.size_append, hsz, hsz2]
    have h0 := h ds (fun e a W => match e with
        | .normal => a.defers = ds ∧ Keep w W ∧ Q .normal a.tmps W
        | _ => False) (behind P .any (ops.toList.take n).toArray (ops.toList.drop n).toArray (fun e a W => match e with
        | .normal => a.defers = ds ∧ Keep w W ∧ Q .normal a.tmps W
        | _ => False)) (fun t W hk hq => ⟨rfl, hk, hq⟩) (fun a W hq => by
      have h3 := tree_any (S := fun _ => True) (P := P) hns hneeds (fun i t x hx c a v W hq => hq.elim) T2 (2 ^ n - 1) (Array.replicate n true ++ Array.replicate k false) a W (hs ▸ rel_half n k) hchk2 heven2 hq
      rw [hlen2] at h3
      have h4 := wpAny_of_held _ _ _ _ h3
      show wpAny P .any ((ops.toList.take n).toArray ++ (ops.toList.drop n).toArray) _ (ops.toList.drop n).toArray.size (Array.replicate (ops.toList.take n).toArray.size true ++ Array.replicate (ops.toList.drop n).toArray.size false) a W
      rw [hsz, hsz2, e]
      exact h4)
    have h2 := tree_any (S := S) (P := P) hns1 hneeds1 (fun i t x hx c a v W hq => hq.elim) T1 0 (Array.replicate n false) _ _ ⟨by simp [hsz], fun j => by rw [Nat.zero_testBit, Array.getD_eq_getD_getElem?, Array.getElem?_replicate]; split <;> rfl⟩ hchk1 heven1 h0
    rw [hlen1] at h2
    have h1 := wpAny_tail2 hok n (Array.replicate n false) _ _ (by simp [hsz]) (by simp [left]) (fun i o hp hk hlt => absurd hk (by simp at hlt ⊢; simp [hlt])) (wpAny_of_held _ _ _ _ h2)
    have e2 : Array.replicate n false ++ Array.replicate (ops.toList.drop n).toArray.size false = Array.replicate ops.size false := by
      rw [hsz2, hs, Array.replicate_append_replicate]
    rw [e, e2, hsz2, ← hs] at h1
    exact ops_in hnd (fun a W hq => hq) _ _ _ (wpAny_sound ops.size tt _ _ _ h1)
  · rintro e a W hq
    cases e with
    | normal => exact ⟨hq.2.1, ⟨[], hq.1, trivial⟩, hq.2.2⟩
    | panic c => exact hq.elim
    | exit id => exact hq.elim
    | goto l => exact hq.elim
    | ret => exact hq.elim
    | outgrown => exact hq.elim
end
end Go.TL
end

section
namespace Go.TL
open Go Go.RowKit
section
variable {P : Program} {md : Region.Mode} {ops : Array Oper} {Q : Exit → Act → World → Prop} {S : World → Prop} {i : Nat} {o : Oper} {fuel : Nat} {listed : Array Bool} {a : Act} {w : World}
end
end Go.TL
end

section
namespace Go.Proofs.Ytafmgmaelnpehaa.Tp
open Go.RowKit Go.TL Go.Shelf
attribute [local go_sem] Oper.semAt_some
theorem run_store_func (P : Program) (w : World) (a : Addr) (f : Fn) (r c : Array Value) (m : Mode) : (store a (.func f r c) m).run P w = stored P w a (.func f r c) m := run_store P w a _ m rfl
theorem heap_lt {X : World} {k : Nat} {o : Obj} (h : X.heap[k]? = some o) : k < X.heap.size := (Array.getElem?_eq_some_iff.1 h).1
theorem box_set (W : World) (b i : Nat) (cs : List Value) (t : TypeId) (v : Value) (h : W.heap[b]? = some (.cells cs.toArray t (0, 0))) : (W.setCell ⟨b, i, none⟩ v).heap[b]? = some (.cells (cs.set i v).toArray t (0, 0)) := by
  rw [heap_set_at, if_pos rfl, h]
  simp [updObj]
theorem box_far (W : World) (b i k : Nat) (v : Value) (o : Obj) (h : W.heap[k]? = some o) (hne : k ≠ b) : (W.setCell ⟨b, i, none⟩ v).heap[k]? = some o := (Below.heap_setCell W ⟨b, i, none⟩ v k hne).trans h
theorem heap_next {X : World} {k : Nat} {o : Obj} (h : X.heap[k]? = some o) (o' : Obj) : (X.alloc o').heap[k]? = some o := (((Below.refl X.heap.size X).alloc (Nat.le_refl _) o').block _ (Array.getElem?_eq_some_iff.1 h).1).trans h
theorem cells_get {W : World} {b t k : Nat} {cs : List Value} {v : Value} (h : W.heap[b]? = some (.cells cs.toArray t (0, 0))) (hv : cs[k]? = some v) : W.cell? ⟨b, k, none⟩ = some v := by
  unfold World.cell?
  rw [h]
  simpa using hv
def RowV (W : World) (A : Option Addr) (vs : List Value) : Prop := ∀ (i : Nat) (v : Value), vs[i]? = some v → ∃ a, A = some a ∧ W.cell? (a.add i) = some v
theorem RowV.grow {W W' : World} {n : Nat} {A : Option Addr} {vs : List Value} (h : RowV W A vs) (hG : Grow n W W') : RowV W' A vs := fun i v hv => by
  obtain ⟨a, e, hc⟩ := h i v hv
  exact ⟨a, e, hG.cell hc⟩
theorem frozen_cells {W : World} {b o : Nat} {cs : Array Value} {t : TypeId} (h : W.heap[b]? = some (.cells cs t (0, 0))) : W.frozen? ⟨b, o, none⟩ = false := by simp [World.frozen?, h]
theorem le_of_sub {α : Type} [DecidableEq α] : ∀ {A B : List α}, A.Nodup → (∀ x ∈ A, x ∈ B) → A.length ≤ B.length
  | [], _, _, _ => Nat.zero_le _
  | x :: A, B, hn, h => by
    have hx := h x (List.mem_cons_self ..)
    have h2 := le_of_sub (A := A) (B := B.erase x) (List.nodup_cons.1 hn).2 fun y hy => by
      have hne : y ≠ x := fun e => (List.nodup_cons.1 hn).1 (e ▸ hy)
      exact (List.mem_erase_of_ne hne).2 (h y (List.mem_cons_of_mem _ hy))
    rw [List.length_erase_of_mem hx] at h2
    have := List.length_pos_of_mem hx
    simp only [List.length_cons]
    omega
theorem grown_set (w : World) (f k : Nat) (v : Value) : w.grownBy (w.setCell ⟨f, k, none⟩ v) (some f) := ⟨rfl, rfl, rfl, by rw [World.size_setCell]; exact Nat.le_refl _, fun j hj hne => Below.heap_setCell w _ v j (fun e => hne (congrArg some e))⟩
theorem RowV.nil (W : World) (A : Option Addr) : RowV W A [] := fun i v hv => by simp at hv
theorem row_of_own {W : World} {base e n : Nat} {v : Value} {vs : List Value} (h : W.ownsRow base e 1 v n vs) : ∃ A c, v = .slice A n c ∧ RowV W A vs := by
  rcases h.2 with ⟨e, hz⟩ | ⟨g, cap, cur, e, _, hg, _, _, _, ht⟩
  · subst e
    subst hz
    have : vs = [] := List.eq_nil_of_length_eq_zero (by rw [h.1])
    subst this
    exact ⟨none, 0, rfl, RowV.nil _ _⟩
  · subst e
    refine ⟨_, _, rfl, fun i v hv => ⟨_, rfl, ?_⟩⟩
    have hi : i < vs.length := (List.getElem?_eq_some_iff.1 hv).1
    rw [show (⟨g, 0, none⟩ : Addr).add i = ⟨g, i, none⟩ from by (simp [Addr.add]; exact fun h => h.symm), h.cellAt i (by rw [h.1] at hi; exact hi)]
    exact hv
theorem own_other {w : World} {base size n b o : Nat} {e : TypeId} {v x : Value} {xs : List Value} (h : w.ownsRow base e size v n xs) (hb : b < base) : (w.setCell ⟨b, o, none⟩ x).ownsRow base e size v n xs := by
  refine ⟨h.1, ?_⟩
  rcases h.2 with hn | ⟨g, cap, cur, e1, hg, hh, r⟩
  · exact .inl hn
  · exact .inr ⟨g, cap, cur, e1, hg, box_far w b o g x _ hh (by omega), r⟩
theorem own_grow {w w' : World} {B base size n : Nat} {e : TypeId} {v : Value} {xs : List Value} (h : w.ownsRow base e size v n xs) (hg : Grow B w w') : w'.ownsRow base e size v n xs := by
  refine ⟨h.1, ?_⟩
  rcases h.2 with hn | ⟨g, cap, cur, rfl, hb, hh, r⟩
  · exact .inl hn
  · exact .inr ⟨g, cap, cur, rfl, hb, hg.same _ _ hh (.inr rfl), r⟩
structure Tr (W V X : World) (l : List (Nat × Obj)) : Prop where
  below : Below W.heap.size W X
  keep : Keep V X
  ge : ∀ p ∈ l, W.heap.size ≤ p.1
  at_ : ∀ p ∈ l, X.heap[p.1]? = some p.2
  nd : (l.map (·.1)).Nodup
section
variable {W V X Y : World} {l : List (Nat × Obj)}
theorem Tr.start (hb : Below W.heap.size W V) : Tr W V V [] := ⟨hb, Keep.refl _, fun _ h => (by cases h), fun _ h => (by cases h), List.nodup_nil⟩
theorem Tr.again (h : Tr W V X l) : Tr W X X l := ⟨h.below, Keep.refl _, h.ge, h.at_, h.nd⟩
theorem Tr.get (h : Tr W V X l) (i : Nat) {k : Nat} {o : Obj} (hi : l[i]? = some (k, o)) : X.heap[k]? = some o := h.at_ _ (List.mem_of_getElem? hi)
theorem Tr.lt (h : Tr W V X l) : ∀ p ∈ l, p.1 < X.heap.size := fun p hp => heap_lt (h.at_ p hp)
theorem Tr.push (h : Tr W V X l) {k : Nat} {o : Obj} (hk : X.heap[k]? = some o) (hge : W.heap.size ≤ k) (hn : ∀ p ∈ l, p.1 ≠ k) : Tr W V X ((k, o) :: l) := by
  refine ⟨h.below, h.keep, fun p hp => ?_, fun p hp => ?_, ?_⟩
  · rcases List.mem_cons.1 hp with rfl | hp
    · exact hge
    · exact h.ge p hp
  · rcases List.mem_cons.1 hp with rfl | hp
    · exact hk
    · exact h.at_ p hp
  · rw [List.map_cons, List.nodup_cons]
    refine ⟨fun hm => ?_, h.nd⟩
    obtain ⟨p, hp, e⟩ := List.mem_map.1 hm
    exact hn p hp e
theorem Tr.step (h : Tr W V X l) (hb : Below X.heap.size X Y) : Tr W V Y l :=
  ⟨h.below.trans (hb.mono h.below.size), h.keep.trans (Keep.of_below hb), h.ge, fun p hp => (hb.block _ (h.lt p hp)).trans (h.at_ p hp), h.nd⟩
theorem Tr.drew (h : Tr W V X l) : Tr W V X.drew l := h.step (Below.refl _ X).drew
theorem Tr.alloc (h : Tr W V X l) (o : Obj) : Tr W V (X.alloc o) ((X.heap.size, o) :: l) :=
  (h.step ((Below.refl X.heap.size X).alloc (Nat.le_refl _) o)).push (World.alloc_heap_new X o) h.below.size fun p hp => by have := h.lt p hp; omega
theorem Tr.drop (h : Tr W V X l) {m : List (Nat × Obj)} (hs : m.Sublist l) : Tr W V X m :=
  ⟨h.below, h.keep, fun p hp => h.ge p (hs.subset hp), fun p hp => h.at_ p (hs.subset hp), h.nd.sublist (hs.map _)⟩
theorem nodup_get : ∀ {l : List (Nat × Obj)} {i j k : Nat} {o o' : Obj}, (l.map (·.1)).Nodup → l[i]? = some (k, o) → l[j]? = some (k, o') → i = j
  | [], i, j, _, _, _, _, h, _ => by simp at h
  | p :: l, 0, 0, _, _, _, _, _, _ => rfl
  | p :: l, 0, j + 1, k, o, o', hn, h1, h2 => by
    rw [List.map_cons, List.nodup_cons] at hn
    have e : p = (k, o) := by simpa using h1
    subst e
    exact absurd (List.mem_map.2 ⟨(k, o'), List.mem_of_getElem? (by simpa using h2), rfl⟩) hn.1
  | p :: l, i + 1, 0, k, o, o', hn, h1, h2 => by
    rw [List.map_cons, List.nodup_cons] at hn
    have e : p = (k, o') := by simpa using h2
    subst e
    exact absurd (List.mem_map.2 ⟨(k, o), List.mem_of_getElem? (by simpa using h1), rfl⟩) hn.1
  | p :: l, i + 1, j + 1, k, o, o', hn, h1, h2 => by
    rw [List.map_cons, List.nodup_cons] at hn
    rw [nodup_get (l := l) (i := i) (j := j) hn.2 (by simpa using h1) (by simpa using h2)]
theorem nodup_set : ∀ {m : List Nat} {i k' : Nat}, m.Nodup → k' ∉ m → (m.set i k').Nodup
  | [], _, _, hd, _ => hd
  | a :: m, 0, k', hd, hno => by
    rw [List.nodup_cons] at hd
    rw [List.set_cons_zero, List.nodup_cons]
    exact ⟨fun c => hno (List.mem_cons_of_mem _ c), hd.2⟩
  | a :: m, i + 1, k', hd, hno => by
    rw [List.nodup_cons] at hd
    rw [List.set_cons_succ, List.nodup_cons]
    refine ⟨fun c => ?_, nodup_set hd.2 (fun c => hno (List.mem_cons_of_mem _ c))⟩
    rcases List.mem_or_eq_of_mem_set c with c | c
    · exact hd.1 c
    · exact hno (c ▸ List.mem_cons_self ..)
theorem Tr.put (h : Tr W V X l) (hb : Below W.heap.size W Y) (hk : Keep V Y) {i k k' : Nat} {o o' : Obj} (hi : l[i]? = some (k, o)) (hge : W.heap.size ≤ k') (hn : k' = k ∨ ∀ p ∈ l, p.1 ≠ k') (hsame : ∀ p ∈ l, p.1 ≠ k → Y.heap[p.1]? = some p.2) (hnew : Y.heap[k']? = some o') : Tr W V Y (l.set i (k', o')) := by
  have hil := (List.getElem?_eq_some_iff.1 hi).1
  have hmem : ∀ p ∈ l.set i (k', o'), p = (k', o') ∨ p ∈ l ∧ p.1 ≠ k := fun p hp => by
    obtain ⟨j, hj, e⟩ := List.getElem_of_mem hp
    have e' : (l.set i (k', o'))[j]? = some p := by rw [List.getElem?_eq_getElem hj, e]
    rw [List.getElem?_set] at e'
    split at e'
    · first | rw [if_pos hil] at e' | skip
      exact .inl (Option.some.inj e').symm
    · rename_i hne
      refine .inr ⟨List.mem_of_getElem? e', fun c => hne ?_⟩
      obtain ⟨a, b⟩ := p
      simp only at c
      subst c
      exact nodup_get h.nd hi e'
  refine ⟨hb, hk, fun p hp => ?_, fun p hp => ?_, ?_⟩
  · rcases hmem p hp with rfl | ⟨hp, _⟩
    · exact hge
    · exact h.ge p hp
  · rcases hmem p hp with rfl | ⟨hp, hne⟩
    · exact hnew
    · exact hsame p hp hne
  · rw [List.map_set]
    rcases hn with rfl | hn
    · have : (l.map (·.1)).set i k' = l.map (·.1) := by
        refine List.ext_getElem? fun j => ?_
        rw [List.getElem?_set]
        split
        · rename_i e
          subst e
          rw [if_pos (by rw [List.length_map]; exact hil), List.getElem?_map, hi]
          rfl
        · rfl
      show ((l.map (·.1)).set i k').Nodup
      rw [this]
      exact h.nd
    · show ((l.map (·.1)).set i k').Nodup
      have hno : k' ∉ l.map (·.1) := fun hm => by
        obtain ⟨p, hp, e⟩ := List.mem_map.1 hm
        exact hn p hp e
      have hd := h.nd
      exact nodup_set hd hno
theorem Tr.set (h : Tr W V X l) (i : Nat) {k : Nat} {cs : List Value} {t : TypeId} (hi : l[i]? = some (k, .cells cs.toArray t (0, 0))) (j : Nat) (v : Value) : Tr W V (X.setCell ⟨k, j, none⟩ v) (l.set i (k, .cells (cs.set j v).toArray t (0, 0))) := by
  have hk := h.at_ _ (List.mem_of_getElem? hi)
  have hge := h.ge _ (List.mem_of_getElem? hi)
  exact h.put (h.below.setCell hge v) (h.keep.setCell _ v) hi hge (.inl rfl) (fun p hp hne => (Below.heap_setCell X ⟨k, j, none⟩ v p.1 hne).trans (h.at_ p hp)) (box_set X k j cs t v hk)
theorem Tr.cell (h : Tr W V X l) (i : Nat) {k : Nat} {cs : List Value} {t : TypeId} (hi : l[i]? = some (k, .cells cs.toArray t (0, 0))) {j : Nat} {v : Value} (hv : cs[j]? = some v) : X.cell? ⟨k, j, none⟩ = some v := cells_get (h.get i hi) hv
theorem Tr.fz (h : Tr W V X l) (i : Nat) {k : Nat} {cs : List Value} {t : TypeId} (hi : l[i]? = some (k, .cells cs.toArray t (0, 0))) (o : Nat) : X.frozen? ⟨k, o, none⟩ = false := frozen_cells (h.get i hi)
end
theorem nodup_of_len : ∀ {A B : List Nat}, A.Nodup → (∀ x ∈ A, x ∈ B) → B.length ≤ A.length → B.Nodup
  | [], B, _, _, hl => by
    have : B = [] := List.eq_nil_of_length_eq_zero (by simpa using hl)
    rw [this]
    exact List.nodup_nil
  | x :: A, B, hn, h, hl => by
    have hx := h x (List.mem_cons_self ..)
    have hp := List.length_pos_of_mem hx
    have he : (B.erase x).length = B.length - 1 := List.length_erase_of_mem hx
    rw [List.nodup_cons] at hn
    have hs : ∀ y ∈ A, y ∈ B.erase x := fun y hy => by
      have hne : y ≠ x := fun e => hn.1 (e ▸ hy)
      exact (List.mem_erase_of_ne hne).2 (h y (List.mem_cons_of_mem _ hy))
    have hB := nodup_of_len hn.2 hs (by rw [he]; simp only [List.length_cons] at hl; omega)
    have hno : x ∉ B.erase x := fun c => by
      have h2 := le_of_sub (A := x :: A) (B := B.erase x) (List.nodup_cons.2 hn) fun y hy => by
        rcases List.mem_cons.1 hy with rfl | hy
        · exact c
        · exact hs y hy
      simp only [List.length_cons] at h2 hl
      omega
    exact (List.perm_cons_erase hx).nodup_iff.2 (List.nodup_cons.2 ⟨hno, hB⟩)
theorem Tr.sort {W V X : World} {l m : List (Nat × Obj)} (h : Tr W V X l) (hm : ∀ p ∈ m, p ∈ l) (hl : ∀ p ∈ l, p ∈ m) (he : m.length ≤ l.length) : Tr W V X m :=
  ⟨h.below, h.keep, fun p hp => h.ge p (hm p hp), fun p hp => h.at_ p (hm p hp), nodup_of_len h.nd (fun x hx => by
    obtain ⟨p, hp, rfl⟩ := List.mem_map.1 hx
    exact List.mem_map.2 ⟨p, hl p hp, rfl⟩) (by rw [List.length_map, List.length_map]; exact he)⟩
theorem Tr.pick {W V X : World} {l m : List (Nat × Obj)} (h : Tr W V X l) (is : List Nat) (hm : m.map some = is.map fun i => l[i]?) (hi : ((List.range l.length).all fun i => is.contains i) = true) (he : Nat.ble m.length l.length = true) : Tr W V X m := by
  refine h.sort (fun p hp => ?_) (fun p hp => ?_) (Nat.le_of_ble_eq_true he)
  · have h1 : some p ∈ m.map some := List.mem_map.2 ⟨p, hp, rfl⟩
    rw [hm] at h1
    obtain ⟨i, _, e⟩ := List.mem_map.1 h1
    exact List.mem_of_getElem? e
  · obtain ⟨i, hil, e⟩ := List.getElem_of_mem hp
    have h1 := List.all_eq_true.1 hi i (List.mem_range.2 hil)
    have h2 : i ∈ is := by simpa using h1
    have h3 : some p ∈ is.map fun i => l[i]? := List.mem_map.2 ⟨i, h2, by simp [hil, e]⟩
    rw [← hm] at h3
    obtain ⟨q, hq, e2⟩ := List.mem_map.1 h3
    cases e2
    exact hq
structure Fr (p : List (Option Value)) (ds : List Deferred) (a : Act) : Prop where
  s : Slots p a.tmps
  d : a.defers = ds
theorem fits_get : ∀ {p : List (Option Value)} {l : List Value} {i : Nat} {v : Value}, Fits p l → p[i]? = some (some v) → l[i]? = some v
  | none :: p, u :: l, 0, v, h, hi => by simp at hi
  | some x :: p, u :: l, 0, v, h, hi => by
    have h1 : u = x := h.1
    have h2 : x = v := by simpa using hi
    simp [h1, h2]
  | none :: p, u :: l, i + 1, v, h, hi => by
    have h1 : Fits p l := h
    simpa using fits_get h1 (by simpa using hi)
  | some x :: p, u :: l, i + 1, v, h, hi => by simpa using fits_get h.2 (by simpa using hi)
  | [], _, i, v, _, hi => by simp at hi
theorem fits_set : ∀ {p : List (Option Value)} {l : List Value} (i : Nat) (v : Value), Fits p l → Fits (p.set i (some v)) (l.set i v)
  | none :: p, u :: l, 0, v, h => ⟨rfl, h⟩
  | some x :: p, u :: l, 0, v, h => ⟨rfl, h.2⟩
  | none :: p, u :: l, i + 1, v, h => by
    have h1 : Fits p l := h
    exact fits_set i v h1
  | some x :: p, u :: l, i + 1, v, h => ⟨h.1, fits_set i v h.2⟩
  | [], [], _, _, h => h
  | [], _ :: _, _, _, h => h.elim
theorem fits_none : ∀ {p : List (Option Value)} {l : List Value} (i : Nat), Fits p l → Fits (p.set i none) l
  | none :: p, u :: l, 0, h => h
  | some x :: p, u :: l, 0, h => h.2
  | none :: p, u :: l, i + 1, h => by
    have h1 : Fits p l := h
    exact fits_none i h1
  | some x :: p, u :: l, i + 1, h => ⟨h.1, fits_none i h.2⟩
  | [], [], _, h => h
  | [], _ :: _, _, h => h.elim
section
variable {p : List (Option Value)} {ds : List Deferred} {a : Act}
theorem Fr.ev (h : Fr p ds a) (i : Nat) {v : Value} (hi : p[i]? = some (some v)) : a.eval (.tmp i) = v := by
  have := fits_get h.s hi
  show a.tmps.getD i undef = v
  rw [Array.getD_eq_getD_getElem?, ← Array.getElem?_toList, this]
  rfl
theorem Fr.gd (h : Fr p ds a) {d : Nat} {b q : Bool} (hd : p[d]? = some (some (.bool (if q then b else !b)))) : gdOk (some (d, b)) a.tmps q := by
  show a.tmps[d]? = _
  rw [← Array.getElem?_toList]
  exact fits_get h.s hd
theorem Fr.put (h : Fr p ds a) (d : Nat) (v : Value) : Fr (p.set d (some v)) ds (a.put (some d) v) := by
  refine ⟨?_, h.d⟩
  show Fits _ (a.tmps.setIfInBounds d v).toList
  rw [Array.toList_setIfInBounds]
  exact fits_set d v h.s
theorem Fr.next {P : Program} {ops : Array Oper} {S : World → Prop} {Q : Exit → Act → World → Prop} {T : Sch} {w : World} (h : Fr p ds a) (d : Nat) (v : Value) (k : ∀ a', Fr (p.set d (some v)) ds a' → seqT P ops S Q T a' w) : seqT P ops S Q T (a.put (some d) v) w := k _ (h.put d v)
theorem Fr.forget (is : List Nat) : ∀ {p : List (Option Value)}, Fr p ds a → Fr (is.foldl (fun p i => p.set i none) p) ds a := by
  induction is with
  | nil => exact fun h => h
  | cons i is ih => exact fun h => ih ⟨fits_none i h.s, h.d⟩
theorem Fr.fin (h : Fr p ds a) (is : List Nat) {q : List (Option Value)} (hq : is.foldl (fun p i => p.set i none) p = q) : Slots q a.tmps := hq ▸ (Fr.forget is h).s
theorem Fr.start {t : Array Value} (h : Slots p t) : Fr p ds { tmps := t, defers := ds } := ⟨h, rfl⟩
theorem Fr.out {Q' : Exit → Act → World → Prop} {W : World} {Q : Array Value → World → Prop} {V : World} (h : Fr p ds a) (hQ : ∀ t W, Keep V W → Q t W → Q' .normal { tmps := t, defers := ds } W) (hK : Keep V W) (hq : Q a.tmps W) : Q' .normal a W := by
  have : a = { tmps := a.tmps, defers := ds } := by rw [← h.d]
  rw [this]
  exact hQ _ _ hK hq
end
section
variable {P : Program} {ops : Array Oper} {Q : Exit → Act → World → Prop} {k : Nat} {a : Act} {w : World}
theorem Fr.eq {Q : Exit → Array Value → World → Prop} {p : List (Option Value)} {ds : List Deferred} {W : World} (h : Fr p ds a) (hk : Keep w W) (hq : Q .normal a.tmps W) : EQ w ds Q .normal a W := ⟨hk, ⟨[], h.d, trivial⟩, hq⟩
end
end Go.Proofs.Ytafmgmaelnpehaa.Tp
end

section
namespace Go.Proofs.Ytafmgmaelnpehaa.Tp
open Go.RowKit Go.TL Go.Shelf
attribute [local go_sem] Oper.semAt_some
def SF (n : Nat) (W W' : World) : Prop := ∀ k, n ≤ k → k < W.heap.size → W'.heap[k]? = W.heap[k]?
theorem SF.refl (n : Nat) (W : World) : SF n W W := fun _ _ _ => rfl
theorem SF.trans {n : Nat} {X Y Z : World} (h : SF n X Y) (hs : X.heap.size ≤ Y.heap.size) (k : SF n Y Z) : SF n X Z := fun i hi hx => (k i hi (Nat.lt_of_lt_of_le hx hs)).trans (h i hi hx)
theorem SF.mono {n m : Nat} {X Y : World} (h : SF n X Y) (hm : n ≤ m) : SF m X Y := fun i hi hx => h i (Nat.le_trans hm hi) hx
theorem SF.of_below {n : Nat} {X Y : World} (h : Below X.heap.size X Y) : SF n X Y := fun k _ hk => h.block k hk
theorem sf_putBook {n l : Nat} {W : World} (o : Obj) (hl : l < n) : SF n W (W.putObj l o) := fun k hk _ => World.putObj_heap_other (by omega)
def IterG {α : Type} (P : Program) (gf : Nat) (lb : Array Value) (encs : α → Array Value) (L : List α) (S : Nat → Prop) (w : World) : Prop :=
  ∀ (l : Nat) (J : Nat → World → Prop) (Jx : World → Prop) (W : World), Same S w W → w.heap.size ≤ W.heap.size →
    (∀ k X Y, J k X → Below X.heap.size X Y → J k Y) → (∀ X Y, Jx X → Below X.heap.size X Y → Jx Y) →
    (∀ (k : Nat) (hk : k < L.length) (W1 : World), J k W1 → W.heap.size ≤ W1.heap.size → YieldAt Fence.wide 0 P l (encs (L[k]'hk)) W1 fun e W' =>
      (e = .returned (.bool true) ∧ J (k + 1) W' ∧ Same S W1 W' ∧ SF W.heap.size W1 W' ∧ W1.heap.size ≤ W'.heap.size) ∨ (e = .returned (.bool false) ∧ Jx W')) →
    J 0 W →
    CallsIn Fence.wide 0 P gf (#[.func (.yield l) #[] #[]] ++ lb) W fun e W' => (∃ v, e = .returned v) ∧ (J L.length W' ∨ Jx W')
def bodyEndG (n : Nat) (S : Nat → Prop) (I : World → Prop) (Ix : Code → World → Prop) (W : World) : Exit → Array Value → World → Prop
  | .normal, _, W' => Same S W W' ∧ SF n W W' ∧ I W'
  | .ret, _, W' => Ix .ret W'
  | .exit id, _, W' => Ix (.exit id) W'
  | _, _, _ => False

section range
variable {P : Program}
theorem range_coreG {α : Type} {ps : Array Tmp} {assign body : Code} {t : Array Value} {w W1 : World} {gf : Nat} {lb : Array Value} {encs : α → Array Value} {L : List α} {S : Nat → Prop}
    (hit : IterG P gf lb encs L S w) (hS : ∀ k, S k → k < w.heap.size) (hps : ∀ x, (encs x).size = ps.size)
    (I : Nat → World → Prop) (Ix : Code → World → Prop) (hI : ∀ k, Stab w.heap.size (I k)) (hIx : ∀ c, Stab w.heap.size (Ix c))
    (hround : ∀ (l k : Nat) (hk : k < L.length) (W : World), w.heap.size < W.heap.size → I k W →
      Exec P (some l) assign ((ps.zip (encs (L[k]'hk))).foldl (fun t (p, v) => t.setIfInBounds p v) t) W fun e t' W' => e = .normal ∧ Same S W W' ∧ SF w.heap.size W W' ∧
        ∀ V, Grow w.heap.size W' V → V.heap.size = W'.heap.size → Exec P (some l) body t' V (bodyEndG w.heap.size S (I (k + 1)) Ix V))
    (fn l dd : Nat) (hl : w.heap.size ≤ l) (rec : LoopState → Option Code → Loop) (hrec : ∀ st pe, rec st pe = { state := st, pending := pe, fn, tmps := t, params := ps, assign, body, defers := dd })
    (B : World → Prop) (hB : ∀ X Y, B X → Keep X Y → B Y) (hB2 : ∀ X o, B X → B (X.putObj l o))
    (hk1 : Keep w W1) (hs1 : Same S w W1) (h0 : I 0 W1) (hb1 : B W1) (hl1 : W1.heap[l]? = some (.loop (rec .ready none))) :
    CallsIn Fence.wide 0 P gf (#[.func (.yield l) #[] #[]] ++ lb) W1 fun e W' => (∃ v, e = .returned v) ∧
      ((I L.length W' ∧ Keep w W' ∧ B W' ∧ W'.heap[l]? = some (.loop (rec .ready none))) ∨
       (∃ c, (c = .ret ∨ ∃ id, c = .exit id) ∧ Ix c W' ∧ Keep w W' ∧ B W' ∧ W'.heap[l]? = some (.loop (rec .done (some c))))) := by
  have below_keep : ∀ {X Y : World}, Below X.heap.size X Y → Keep X Y := Keep.of_below
  refine (hit l (fun k W => I k W ∧ Keep w W ∧ B W ∧ W.heap[l]? = some (.loop (rec .ready none)))
    (fun W => ∃ c, (c = .ret ∨ ∃ id, c = .exit id) ∧ Ix c W ∧ Keep w W ∧ B W ∧ W.heap[l]? = some (.loop (rec .done (some c)))) W1 hs1 hk1.size
    (fun k X Y ⟨a, b, c, d⟩ hXY => ⟨hI k X Y a (Grow.of_below hXY), b.trans (below_keep hXY), hB X Y c (below_keep hXY), (below_keep hXY).same _ _ d rfl⟩)
    (fun X Y ⟨cd, hcd, a, b, c, d⟩ hXY => ⟨cd, hcd, hIx cd X Y a (Grow.of_below hXY), b.trans (below_keep hXY), hB X Y c (below_keep hXY), (below_keep hXY).same _ _ d rfl⟩)
    ?_ ⟨h0, hk1, hb1, hl1⟩).mono (fun e W' h => h)
  rintro k hk W ⟨hi, hkW, hbW, hlW⟩ hsW1
  have hlt1 : l < W1.heap.size := (Array.getElem?_eq_some_iff.1 hl1).1
  have hw1 : w.heap.size ≤ W1.heap.size := hk1.size
  have hltW : l < W.heap.size := (Array.getElem?_eq_some_iff.1 hlW).1
  have hy := run_yield (P := P) (args := encs (L[k]'hk)) hlW (by rw [hrec]; exact hps _)
  rw [hrec] at hy
  refine ⟨fn, _, assign, body, hy, roundIn_of_wpIn trivial ?_⟩
  refine wpIn_mono ((hround l k hk W (by omega) hi) (fun l' e => by cases e; exact ⟨_, hlW⟩) []) ?_
  rintro e a Wa ⟨hka, _, rfl, hsa, hfa, hAa⟩
  have hla := hka.same l _ hlW rfl
  have hlta : l < Wa.heap.size := (Array.getElem?_eq_some_iff.1 hla).1
  refine ⟨_, run_beginRound hla (by rw [hrec]), ?_⟩
  -- the round's own world
  obtain ⟨Wb, hWb⟩ : ∃ Wb, Wa.putObj l (.loop { rec .ready none with state := .busy }) = Wb := ⟨_, rfl⟩
  have hlb : Wb.heap[l]? = some (.loop (rec .busy none)) := by rw [← hWb, World.putObj_heap_same hlta, hrec, hrec]
  have hszb : Wb.heap.size = Wa.heap.size := by rw [← hWb]; simp
  have hAb : Grow w.heap.size Wa Wb := by rw [← hWb]; exact Grow.putBook _ hl hla rfl
  have hkb : Keep w Wb := by rw [← hWb]; exact keep_putBook _ (hkW.trans hka) hl
  have hbb : B Wb := by rw [← hWb]; exact hB2 _ _ (hB _ _ hbW hka)
  have hfb : SF W1.heap.size W Wb := (hfa.mono hw1).trans hka.size (by rw [← hWb]; exact sf_putBook _ hlt1)
  have hsb : Same S W Wb := by rw [← hWb]; exact hsa.trans (same_putBook _ fun k hk => by have := hS k hk; omega)
  rw [hWb]
  have hb := (hAa Wb hAb hszb) (fun l' e => by cases e; exact ⟨_, hlb⟩) a.defers
  refine wpIn_mono hb ?_
  rintro e2 b V ⟨hkV, _, hq⟩
  have hlV := hkV.same l _ hlb rfl
  have hltV : l < V.heap.size := (Array.getElem?_eq_some_iff.1 hlV).1
  have fin : ∀ (jump : Option Code), (Instr.endRound l jump).run P V = .ok (.bool jump.isNone) (V.putObj l (.loop (rec (if jump.isNone then .ready else .done) jump))) := fun jump => by
    have := run_endRound (P := P) jump hlV
    rw [hrec] at this ⊢
    exact this
  have at_ : ∀ o, (V.putObj l o).heap[l]? = some o := fun o => World.putObj_heap_same hltV
  have kp : ∀ o, Keep w (V.putObj l o) := fun o => keep_putBook _ (hkb.trans hkV) hl
  have bp : ∀ o, B (V.putObj l o) := fun o => hB2 _ _ (hB _ _ hbb hkV)
  cases e2 with
  | normal =>
    obtain ⟨hs, hf, hi2⟩ := hq
    exact ⟨_, _, fin none, .inl ⟨rfl, ⟨hI _ _ _ hi2 (Grow.putBook _ hl hlV rfl), kp _, bp _, at_ _⟩, (hsb.trans hs).trans (same_putBook _ fun k hk => by have := hS k hk; omega), (hfb.trans (by have := hka.size; omega) (hf.mono hw1)).trans (by have := hka.size; have := hkV.size; omega) (sf_putBook _ hlt1), by have := hka.size; have := hkV.size; simp; omega⟩⟩
  | ret => exact ⟨_, _, fin (some .ret), .inr ⟨rfl, .ret, .inl rfl, hIx _ _ _ hq (Grow.putBook _ hl hlV rfl), kp _, bp _, at_ _⟩⟩
  | exit id => exact ⟨_, _, fin (some (.exit id)), .inr ⟨rfl, .exit id, .inr ⟨id, rfl⟩, hIx _ _ _ hq (Grow.putBook _ hl hlV rfl), kp _, bp _, at_ _⟩⟩
  | goto l => exact hq.elim
  | panic ch => exact hq.elim
  | outgrown => exact hq.elim

theorem exec_rangeG {α : Type} {r : Option Nat} {Q : Exit → Array Value → World → Prop} {g : Operand} {ps : Array Tmp} {assign body : Code} {t : Array Value} {w : World} {gf : Nat} {lb : Array Value} {encs : α → Array Value} {L : List α} {S : Nat → Prop}
    (hg : ev t g = .func (.func gf) #[] lb) (eg : ∀ args w, (callFunc gf args).run P w = .ok (.enter gf args) w)
    (hit : IterG P gf lb encs L S w) (hS : ∀ k, S k → k < w.heap.size) (hps : ∀ x, (encs x).size = ps.size)
    (I : Nat → World → Prop) (Ix : Code → World → Prop) (hI : ∀ k, Stab w.heap.size (I k)) (hIx : ∀ c, Stab w.heap.size (Ix c))
    (h0 : I 0 w)
    (hround : ∀ (l k : Nat) (hk : k < L.length) (W : World), w.heap.size < W.heap.size → I k W →
      Exec P (some l) assign ((ps.zip (encs (L[k]'hk))).foldl (fun t (p, v) => t.setIfInBounds p v) t) W fun e t' W' => e = .normal ∧ Same S W W' ∧ SF w.heap.size W W' ∧
        ∀ V, Grow w.heap.size W' V → V.heap.size = W'.heap.size → Exec P (some l) body t' V (bodyEndG w.heap.size S (I (k + 1)) Ix V))
    (hdone : ∀ W, I L.length W → Q .normal t W) (hret : ∀ W, Ix .ret W → Q .ret t W) (hexit : ∀ id W, Ix (.exit id) W → Q (.exit id) t W) :
    Exec P r (.rangeFunc g ps assign body) t w Q := by
  intro hc ds
  refine wpIn_rangeFunc ?_
  intro fn _
  have hev : ∀ X : World, (resolve ({ tmps := t, defers := ds } : Act).eval (rangeCall g 0) 0).run P X = (resolve ({ tmps := t, defers := ds } : Act).eval (rangeCall g 0) 0).run P X := fun _ => rfl
  clear hev
  cases r with
  | none =>
    obtain ⟨rec, hrec⟩ : ∃ rec : LoopState → Option Code → Loop, ∀ st pe, rec st pe = { state := st, pending := pe, fn, tmps := t, params := ps, assign, body, defers := w.heap.size } := ⟨_, fun _ _ => rfl⟩
    obtain ⟨W1, hW1⟩ : ∃ W1, (w.alloc (.deferred (some []))).alloc (.loop (rec .ready none)) = W1 := ⟨_, rfl⟩
    have hL1 : W1.heap[w.heap.size + 1]? = some (.loop (rec .ready none)) := by
      rw [← hW1]; have := World.alloc_heap_new (w.alloc (.deferred (some []))) (.loop (rec .ready none)); rwa [World.size_alloc] at this
    have hK1 : W1.heap[w.heap.size]? = some (.deferred (some [])) := by
      rw [← hW1]; exact (Below.heap_alloc _ _ _ (by simp)).trans (World.alloc_heap_new w _)
    have hb1 : Below w.heap.size w W1 := by rw [← hW1]; exact ((Below.refl _ w).alloc (Nat.le_refl _) _).alloc (by simp) _
    refine ⟨w.heap.size + 1, [{ target := .collected w.heap.size, args := #[] }], W1, { target := .fn (.func gf) lb, args := #[.func (.yield (w.heap.size + 1)) #[] #[]] }, W1, gf,
      #[.func (.yield (w.heap.size + 1)) #[] #[]] ++ lb, W1, ?_, ?_, fun _ _ => trivial, ?_, (fun h => by cases h), ?_⟩
    · rw [← hW1, hrec]; exact run_enterLoop_outer _ _ _ _ _
    · simp only [resolve, ev_eq, hg]
      simp [go_sem]
    · simp [invoke, go_sem, eg]
    · refine (range_coreG hit hS hps I Ix hI hIx hround fn (w.heap.size + 1) w.heap.size (by omega) rec hrec (fun X => X.heap[w.heap.size]? = some (.deferred (some [])))
        (fun X Y h k => k.same _ _ h rfl) (fun X o h => (World.putObj_heap_other (by omega)).trans h) (Keep.of_below hb1) (Same.of_below hb1 hS) (hI 0 _ _ h0 (Grow.of_below hb1)) hK1 hL1).mono ?_
      rintro e W2 ⟨⟨v, rfl⟩, (⟨hi, hk, hd, hl⟩ | ⟨c, hc', hi, hk, hd, hl⟩)⟩
      · have hlt := (Array.getElem?_eq_some_iff.1 hl).1
        refine ⟨none, _, by have := run_endLoop (P := P) hl (by rw [hrec]; simp); rw [hrec] at this; exact this, keep_putBook _ hk (by omega), ⟨[{ target := .collected w.heap.size, args := #[] }], rfl, ⟨w.heap.size, rfl, Nat.le_refl _, by simp; omega, (World.putObj_heap_other (by omega)).trans hd, trivial⟩⟩, hdone _ (hI _ _ _ hi (Grow.putBook _ (by omega) hl rfl))⟩
      · have hlt := (Array.getElem?_eq_some_iff.1 hl).1
        refine ⟨some c, _, by have := run_endLoop (P := P) hl (by rw [hrec]; simp); rw [hrec] at this; exact this, ?_⟩
        have hx := hIx _ _ _ hi (Grow.putBook (.loop { rec .done (some c) with state := .exhausted }) (by omega) hl rfl)
        rw [hrec] at hx
        have post : ∀ e, Q e t _ → EQ w ds Q e { tmps := t, defers := [{ target := .collected w.heap.size, args := #[] }] ++ ds } _ := fun e hq =>
          ⟨keep_putBook (.loop { state := .exhausted, pending := some c, fn, tmps := t, params := ps, assign, body, defers := w.heap.size }) hk (Nat.le_succ w.heap.size), ⟨[{ target := .collected w.heap.size, args := #[] }], rfl, ⟨w.heap.size, rfl, Nat.le_refl _, by simp; omega, (World.putObj_heap_other (by omega)).trans hd, trivial⟩⟩, hq⟩
        rcases hc' with rfl | ⟨id, rfl⟩
        · exact wpIn_ret (post _ (hret _ hx))
        · exact wpIn_exit (post _ (hexit _ _ hx))
  | some l₀ =>
    obtain ⟨r₀, hr₀⟩ := hc l₀ rfl
    obtain ⟨rec, hrec⟩ : ∃ rec : LoopState → Option Code → Loop, ∀ st pe, rec st pe = { state := st, pending := pe, fn, tmps := t, params := ps, assign, body, defers := r₀.defers } := ⟨_, fun _ _ => rfl⟩
    obtain ⟨W1, hW1⟩ : ∃ W1, w.alloc (.loop (rec .ready none)) = W1 := ⟨_, rfl⟩
    have hL1 : W1.heap[w.heap.size]? = some (.loop (rec .ready none)) := by rw [← hW1]; exact World.alloc_heap_new w _
    have hb1 : Below w.heap.size w W1 := by rw [← hW1]; exact (Below.refl _ w).alloc (Nat.le_refl _) _
    refine ⟨w.heap.size, [], W1, { target := .fn (.func gf) lb, args := #[.func (.yield w.heap.size) #[] #[]] }, W1, gf,
      #[.func (.yield w.heap.size) #[] #[]] ++ lb, W1, ?_, ?_, fun _ _ => trivial, ?_, (fun h => by cases h), ?_⟩
    · rw [← hW1, hrec]; exact run_enterLoop_inner hr₀ _ _ _ _ _
    · simp only [resolve, ev_eq, hg]
      simp [go_sem]
    · simp [invoke, go_sem, eg]
    · refine CallsIn.mono (F := Fence.wide.inRound l₀) (CallsIn.inRound l₀ (range_coreG hit hS hps I Ix hI hIx hround fn w.heap.size r₀.defers (Nat.le_refl _) rec hrec (fun _ => True)
        (fun _ _ _ _ => trivial) (fun _ _ _ => trivial) (Keep.of_below hb1) (Same.of_below hb1 hS) (hI 0 _ _ h0 (Grow.of_below hb1)) trivial hL1)) ?_
      rintro e W2 ⟨⟨v, rfl⟩, (⟨hi, hk, _, hl⟩ | ⟨c, hc', hi, hk, _, hl⟩)⟩
      · exact ⟨none, _, by have := run_endLoop (P := P) hl (by rw [hrec]; simp); rw [hrec] at this; exact this, keep_putBook _ hk (Nat.le_refl _), ⟨[], rfl, trivial⟩, hdone _ (hI _ _ _ hi (Grow.putBook _ (Nat.le_refl _) hl rfl))⟩
      · refine ⟨some c, _, by have := run_endLoop (P := P) hl (by rw [hrec]; simp); rw [hrec] at this; exact this, ?_⟩
        have hx := hIx _ _ _ hi (Grow.putBook (.loop { rec .done (some c) with state := .exhausted }) (Nat.le_refl _) hl rfl)
        rw [hrec] at hx
        have post : ∀ e, Q e t _ → EQ w ds Q e { tmps := t, defers := [] ++ ds } _ := fun e hq =>
          ⟨keep_putBook (.loop { state := .exhausted, pending := some c, fn, tmps := t, params := ps, assign, body, defers := r₀.defers }) hk (Nat.le_refl _), ⟨[], rfl, trivial⟩, hq⟩
        rcases hc' with rfl | ⟨id, rfl⟩
        · exact wpIn_ret (post _ (hret _ hx))
        · exact wpIn_exit (post _ (hexit _ _ hx))
end range
end Go.Proofs.Ytafmgmaelnpehaa.Tp
end

section
namespace Go.Proofs.Ytafmgmaelnpehaa.Tp
open Go.RowKit Go.TL Go.Shelf
attribute [local go_sem] Oper.semAt_some
attribute [local go_sem] run_store_func
abbrev iv (n : Nat) : Value := .int .i64 (n : Int)
abbrev vi (n : Int) : Value := .int .i64 n
def inB (x lo hi : Int) : Bool := decide (lo ≤ x) && decide (x ≤ hi)
theorem within100 (x lo hi : Int) (w : World) : Calls Try.prog 100 #[vi x, vi lo, vi hi] w fun e w' => e = .returned (.bool (inB x lo hi)) ∧ Below w.heap.size w w' := by
  refine calls_of_exec Try.func100 rfl ?_
  simp only [Try.ntmps100, List.size_toArray, List.length_cons, List.length_nil, Nat.reduceAdd, Nat.reduceSub, Array.replicate_succ, Array.replicate_zero, List.push_toArray, List.append_toArray, List.nil_append, List.cons_append]
  refine exec_seq (exec_region_o fun ds => ?_)
  gi_wp2
  refine eq_mk (Keep.refl w) ?_
  show Exec _ _ _ _ _ _
  refine exec_seq (exec_region_o fun ds => ?_)
  obtain ⟨R, hR⟩ : ∃ R, inB x lo hi = R := ⟨_, rfl⟩
  simp only [hR]
  have HR := Lib.hid hR
  clear hR
  by_cases h1 : lo ≤ x
  · gi_wp2
    refine eq_mk (Keep.refl w) ?_
    refine exec_ret ⟨.inr rfl, fun W' hG => ⟨.bool R, ?_, rfl, hG.below (Nat.le_refl _) (Nat.le_refl _)⟩⟩
    have : R = decide (x ≤ hi) := by rw [← HR.out]; simp [inB, h1]
    subst this
    simp [results, Try.f100, go_sem]
  · gi_wp2
    refine eq_mk (Keep.refl w) ?_
    refine exec_ret ⟨.inr rfl, fun W' hG => ⟨.bool R, ?_, rfl, hG.below (Nat.le_refl _) (Nat.le_refl _)⟩⟩
    have : R = false := by rw [← HR.out]; unfold inB; rw [decide_eq_false (by omega), Bool.false_and]
    subst this
    simp [results, Try.f100, go_sem]
    try (intro h; omega)
theorem need98 (e : Int) (w : World) : Calls Try.prog 98 #[.bool true, .int .i64 e] w fun e w' => e = .returned (.tuple #[]) ∧ Below w.heap.size w w' := by
  refine calls_of_exec Try.func98 rfl ?_
  simp only [Try.ntmps98, List.size_toArray, List.length_cons, List.length_nil, Nat.reduceAdd, Nat.reduceSub, Array.replicate_succ, Array.replicate_zero, List.push_toArray, List.append_toArray, List.nil_append, List.cons_append]
  show Exec _ _ (Code.seq _ _) _ _ _
  refine exec_seq (exec_region_o fun ds => ?_)
  gi_wp2
  refine eq_mk (Keep.refl w) ?_
  show Exec _ _ (Code.cond _ _ _) _ _ _
  refine exec_cond (b := false) rfl (fun h => by cases h) (fun _ => exec_skip ?_)
  exact ⟨.inl rfl, fun W' hG => ⟨_, results_none rfl _ _ _, rfl, hG.below (Nat.le_refl _) (Nat.le_refl _)⟩⟩
theorem caught_nilP (b : Nat) (w : World) : Calls Try.prog 78 #[.nilIface, .pointer (some ⟨b, 0, none⟩)] w fun r w' => r = .returned (.tuple #[]) ∧ Below w.heap.size w w' := by
  refine calls_of_exec Try.func78 rfl ?_
  simp only [Try.ntmps78, List.size_toArray, List.length_cons, List.length_nil, Nat.reduceAdd, Nat.reduceSub, Array.replicate_succ, Array.replicate_zero, List.push_toArray, List.append_toArray, List.nil_append, List.cons_append]
  refine exec_seq (exec_seq (exec_region_o fun ds => ?_))
  gi_wp2
  refine eq_mk (Keep.refl _) ?_
  refine exec_cond (b := true) rfl (fun _ => ?_) (fun h => by cases h)
  refine exec_ret ⟨.inr rfl, fun W' hG => ⟨.tuple #[], by simp [results, Try.f78, go_sem], rfl, hG.below (Nat.le_refl _) (Nat.le_refl _)⟩⟩
theorem assert148 (v : Value) (w : World) : (Instr.typeAssert (.iface 148 v) 20 148 true).run Try.prog w = .ok (.tuple #[v, .bool true]) w := by
  simp [Instr.typeAssert, run_underlying Try.underlying148]
set_option maxRecDepth 100000 in
theorem caught_someP (b : Nat) (t : TypeId) (code x : Int) (w : World) (h : Boxed w b t (.int .i64 x)) : Calls Try.prog 78 #[.iface 148 (.agg #[.int .i64 code]), .pointer (some ⟨b, 0, none⟩)] w fun r w' => r = .returned (.tuple #[]) ∧ ∃ W1, Below w.heap.size w W1 ∧ w' = W1.setCell ⟨b, 0, none⟩ (.int .i64 code) := by
  have h1 := h.cell
  have h2 := h.frozen
  have h4 := (Grow.alloc 0 w (.cells #[.int .i64 code] 148)).boxed h
  have h5 := h4.cell
  have h6 := h4.frozen
  have hA := assert148 (.agg #[.int .i64 code]) w
  go_enter Try.func78, Try.ntmps78
  go_wp2
  exact bodyPost_end (results_none rfl _ _ _) rfl ⟨rfl, _, (Below.refl _ w).alloc (Nat.le_refl _) _, rfl⟩

theorem catches77 : Catches Try.prog 77 (fun b => #[.pointer (some ⟨b, 0, none⟩)]) 148 where
  calm b W hb := by
    refine callsDIn_of_wpSIn Try.func77 rfl trivial fun c₀ cs hu => ?_
    refine wpSIn_recover_first rfl rfl rfl rfl (fun _ _ => trivial) rfl (v := .nilIface) (cs' := c₀ :: cs) (.inr ⟨by simp [recoverD, hu], rfl, rfl⟩) ?_
    refine opsIn_call (f := 78) (args := #[.nilIface, .pointer (some ⟨b, 0, none⟩)]) rfl rfl (fun _ h => by cases h) (by simp [go_sem, Try.ntmps77]) ((caught_nilP b W).mono ?_)
    rintro e w' ⟨rfl, h⟩
    exact ⟨_, rfl, rfl, .returning, by rw [← hu], _, results_none rfl _ _ _, ⟨_, rfl⟩, rfl, h⟩
  caught b t x code W h := by
    refine callsDIn_of_wpSIn Try.func77 rfl trivial fun c₀ cs hu => ?_
    refine wpSIn_recover_first rfl rfl rfl rfl (fun _ _ => trivial) rfl (v := .iface 148 (.agg #[.int .i64 code])) (cs' := { c₀ with mode := .panicking [{ v := .iface 148 (.agg #[.int .i64 code]), recovered := true }] } :: cs) (.inl (by simp [recoverD, hu])) ?_
    refine opsIn_call (f := 78) (args := #[.iface 148 (.agg #[.int .i64 code]), .pointer (some ⟨b, 0, none⟩)]) rfl rfl (fun _ h => by cases h) (by simp [go_sem, Try.ntmps77]) ((caught_someP b t code x W h).mono ?_)
    rintro e w' ⟨rfl, h⟩
    exact ⟨_, rfl, rfl, _, rfl, _, results_none rfl _ _ _, ⟨_, rfl⟩, rfl, h⟩
theorem catches84 : Catches Try.prog 84 (fun b => #[.pointer (some ⟨b, 0, none⟩)]) 148 where
  calm b W hb := by
    refine callsDIn_of_wpSIn Try.func84 rfl trivial fun c₀ cs hu => ?_
    refine wpSIn_recover_first rfl rfl rfl rfl (fun _ _ => trivial) rfl (v := .nilIface) (cs' := c₀ :: cs) (.inr ⟨by simp [recoverD, hu], rfl, rfl⟩) ?_
    refine opsIn_call (f := 78) (args := #[.nilIface, .pointer (some ⟨b, 0, none⟩)]) rfl rfl (fun _ h => by cases h) (by simp [go_sem, Try.ntmps84]) ((caught_nilP b W).mono ?_)
    rintro e w' ⟨rfl, h⟩
    exact ⟨_, rfl, rfl, .returning, by rw [← hu], _, results_none rfl _ _ _, ⟨_, rfl⟩, rfl, h⟩
  caught b t x code W h := by
    refine callsDIn_of_wpSIn Try.func84 rfl trivial fun c₀ cs hu => ?_
    refine wpSIn_recover_first rfl rfl rfl rfl (fun _ _ => trivial) rfl (v := .iface 148 (.agg #[.int .i64 code])) (cs' := { c₀ with mode := .panicking [{ v := .iface 148 (.agg #[.int .i64 code]), recovered := true }] } :: cs) (.inl (by simp [recoverD, hu])) ?_
    refine opsIn_call (f := 78) (args := #[.iface 148 (.agg #[.int .i64 code]), .pointer (some ⟨b, 0, none⟩)]) rfl rfl (fun _ h => by cases h) (by simp [go_sem, Try.ntmps84]) ((caught_someP b t code x W h).mono ?_)
    rintro e w' ⟨rfl, h⟩
    exact ⟨_, rfl, rfl, _, rfl, _, results_none rfl _ _ _, ⟨_, rfl⟩, rfl, h⟩
end Go.Proofs.Ytafmgmaelnpehaa.Tp
end

section
namespace Go.Proofs.Ytafmgmaelnpehaa.Tp
open Go.RowKit Go.TL Go.Shelf
attribute [local go_sem] Oper.semAt_some
attribute [local go_sem] run_store_func
theorem span41 (a b : Int) (w : World) : Calls Try.prog 41 #[vi a, vi b] w fun e w' => e = .returned (.agg #[vi a, vi b]) ∧ Below w.heap.size w w' := by
  have hu28 := Try.underlying28
  refine calls_of_exec Try.func41 rfl ?_
  simp only [Try.ntmps41, List.size_toArray, List.length_cons, List.length_nil, Nat.reduceAdd, Nat.reduceSub, Array.replicate_succ, Array.replicate_zero, List.push_toArray, List.append_toArray, List.nil_append, List.cons_append]
  refine exec_seq (exec_region_o fun ds => ?_)
  gi_wp2
  refine eq_mk ((Keep.refl w).alloc _) ?_
  have hB := (Below.refl w.heap.size w).alloc (Nat.le_refl _) (.cells #[.int .i64 0, .int .i64 0] 28)
  have h0 : (w.alloc (.cells #[.int .i64 0, .int .i64 0] 28)).heap[w.heap.size]? = some (.cells #[.int .i64 0, .int .i64 0] 28 (0, 0)) := World.alloc_heap_new _ _
  show Exec _ _ _ _ (w.alloc (.cells #[.int .i64 0, .int .i64 0] 28)) _
  generalize w.alloc (.cells #[.int .i64 0, .int .i64 0] 28) = X at *
  have s1 := box_set X w.heap.size 0 [_, _] 28 (vi a) h0
  have s2 := box_set _ w.heap.size 1 [_, _] 28 (vi b) s1
  have g0 := cells_get (cs := [_, _]) (k := 0) h0 rfl
  have g1 := cells_get (cs := [_, _]) (k := 1) s1 rfl
  have f0 : X.frozen? ⟨w.heap.size, 0, none⟩ = false := frozen_cells h0
  have f1 : (X.setCell ⟨w.heap.size, 0, none⟩ (vi a)).frozen? ⟨w.heap.size, 1, none⟩ = false := frozen_cells s1
  refine exec_seq (exec_region_o fun ds => ?_)
  gi_wp2
  refine eq_mk (((Keep.refl _).setCell _ _).setCell _ _) ?_
  have hB2 := (hB.setCell (p := ⟨w.heap.size, 0, none⟩) (Nat.le_refl _) (vi a)).setCell (p := ⟨w.heap.size, 1, none⟩) (Nat.le_refl _) (vi b)
  refine exec_ret ⟨.inr rfl, fun W' hG => ?_⟩
  have g2 := hG.same _ _ s2 (.inr rfl)
  have k0 := cells_get (cs := [_, _]) (k := 0) g2 rfl
  have k1 := cells_get (cs := [_, _]) (k := 1) g2 rfl
  exact ⟨.agg #[vi a, vi b], by simp [results, Try.f41, go_sem, hu28, k0, k1], rfl, hB2.trans (hG.below (Nat.le_refl _) hB2.size)⟩
abbrev P4 := Int × Int × Int × Int
def RowQ (W : World) (A : Option Addr) (P : List P4) : Prop := ∀ (i : Nat) (p : P4), P[i]? = some p → ∃ ad, A = some ad ∧ W.cell? (ad.add (i * 4)) = some (vi p.1) ∧ W.cell? ⟨(ad.add (i * 4)).block, (ad.add (i * 4)).off + 1, none⟩ = some (vi p.2.1) ∧ W.cell? ⟨(ad.add (i * 4)).block, (ad.add (i * 4)).off + 2, none⟩ = some (vi p.2.2.1) ∧ W.cell? ⟨(ad.add (i * 4)).block, (ad.add (i * 4)).off + 3, none⟩ = some (vi p.2.2.2)
theorem RowQ.grow {W W' : World} {A : Option Addr} {P : List P4} {n : Nat} (h : RowQ W A P) (hG : Grow n W W') : RowQ W' A P := fun i p hp => by
  obtain ⟨ad, e, h0, h1, h2, h3⟩ := h i p hp
  exact ⟨ad, e, hG.cell h0, hG.cell h1, hG.cell h2, hG.cell h3⟩
theorem RowQ.below {W W' : World} {A : Option Addr} {P : List P4} (h : RowQ W A P) (hB : Below W.heap.size W W') : RowQ W' A P := h.grow (Grow.of_below (B := 0) hB)
structure Pg where
  side : Int
  AP : Option Addr
  cP : Nat
  P : List P4
  AL : Option Addr
  cL : Nat
  L : List P4
abbrev Pg.sP (a : Pg) : Value := .slice a.AP a.P.length a.cP
abbrev Pg.sL (a : Pg) : Value := .slice a.AL a.L.length a.cL
def Pg.val (a : Pg) : Value := .agg #[vi a.side, a.sP, a.sL]
structure Pg.At (a : Pg) (w : World) : Prop where
  p : RowQ w a.AP a.P
  l : RowQ w a.AL a.L
theorem Pg.At.below {a : Pg} {W W' : World} (h : a.At W) (hB : Below W.heap.size W W') : a.At W' := ⟨h.p.below hB, h.l.below hB⟩
structure okP (side : Int) (p : P4) : Prop where
  x0 : 0 ≤ p.1
  x1 : p.1 ≤ p.2.1
  x2 : p.2.1 ≤ side
  xw : p.2.1 - p.1 ≤ 2
  y0 : 0 ≤ p.2.2.1
  y1 : p.2.2.1 ≤ p.2.2.2
  y2 : p.2.2.2 ≤ side
  yw : p.2.2.2 - p.2.2.1 ≤ 2
structure okL (n : Nat) (l : P4) : Prop where
  a0 : 0 ≤ l.1
  a1 : l.1 < n
  b0 : 0 ≤ l.2.1
  b1 : l.2.1 < n
  ne : l.1 ≠ l.2.1
  lo : 0 ≤ l.2.2.1
  hi : l.2.2.1 ≤ l.2.2.2
  h30 : l.2.2.2 ≤ 30
structure Pg.Ok (a : Pg) : Prop where
  s0 : 0 ≤ a.side
  s1 : a.side ≤ 15
  pl : a.P.length ≤ 4
  ll : a.L.length ≤ 6
  ps : ∀ p ∈ a.P, okP a.side p
  ls : ∀ l ∈ a.L, okL a.P.length l
abbrev PgB (W : World) (b : Nat) (a : Pg) : Prop := W.heap[b]? = some (.cells #[vi a.side, a.sP, a.sL] 68 (0, 0))
theorem isPeg81 (a : Pg) (n : Nat) (hn : n < a.P.length) (hl : a.P.length ≤ 4) (w : World) : Calls Try.prog 81 #[a.val, iv n] w fun e w' => e = .returned (.bool true) ∧ Below w.heap.size w w' := by
  have hu68 := Try.underlying68
  refine calls_of_exec Try.func81 rfl ?_
  simp only [Try.ntmps81, List.size_toArray, List.length_cons, List.length_nil, Nat.reduceAdd, Nat.reduceSub, Array.replicate_succ, Array.replicate_zero, List.push_toArray, List.append_toArray, List.nil_append, List.cons_append]
  simp only [Pg.val]
  refine exec_seq (exec_region_o fun ds => ?_)
  gi_wp2
  refine eq_mk ((Keep.refl w).alloc _) ?_
  show Exec _ _ _ _ (w.alloc (.cells #[vi a.side, a.sP, a.sL] 68)) _
  have hB := (Below.refl w.heap.size w).alloc (Nat.le_refl _) (.cells #[vi a.side, a.sP, a.sL] 68)
  have h0 : PgB (w.alloc (.cells #[vi a.side, a.sP, a.sL] 68)) w.heap.size a := World.alloc_heap_new _ _
  generalize w.alloc (.cells #[vi a.side, a.sP, a.sL] 68) = X at *
  have hh := h0
  simp only [PgB, Pg.sP] at hh
  have c1 := cells_get (cs := [_, _, _]) (k := 1) hh rfl
  clear hh
  have hw : IntKind.i64.wrap ((a.P.length : Int) - 1) = ((a.P.length : Int) - 1) := IntWalk.i64_in _ (by omega)
  have hin : inB n 0 ((a.P.length : Int) - 1) = true := by unfold inB; rw [decide_eq_true (by omega), decide_eq_true (by omega)]; rfl
  have hcall := within100 n 0 ((a.P.length : Int) - 1) X
  rw [hin] at hcall
  refine exec_seq (exec_region_o fun ds => ?_)
  gi_wp2_with fail
  refine ⟨trivial, rfl, (callsIn_wide.2 (hcall)).mono ?_⟩
  rintro e Y ⟨rfl, hy⟩
  gi_wp2
  refine eq_mk (Keep.of_below hy) ?_
  have hBY := hB.trans (hy.mono hB.size)
  exact exec_ret ⟨.inr rfl, fun W' hG => ⟨.bool true, by simp [results, Try.f81, go_sem], rfl, hBY.trans (hG.below (Nat.le_refl _) hBY.size)⟩⟩
theorem isSpan106 (lo hi high : Int) (h0 : 0 ≤ lo) (h1 : lo ≤ hi) (h2 : hi ≤ high) (w : World) : Calls Try.prog 106 #[.agg #[vi lo, vi hi], vi high] w fun e w' => e = .returned (.bool true) ∧ Below w.heap.size w w' := by
  have hu28 := Try.underlying28
  refine calls_of_exec Try.func106 rfl ?_
  simp only [Try.ntmps106, List.size_toArray, List.length_cons, List.length_nil, Nat.reduceAdd, Nat.reduceSub, Array.replicate_succ, Array.replicate_zero, List.push_toArray, List.append_toArray, List.nil_append, List.cons_append]
  refine exec_seq (exec_region_o fun ds => ?_)
  gi_wp2
  refine eq_mk ((Keep.refl w).alloc _) ?_
  show Exec _ _ _ _ (w.alloc (.cells #[vi lo, vi hi] 28)) _
  have hB := (Below.refl w.heap.size w).alloc (Nat.le_refl _) (.cells #[vi lo, vi hi] 28)
  have h8 : (w.alloc (.cells #[vi lo, vi hi] 28)).heap[w.heap.size]? = some (.cells #[vi lo, vi hi] 28 (0, 0)) := World.alloc_heap_new _ _
  generalize w.alloc (.cells #[vi lo, vi hi] 28) = X at *
  have c0 := cells_get (cs := [_, _]) (k := 0) h8 rfl
  have c1 := cells_get (cs := [_, _]) (k := 1) h8 rfl
  refine exec_seq (exec_region_o fun ds => ?_)
  gi_wp2
  refine eq_mk (Keep.refl _) ?_
  exact exec_ret ⟨.inr rfl, fun W' hG => ⟨.bool true, by simp [results, Try.f106, go_sem, h0, h1, h2], rfl, hB.trans (hG.below (Nat.le_refl _) hB.size)⟩⟩
theorem bad105 (a : Pg) (b : Nat) (lo hi : Int) (h0 : 0 ≤ lo) (h1 : lo ≤ hi) (h2 : hi ≤ a.side) (h3 : hi - lo ≤ 2) (h15 : a.side ≤ 15) (w : World) (hb : PgB w b a) : Calls Try.prog 105 #[.agg #[vi lo, vi hi], .pointer (some ⟨b, 0, none⟩)] w fun e w' => e = .returned (.bool false) ∧ Below w.heap.size w w' := by
  have hu28 := Try.underlying28
  have hu68 := Try.underlying68
  refine calls_of_exec Try.func105 rfl ?_
  simp only [Try.ntmps105, List.size_toArray, List.length_cons, List.length_nil, Nat.reduceAdd, Nat.reduceSub, Array.replicate_succ, Array.replicate_zero, List.push_toArray, List.append_toArray, List.nil_append, List.cons_append]
  refine exec_seq (exec_region_o fun ds => ?_)
  gi_wp2
  refine eq_mk ((Keep.refl w).alloc _) ?_
  show Exec _ _ _ _ (w.alloc (.cells #[vi lo, vi hi] 28)) _
  have hB := (Below.refl w.heap.size w).alloc (Nat.le_refl _) (.cells #[vi lo, vi hi] 28)
  have h8 : (w.alloc (.cells #[vi lo, vi hi] 28)).heap[w.heap.size]? = some (.cells #[vi lo, vi hi] 28 (0, 0)) := World.alloc_heap_new _ _
  have hbX : PgB (w.alloc (.cells #[vi lo, vi hi] 28)) b a := heap_next hb _
  generalize w.alloc (.cells #[vi lo, vi hi] 28) = X at *
  have c0 := cells_get (cs := [_, _]) (k := 0) h8 rfl
  have c1 := cells_get (cs := [_, _]) (k := 1) h8 rfl
  have p0 := cells_get (cs := [_, _, _]) (k := 0) hbX rfl
  refine exec_seq (exec_region_o fun ds => ?_)
  gi_wp2_with fail
  refine ⟨trivial, rfl, (callsIn_wide.2 (isSpan106 lo hi a.side h0 h1 h2 X)).mono ?_⟩
  rintro e Y ⟨rfl, hy⟩
  have hBY := hB.trans (hy.mono hB.size)
  have h9 := (hy.block _ (heap_lt h8)).trans h8
  have d0 := cells_get (cs := [_, _]) (k := 0) h9 rfl
  have d1 := cells_get (cs := [_, _]) (k := 1) h9 rfl
  have hw : IntKind.i64.wrap (hi - lo) = hi - lo := IntWalk.i64_in _ (by omega)
  have hlt : ¬ (2 < hi - lo) := by omega
  clear c0 c1 p0
  gi_wp2
  refine eq_mk (Keep.of_below hy) ?_
  exact exec_ret ⟨.inr rfl, fun W' hG => ⟨.bool false, by simp [results, Try.f105, go_sem, h3], rfl, hBY.trans (hG.below (Nat.le_refl _) hBY.size)⟩⟩
theorem bad107 (a : Pg) (b b2 : Nat) (p : P4) (hp : okP a.side p) (h15 : a.side ≤ 15) (w : World) (hb : PgB w b a) (hb2 : w.heap[b2]? = some (.cells #[.func (.func 105) #[] #[.pointer (some ⟨b, 0, none⟩)]] 168 (0, 0))) : Calls Try.prog 107 #[.agg #[vi p.1, vi p.2.1, vi p.2.2.1, vi p.2.2.2], .pointer (some ⟨b2, 0, none⟩)] w fun e w' => e = .returned (.bool false) ∧ Below w.heap.size w w' := by
  obtain ⟨p0, p1, p2, p3⟩ := p
  have hu28 := Try.underlying28
  have hu70 := Try.underlying70
  refine calls_of_exec Try.func107 rfl ?_
  simp only [Try.ntmps107, List.size_toArray, List.length_cons, List.length_nil, Nat.reduceAdd, Nat.reduceSub, Array.replicate_succ, Array.replicate_zero, List.push_toArray, List.append_toArray, List.nil_append, List.cons_append]
  refine exec_seq (exec_region_o fun ds => ?_)
  gi_wp2
  refine eq_mk ((Keep.refl w).alloc _) ?_
  show Exec _ _ _ _ (w.alloc (.cells #[vi p0, vi p1, vi p2, vi p3] 70)) _
  have hB := (Below.refl w.heap.size w).alloc (Nat.le_refl _) (.cells #[vi p0, vi p1, vi p2, vi p3] 70)
  have h8 : (w.alloc (.cells #[vi p0, vi p1, vi p2, vi p3] 70)).heap[w.heap.size]? = some (.cells #[vi p0, vi p1, vi p2, vi p3] 70 (0, 0)) := World.alloc_heap_new _ _
  have hbX : PgB (w.alloc (.cells #[vi p0, vi p1, vi p2, vi p3] 70)) b a := heap_next hb _
  have hb2X := heap_next hb2 (.cells #[vi p0, vi p1, vi p2, vi p3] 70)
  generalize w.alloc (.cells #[vi p0, vi p1, vi p2, vi p3] 70) = X at *
  have c0 := cells_get (cs := [_, _, _, _]) (k := 0) h8 rfl
  have c1 := cells_get (cs := [_, _, _, _]) (k := 1) h8 rfl
  have c2 := cells_get (cs := [_]) (k := 0) hb2X rfl
  refine exec_seq (exec_region_o fun ds => ?_)
  gi_wp2_with fail
  refine ⟨trivial, rfl, (callsIn_wide.2 (bad105 a b p0 p1 hp.x0 hp.x1 hp.x2 hp.xw h15 X hbX)).mono ?_⟩
  rintro e Y ⟨rfl, hy⟩
  have hBY := hB.trans (hy.mono hB.size)
  have h9 := (hy.block _ (heap_lt h8)).trans h8
  have hbY : PgB Y b a := (hy.block _ (heap_lt hbX)).trans hbX
  have hb2Y := (hy.block _ (heap_lt hb2X)).trans hb2X
  have d2 := cells_get (cs := [_, _, _, _]) (k := 2) h9 rfl
  have d3 := cells_get (cs := [_, _, _, _]) (k := 3) h9 rfl
  have d4 := cells_get (cs := [_]) (k := 0) hb2Y rfl
  clear c0 c1 c2
  gi_wp2_with fail
  refine ⟨trivial, rfl, (callsIn_wide.2 (bad105 a b p2 p3 hp.y0 hp.y1 hp.y2 hp.yw h15 Y hbY)).mono ?_⟩
  rintro e Z ⟨rfl, hz⟩
  have hBZ := hBY.trans (hz.mono hBY.size)
  gi_wp2
  refine eq_mk ((Keep.of_below hy).trans (Keep.of_below hz)) ?_
  exact exec_ret ⟨.inr rfl, fun W' hG => ⟨.bool false, by simp [results, Try.f107, go_sem], rfl, hBZ.trans (hG.below (Nat.le_refl _) hBZ.size)⟩⟩
end Go.Proofs.Ytafmgmaelnpehaa.Tp
end

section
namespace Go.Proofs.Ytafmgmaelnpehaa.Tp
open Go.RowKit Go.TL Go.Shelf
attribute [local go_sem] Oper.semAt_some
attribute [local go_sem] run_store_func
theorem bad108 (a : Pg) (b : Nat) (l : P4) (hl : okL a.P.length l) (h4 : a.P.length ≤ 4) (w : World) (hb : PgB w b a) : Calls Try.prog 108 #[.agg #[vi l.1, vi l.2.1, vi l.2.2.1, vi l.2.2.2], .pointer (some ⟨b, 0, none⟩)] w fun e w' => e = .returned (.bool false) ∧ Below w.heap.size w w' := by
  obtain ⟨f, s, lo, hi⟩ := l
  have hne : ¬ f = s := hl.ne
  obtain ⟨f, rfl⟩ : ∃ n : Nat, f = n := ⟨f.toNat, by have := hl.a0; simp only at this; omega⟩
  obtain ⟨s, rfl⟩ : ∃ n : Nat, s = n := ⟨s.toNat, by have := hl.b0; simp only at this; omega⟩
  have hf : f < a.P.length := by have := hl.a1; simp only at this; omega
  have hs : s < a.P.length := by have := hl.b1; simp only at this; omega
  have hu28 := Try.underlying28
  have hu166 := Try.underlying166
  have hu68 := Try.underlying68
  refine calls_of_exec Try.func108 rfl ?_
  simp only [Try.ntmps108, List.size_toArray, List.length_cons, List.length_nil, Nat.reduceAdd, Nat.reduceSub, Array.replicate_succ, Array.replicate_zero, List.push_toArray, List.append_toArray, List.nil_append, List.cons_append]
  refine exec_seq (exec_region_o fun ds => ?_)
  gi_wp2
  refine eq_mk ((Keep.refl w).alloc _) ?_
  show Exec _ _ (Code.seq _ _) _ (w.alloc (.cells #[iv f, iv s, vi lo, vi hi] 166)) _
  have hB := (Below.refl w.heap.size w).alloc (Nat.le_refl _) (.cells #[iv f, iv s, vi lo, vi hi] 166)
  have h8 : (w.alloc (.cells #[iv f, iv s, vi lo, vi hi] 166)).heap[w.heap.size]? = some (.cells #[iv f, iv s, vi lo, vi hi] 166 (0, 0)) := World.alloc_heap_new _ _
  have hbX : PgB (w.alloc (.cells #[iv f, iv s, vi lo, vi hi] 166)) b a := heap_next hb _
  generalize w.alloc (.cells #[iv f, iv s, vi lo, vi hi] 166) = X at *
  have c0 := cells_get (cs := [_, _, _, _]) (k := 0) h8 rfl
  have p0 := cells_get (cs := [_, _, _]) (k := 0) hbX rfl
  have p1 := cells_get (cs := [_, _, _]) (k := 1) hbX rfl
  have p2 := cells_get (cs := [_, _, _]) (k := 2) hbX rfl
  refine exec_seq (exec_region_o fun ds => ?_)
  gi_wp2_with fail
  refine ⟨trivial, rfl, (callsIn_wide.2 (isPeg81 a f hf h4 X)).mono ?_⟩
  rintro e Y ⟨rfl, hy⟩
  have hBY := hB.trans (hy.mono hB.size)
  have h9 := (hy.block _ (heap_lt h8)).trans h8
  have hbY : PgB Y b a := (hy.block _ (heap_lt hbX)).trans hbX
  have d1 := cells_get (cs := [_, _, _, _]) (k := 1) h9 rfl
  have q0 := cells_get (cs := [_, _, _]) (k := 0) hbY rfl
  have q1 := cells_get (cs := [_, _, _]) (k := 1) hbY rfl
  have q2 := cells_get (cs := [_, _, _]) (k := 2) hbY rfl
  clear c0 p0 p1 p2
  gi_wp2_with fail
  refine ⟨trivial, rfl, (callsIn_wide.2 (isPeg81 a s hs h4 Y)).mono ?_⟩
  rintro e Z ⟨rfl, hz⟩
  have hBZ := hBY.trans (hz.mono hBY.size)
  have h10 := (hz.block _ (heap_lt h9)).trans h9
  have e0 := cells_get (cs := [_, _, _, _]) (k := 0) h10 rfl
  have e1 := cells_get (cs := [_, _, _, _]) (k := 1) h10 rfl
  have e2 := cells_get (cs := [_, _, _, _]) (k := 2) h10 rfl
  have e3 := cells_get (cs := [_, _, _, _]) (k := 3) h10 rfl
  have hneI : ¬ (f : Int) = (s : Int) := hne
  clear d1 q0 q1 q2
  gi_wp2_with fail
  refine ⟨trivial, rfl, (callsIn_wide.2 (isSpan106 lo hi 30 hl.lo hl.hi hl.h30 Z)).mono ?_⟩
  rintro e U ⟨rfl, hu⟩
  have hBU := hBZ.trans (hu.mono hBZ.size)
  gi_wp2
  refine eq_mk (((Keep.of_below hy).trans (Keep.of_below hz)).trans (Keep.of_below hu)) ?_
  exact exec_ret ⟨.inr rfl, fun W' hG => ⟨.bool false, by simp [results, Try.f108, go_sem, hne], rfl, hBU.trans (hG.below (Nat.le_refl _) hBU.size)⟩⟩
def Ix114 (w : World) (A : Option Addr) (c : Nat) (P : List P4) (g : Value) (m : Nat) (t : Array Value) (W : World) : Prop :=
  ∃ k : Nat, k ≤ P.length ∧ m = P.length - k ∧ Below w.heap.size w W ∧ Slots [some (.slice A P.length c), some (g), none, none, none, none, some (.slice A P.length c), some (iv P.length), some (iv k), none, none, none, none, none, none, none, none, none, none] t
set_option maxRecDepth 100000 in
set_option maxHeartbeats 1000000 in
theorem index114 (A : Option Addr) (c : Nat) (P : List P4) (hl : P.length ≤ 100) (gf : Nat) (gc : Array Value) (hgf : ∀ args w, (callFunc gf args).run Try.prog w = .ok (.enter gf args) w) (w : World) (hr : RowQ w A P) (hg : ∀ p ∈ P, ∀ W, Below w.heap.size w W → Calls Try.prog gf (#[.agg #[vi p.1, vi p.2.1, vi p.2.2.1, vi p.2.2.2]] ++ gc) W fun e W' => e = .returned (.bool false) ∧ Below W.heap.size W W') : Calls Try.prog 114 #[.slice A P.length c, .func (.func gf) #[] gc] w fun e w' => e = .returned (vi (-1)) ∧ Below w.heap.size w w' := by
  have hu65 := Try.underlying65
  have hu70 := Try.underlying70
  refine calls_of_exec Try.func114 rfl ?_
  simp only [Try.ntmps114, List.size_toArray, List.length_cons, List.length_nil, Nat.reduceAdd, Nat.reduceSub, Array.replicate_succ, Array.replicate_zero, List.push_toArray, List.append_toArray, List.nil_append, List.cons_append]
  refine exec_seq (exec_region_o fun ds => ?_)
  gi_wp2
  refine eq_mk (Keep.refl _) ?_
  show Exec _ _ (Code.seq (Code.seq _ _) _) _ _ _
  refine exec_seq (exec_seq (exec_region_o fun ds => ?_))
  gi_wp2
  refine eq_mk (Keep.refl _) ?_
  show Exec _ _ (Code.block _ _) _ _ _
  refine exec_block ?_
  refine exec_loop (Ix114 w A c P (.func (.func gf) #[] gc)) P.length ⟨0, by omega, rfl, Below.refl _ _, by simp [Slots, Fits]⟩ ?_
  rintro m t W ⟨k, hk, hm, hB, hSl⟩
  have HM := Lib.hid hm
  have HG := Lib.hid hg
  clear hm hg
  obtain ⟨x, hx⟩ := Slots.open_ hSl; simp only [fill, Nat.reduceAdd] at hx; subst hx; clear hSl
  show Exec _ _ (Code.seq _ (Code.seq _ _)) _ _ _
  refine exec_seq (exec_region_o fun ds => ?_)
  gi_wp2
  refine eq_mk (Keep.refl _) ?_
  show Exec _ _ (Code.seq (Code.cond _ _ _) _) _ _ _
  refine exec_seq (exec_cond (b := decide (k < P.length)) (by first | rfl | (show Value.bool _ = _; congr 1; exact decide_eq_decide.2 (by omega))) (fun hp => exec_skip ?_) (fun hp => exec_exit ?_))
  · have hkl : k < P.length := of_decide_eq_true hp
    have hkI : (k : Int) < P.length := by omega
    obtain ⟨ad, hA, c0, c1, c2, c3⟩ := (hr.below hB) k _ (List.getElem?_eq_getElem hkl)
    have hcall := HG.out _ (List.getElem_mem hkl) W hB
    generalize P[k] = p at *
    obtain ⟨p0, p1, p2, p3⟩ := p
    simp only at c0 c1 c2 c3 hcall
    subst hA
    have hw : IntKind.i64.wrap ((k : Int) + 1) = ((k + 1 : Nat) : Int) := by rw [IntWalk.i64_in _ (by omega)]; norm_cast
    show Exec _ _ (Code.seq (Code.block _ _) _) _ _ _
    refine exec_seq (exec_block (exec_seq (exec_region_o fun ds => ?_)))
    gi_wp2
    refine eq_mk (Keep.refl _) ?_
    show Exec _ _ (Code.seq _ _) _ _ _
    refine exec_seq (exec_region_o fun ds => ?_)
    gi_wp2_with fail

    refine ⟨trivial, rfl, (callsIn_wide.2 hcall).mono ?_⟩
    rintro e Z ⟨rfl, hz⟩
    have hBZ := hB.trans (hz.mono hB.size)
    clear hcall c0 c1 c2 c3
    gi_wp2
    refine eq_mk (Keep.of_below hz) ?_
    show Exec _ _ (Code.cond _ _ _) _ _ _
    refine exec_cond (b := false) rfl (fun h => by cases h) (fun _ => exec_skip ?_)
    show Exec _ _ (Code.region _ _ _) _ _ _
    refine exec_region_o fun ds => ?_
    gi_wp2
    refine eq_mk (Keep.refl _) ?_
    exact ⟨m - 1, by have := HM.out; omega, k + 1, by omega, by have := HM.out; omega, hBZ, by simp [Slots, Fits]; try omega⟩
  · show Exec _ _ (Code.seq _ _) _ _ _
    refine exec_seq (exec_region_o fun ds => ?_)
    gi_wp2
    refine eq_mk (Keep.refl _) ?_
    exact exec_ret ⟨.inr rfl, fun W' hG => ⟨vi (-1), by simp [results, Try.f114, go_sem], rfl, hB.trans (hG.below (Nat.le_refl _) hB.size)⟩⟩
theorem contains109 (A : Option Addr) (c : Nat) (P : List P4) (hl : P.length ≤ 100) (gf : Nat) (gc : Array Value) (hgf : ∀ args w, (callFunc gf args).run Try.prog w = .ok (.enter gf args) w) (w : World) (hr : RowQ w A P) (hg : ∀ p ∈ P, ∀ W, Below w.heap.size w W → Calls Try.prog gf (#[.agg #[vi p.1, vi p.2.1, vi p.2.2.1, vi p.2.2.2]] ++ gc) W fun e W' => e = .returned (.bool false) ∧ Below W.heap.size W W') : Calls Try.prog 109 #[.slice A P.length c, .func (.func gf) #[] gc] w fun e w' => e = .returned (.bool false) ∧ Below w.heap.size w w' := by
  refine calls_of_exec Try.func109 rfl ?_
  simp only [Try.ntmps109, List.size_toArray, List.length_cons, List.length_nil, Nat.reduceAdd, Nat.reduceSub, Array.replicate_succ, Array.replicate_zero, List.push_toArray, List.append_toArray, List.nil_append, List.cons_append]
  have hcall := index114 A c P hl gf gc hgf w hr hg
  clear hg hgf
  refine exec_seq (exec_region_o fun ds => ?_)
  gi_wp2
  refine eq_mk (Keep.refl _) ?_
  show Exec _ _ (Code.seq _ _) _ _ _
  refine exec_seq (exec_region_o fun ds => ?_)
  gi_wp2_with fail
  refine ⟨trivial, rfl, (callsIn_wide.2 (hcall)).mono ?_⟩
  rintro e Y ⟨rfl, hy⟩
  gi_wp2
  refine eq_mk (Keep.of_below hy) ?_
  exact exec_ret ⟨.inr rfl, fun W' hG => ⟨.bool false, by simp [results, Try.f109, go_sem], rfl, hy.trans (hG.below (Nat.le_refl _) hy.size)⟩⟩
def Ix115 (w : World) (A : Option Addr) (c : Nat) (P : List P4) (g : Value) (m : Nat) (t : Array Value) (W : World) : Prop :=
  ∃ k : Nat, k ≤ P.length ∧ m = P.length - k ∧ Below w.heap.size w W ∧ Slots [some (.slice A P.length c), some (g), none, none, none, none, some (.slice A P.length c), some (iv P.length), some (iv k), none, none, none, none, none, none, none, none, none, none] t
set_option maxRecDepth 100000 in
set_option maxHeartbeats 1000000 in
theorem index115 (A : Option Addr) (c : Nat) (P : List P4) (hl : P.length ≤ 100) (gf : Nat) (gc : Array Value) (hgf : ∀ args w, (callFunc gf args).run Try.prog w = .ok (.enter gf args) w) (w : World) (hr : RowQ w A P) (hg : ∀ p ∈ P, ∀ W, Below w.heap.size w W → Calls Try.prog gf (#[.agg #[vi p.1, vi p.2.1, vi p.2.2.1, vi p.2.2.2]] ++ gc) W fun e W' => e = .returned (.bool false) ∧ Below W.heap.size W W') : Calls Try.prog 115 #[.slice A P.length c, .func (.func gf) #[] gc] w fun e w' => e = .returned (vi (-1)) ∧ Below w.heap.size w w' := by
  have hu66 := Try.underlying66
  have hu166 := Try.underlying166
  refine calls_of_exec Try.func115 rfl ?_
  simp only [Try.ntmps115, List.size_toArray, List.length_cons, List.length_nil, Nat.reduceAdd, Nat.reduceSub, Array.replicate_succ, Array.replicate_zero, List.push_toArray, List.append_toArray, List.nil_append, List.cons_append]
  refine exec_seq (exec_region_o fun ds => ?_)
  gi_wp2
  refine eq_mk (Keep.refl _) ?_
  show Exec _ _ (Code.seq (Code.seq _ _) _) _ _ _
  refine exec_seq (exec_seq (exec_region_o fun ds => ?_))
  gi_wp2
  refine eq_mk (Keep.refl _) ?_
  show Exec _ _ (Code.block _ _) _ _ _
  refine exec_block ?_
  refine exec_loop (Ix115 w A c P (.func (.func gf) #[] gc)) P.length ⟨0, by omega, rfl, Below.refl _ _, by simp [Slots, Fits]⟩ ?_
  rintro m t W ⟨k, hk, hm, hB, hSl⟩
  have HM := Lib.hid hm
  have HG := Lib.hid hg
  clear hm hg
  obtain ⟨x, hx⟩ := Slots.open_ hSl; simp only [fill, Nat.reduceAdd] at hx; subst hx; clear hSl
  show Exec _ _ (Code.seq _ (Code.seq _ _)) _ _ _
  refine exec_seq (exec_region_o fun ds => ?_)
  gi_wp2
  refine eq_mk (Keep.refl _) ?_
  show Exec _ _ (Code.seq (Code.cond _ _ _) _) _ _ _
  refine exec_seq (exec_cond (b := decide (k < P.length)) (by first | rfl | (show Value.bool _ = _; congr 1; exact decide_eq_decide.2 (by omega))) (fun hp => exec_skip ?_) (fun hp => exec_exit ?_))
  · have hkl : k < P.length := of_decide_eq_true hp
    have hkI : (k : Int) < P.length := by omega
    obtain ⟨ad, hA, c0, c1, c2, c3⟩ := (hr.below hB) k _ (List.getElem?_eq_getElem hkl)
    have hcall := HG.out _ (List.getElem_mem hkl) W hB
    generalize P[k] = p at *
    obtain ⟨p0, p1, p2, p3⟩ := p
    simp only at c0 c1 c2 c3 hcall
    subst hA
    have hw : IntKind.i64.wrap ((k : Int) + 1) = ((k + 1 : Nat) : Int) := by rw [IntWalk.i64_in _ (by omega)]; norm_cast
    show Exec _ _ (Code.seq (Code.block _ _) _) _ _ _
    refine exec_seq (exec_block (exec_seq (exec_region_o fun ds => ?_)))
    gi_wp2
    refine eq_mk (Keep.refl _) ?_
    show Exec _ _ (Code.seq _ _) _ _ _
    refine exec_seq (exec_region_o fun ds => ?_)
    gi_wp2_with fail

    refine ⟨trivial, rfl, (callsIn_wide.2 hcall).mono ?_⟩
    rintro e Z ⟨rfl, hz⟩
    have hBZ := hB.trans (hz.mono hB.size)
    clear hcall c0 c1 c2 c3
    gi_wp2
    refine eq_mk (Keep.of_below hz) ?_
    show Exec _ _ (Code.cond _ _ _) _ _ _
    refine exec_cond (b := false) rfl (fun h => by cases h) (fun _ => exec_skip ?_)
    show Exec _ _ (Code.region _ _ _) _ _ _
    refine exec_region_o fun ds => ?_
    gi_wp2
    refine eq_mk (Keep.refl _) ?_
    exact ⟨m - 1, by have := HM.out; omega, k + 1, by omega, by have := HM.out; omega, hBZ, by simp [Slots, Fits]; try omega⟩
  · show Exec _ _ (Code.seq _ _) _ _ _
    refine exec_seq (exec_region_o fun ds => ?_)
    gi_wp2
    refine eq_mk (Keep.refl _) ?_
    exact exec_ret ⟨.inr rfl, fun W' hG => ⟨vi (-1), by simp [results, Try.f115, go_sem], rfl, hB.trans (hG.below (Nat.le_refl _) hB.size)⟩⟩
theorem contains110 (A : Option Addr) (c : Nat) (P : List P4) (hl : P.length ≤ 100) (gf : Nat) (gc : Array Value) (hgf : ∀ args w, (callFunc gf args).run Try.prog w = .ok (.enter gf args) w) (w : World) (hr : RowQ w A P) (hg : ∀ p ∈ P, ∀ W, Below w.heap.size w W → Calls Try.prog gf (#[.agg #[vi p.1, vi p.2.1, vi p.2.2.1, vi p.2.2.2]] ++ gc) W fun e W' => e = .returned (.bool false) ∧ Below W.heap.size W W') : Calls Try.prog 110 #[.slice A P.length c, .func (.func gf) #[] gc] w fun e w' => e = .returned (.bool false) ∧ Below w.heap.size w w' := by
  refine calls_of_exec Try.func110 rfl ?_
  simp only [Try.ntmps110, List.size_toArray, List.length_cons, List.length_nil, Nat.reduceAdd, Nat.reduceSub, Array.replicate_succ, Array.replicate_zero, List.push_toArray, List.append_toArray, List.nil_append, List.cons_append]
  have hcall := index115 A c P hl gf gc hgf w hr hg
  clear hg hgf
  refine exec_seq (exec_region_o fun ds => ?_)
  gi_wp2
  refine eq_mk (Keep.refl _) ?_
  show Exec _ _ (Code.seq _ _) _ _ _
  refine exec_seq (exec_region_o fun ds => ?_)
  gi_wp2_with fail
  refine ⟨trivial, rfl, (callsIn_wide.2 (hcall)).mono ?_⟩
  rintro e Y ⟨rfl, hy⟩
  gi_wp2
  refine eq_mk (Keep.of_below hy) ?_
  exact exec_ret ⟨.inr rfl, fun W' hG => ⟨.bool false, by simp [results, Try.f110, go_sem], rfl, hy.trans (hG.below (Nat.le_refl _) hy.size)⟩⟩
set_option maxRecDepth 100000 in
set_option maxHeartbeats 1000000 in
theorem isPegs99 (a : Pg) (ho : a.Ok) (w : World) (ha : a.At w) : Calls Try.prog 99 #[a.val] w fun e w' => e = .returned (.bool true) ∧ Below w.heap.size w w' := by
  have hu68 := Try.underlying68
  have hmf : ∀ fn first cap w, (Instr.makeFunc fn first cap).run Try.prog w = .ok (.func fn first cap) w := fun _ _ _ _ => rfl
  have hs15 := ho.s1
  have hp4 := ho.pl
  have hl6 := ho.ll
  refine calls_of_exec Try.func99 rfl ?_
  simp only [Try.ntmps99, List.size_toArray, List.length_cons, List.length_nil, Nat.reduceAdd, Nat.reduceSub, Array.replicate_succ, Array.replicate_zero, List.push_toArray, List.append_toArray, List.nil_append, List.cons_append]
  simp only [Pg.val]
  refine exec_seq (exec_region_o fun ds => ?_)
  gi_wp2
  refine eq_mk ((Keep.refl w).alloc _) ?_
  show Exec _ _ _ _ (w.alloc (.cells #[vi a.side, a.sP, a.sL] 68)) _
  have hB := (Below.refl w.heap.size w).alloc (Nat.le_refl _) (.cells #[vi a.side, a.sP, a.sL] 68)
  have h0 : PgB (w.alloc (.cells #[vi a.side, a.sP, a.sL] 68)) w.heap.size a := World.alloc_heap_new _ _
  have hsX : (w.alloc (.cells #[vi a.side, a.sP, a.sL] 68)).heap.size = w.heap.size + 1 := by simp
  generalize w.alloc (.cells #[vi a.side, a.sP, a.sL] 68) = X at *
  refine exec_seq (exec_region_o fun ds => ?_)
  gi_wp2
  refine eq_mk ((Keep.refl _).alloc _) ?_
  have b1 : (X.alloc (.cells #[.func (.func 105) #[] #[.pointer (some ⟨w.heap.size, 0, none⟩)]] 168)).heap[w.heap.size + 1]? = some (.cells #[.func (.func 105) #[] #[.pointer (some ⟨w.heap.size, 0, none⟩)]] 168 (0, 0)) := by
    have := World.alloc_heap_new X (.cells #[.func (.func 105) #[] #[.pointer (some ⟨w.heap.size, 0, none⟩)]] 168)
    rwa [hsX] at this
  have b0 := heap_next h0 (.cells #[.func (.func 105) #[] #[.pointer (some ⟨w.heap.size, 0, none⟩)]] 168)
  have hB1 := hB.alloc hB.size (.cells #[.func (.func 105) #[] #[.pointer (some ⟨w.heap.size, 0, none⟩)]] 168)
  show Exec _ _ (Code.seq _ _) _ (X.alloc (.cells #[.func (.func 105) #[] #[.pointer (some ⟨w.heap.size, 0, none⟩)]] 168)) _
  try rw [hsX]
  clear hsX h0 hB
  generalize X.alloc (.cells #[.func (.func 105) #[] #[.pointer (some ⟨w.heap.size, 0, none⟩)]] 168) = Y at *
  clear X
  refine exec_seq (exec_region_o fun ds => ?_)
  gi_wp2
  refine eq_mk (Keep.refl _) ?_
  show Exec _ _ (Code.seq _ _) _ _ _
  refine exec_seq (exec_region_o fun ds => ?_)
  gi_wp2
  refine eq_mk (Keep.refl _) ?_
  show Exec _ _ (Code.seq _ _) _ _ _
  replace b0 : PgB Y w.heap.size a := b0
  have hh := b0
  simp only [PgB, Pg.sP, Pg.sL] at hh
  have c0 := cells_get (cs := [_, _, _]) (k := 0) hh rfl
  clear hh
  have hin : inB a.side 0 15 = true := by unfold inB; have := ho.s0; rw [decide_eq_true (by omega), decide_eq_true (by omega)]; rfl
  have hcall := within100 a.side 0 15 Y
  rw [hin] at hcall
  have hp4I : (a.P.length : Int) ≤ 4 := by omega
  have hl6I : (a.L.length : Int) ≤ 6 := by omega
  refine exec_seq (exec_region_o fun ds => ?_)
  gi_wp2_with fail
  refine ⟨trivial, rfl, (callsIn_wide.2 (hcall)).mono ?_⟩
  rintro e Z ⟨rfl, hz⟩
  have z0 : PgB Z w.heap.size a := (hz.block _ (heap_lt b0)).trans b0
  have z1 := (hz.block _ (heap_lt b1)).trans b1
  have hBZ := hB1.trans (hz.mono hB1.size)
  have hh := z0
  simp only [PgB, Pg.sP, Pg.sL] at hh
  have d1 := cells_get (cs := [_, _, _]) (k := 1) hh rfl
  have d2 := cells_get (cs := [_, _, _]) (k := 2) hh rfl
  clear hh hcall c0
  gi_wp2
  refine eq_mk (Keep.of_below hz) ?_
  clear hz b0 b1 hB1
  clear Y
  have haZ := ha.below hBZ
  have hcall := contains109 a.AP a.cP a.P (by omega) 107 #[.pointer (some ⟨w.heap.size + 1, 0, none⟩)] (fun _ _ => rfl) Z haZ.p (fun p hp W hW => bad107 a w.heap.size (w.heap.size + 1) p (ho.ps p hp) hs15 W ((hW.block _ (heap_lt z0)).trans z0) ((hW.block _ (heap_lt z1)).trans z1))
  show Exec _ _ (Code.seq _ _) _ _ _
  refine exec_seq (exec_region_o fun ds => ?_)
  gi_wp2_with fail
  refine ⟨trivial, rfl, (callsIn_wide.2 (hcall)).mono ?_⟩
  rintro e U ⟨rfl, hu⟩
  have u0 : PgB U w.heap.size a := (hu.block _ (heap_lt z0)).trans z0
  have hBU := hBZ.trans (hu.mono hBZ.size)
  have hh := u0
  simp only [PgB, Pg.sP, Pg.sL] at hh
  have e2 := cells_get (cs := [_, _, _]) (k := 2) hh rfl
  clear hh hcall d1 d2
  have hcall := contains110 a.AL a.cL a.L (by omega) 108 #[.pointer (some ⟨w.heap.size, 0, none⟩)] (fun _ _ => rfl) U (ha.below hBU).l (fun p hp W hW => bad108 a w.heap.size p (ho.ls p hp) hp4 W ((hW.block _ (heap_lt u0)).trans u0))
  gi_wp2_with fail
  refine ⟨trivial, rfl, (callsIn_wide.2 (hcall)).mono ?_⟩
  rintro e V ⟨rfl, hv⟩
  have hBV := hBU.trans (hv.mono hBU.size)
  gi_wp2
  refine eq_mk ((Keep.of_below hu).trans (Keep.of_below hv)) ?_
  exact exec_ret ⟨.inr rfl, fun W' hG => ⟨.bool true, by simp [results, Try.f99, go_sem], rfl, hBV.trans (hG.below (Nat.le_refl _) hBV.size)⟩⟩
end Go.Proofs.Ytafmgmaelnpehaa.Tp
end

section
namespace Go.Fu
def ints (lo : Int) (n : Nat) : List Int := (List.range n).map fun (k : Nat) => lo + (k : Int)
theorem ints_len (lo : Int) (n : Nat) : (ints lo n).length = n := by simp [ints]
theorem ints_get (lo : Int) (n k : Nat) (h : k < (ints lo n).length) : (ints lo n)[k]'h = lo + (k : Int) := by simp [ints]
def bendI (a b c : Int) : Int := if 0 ≤ 2 * b - a - c then 2 * b - a - c else -(2 * b - a - c)
theorem bendI_bd (a b c : Int) (ha : -1000 ≤ a ∧ a ≤ 1000) (hb : -1000 ≤ b ∧ b ≤ 1000) (hc : -1000 ≤ c ∧ c ≤ 1000) : 0 ≤ bendI a b c ∧ bendI a b c ≤ 4000 := by unfold bendI; split <;> omega
def spanL (s : Int × Int) : List Int := ints s.1 (s.2 + 1 - s.1).toNat
def okSpan (s : Int × Int) : Prop := -1000 ≤ s.1 ∧ s.1 ≤ s.2 ∧ s.2 ≤ 1000
theorem spanL_get (s : Int × Int) (h : okSpan s) (k : Nat) (hk : k < (spanL s).length) : -1000 ≤ (spanL s)[k]'hk ∧ (spanL s)[k]'hk ≤ 1000 := by
  obtain ⟨h1, h2, h3⟩ := h
  unfold spanL at *
  rw [ints_get]
  rw [ints_len] at hk
  omega
theorem mem_spanL (s : Int × Int) (x : Int) : x ∈ spanL s ↔ s.1 ≤ x ∧ x ≤ s.2 := by
  unfold spanL ints
  rw [List.mem_map]
  constructor
  · rintro ⟨k, hk, rfl⟩
    rw [List.mem_range] at hk
    omega
  · rintro ⟨h1, h2⟩
    exact ⟨(x - s.1).toNat, by rw [List.mem_range]; omega, by omega⟩
def step1 (st : Bool × Int × Int) (n : Int) : Bool × Int × Int := (true, if st.1 then (if n < st.2.1 then n else st.2.1, if st.2.2 < n then n else st.2.2) else (n, n))
def stC (a b : Int) (C : List Int) (st : Bool × Int × Int) : Bool × Int × Int := C.foldl (fun st c => step1 st (bendI a b c)) st
def stB (a : Int) (B C : List Int) (st : Bool × Int × Int) : Bool × Int × Int := B.foldl (fun st b => stC a b C st) st
def stA (A B C : List Int) (st : Bool × Int × Int) : Bool × Int × Int := A.foldl (fun st a => stB a B C st) st
def atF (l : List (Int × Int)) (s : Nat) : Int × Int := (stA (spanL (l.getD (s - 1) (0, 0))) (spanL (l.getD s (0, 0))) (spanL (l.getD (s + 1) (0, 0))) (false, 0, 0)).2

def Reach (l : List (Int × Int)) (p : Int → Int → Bool) : Nat → Int × Int → Prop
  | 0, _ => False
  | 1, x => x.1 ∈ spanL (l.getD 0 (0, 0)) ∧ x.2 ∈ spanL (l.getD 1 (0, 0))
  | n + 2, x => x.2 ∈ spanL (l.getD (n + 2) (0, 0)) ∧ ∃ a, Reach l p (n + 1) (a, x.1) ∧ p ((n : Int) + 1) (bendI a x.1 x.2) = true
def canP (l : List (Int × Int)) (p : Int → Int → Bool) : Prop := l.length < 3 ∨ ∃ x, Reach l p (l.length - 1) x
open Classical in
noncomputable def canB (l : List (Int × Int)) (p : Int → Int → Bool) : Bool := decide (canP l p)

def ins {κ : Type} [DecidableEq κ] (ks : List κ) (x : κ) : List κ := if x ∈ ks then ks else ks ++ [x]
theorem mem_ins {κ : Type} [DecidableEq κ] (ks : List κ) (x y : κ) : y ∈ ins ks x ↔ y ∈ ks ∨ y = x := by
  unfold ins
  split
  · rename_i h
    constructor
    · exact .inl
    · rintro (h' | rfl)
      · exact h'
      · exact h
  · simp
end Go.Fu
end

section
namespace Go.Proofs.Ytafmgmaelnpehaa.Tp
open Go.RowKit Go.TL Go.Shelf
attribute [local go_sem] Oper.semAt_some
attribute [local go_sem] run_store_func
theorem wpListIn_app {F : Fence} {nF : Nat} {P : Program} {ops : Array Oper} {rest : List Oper} {o : Oper} {a : Act} {Q : Exit → Act → World → Prop} {w : World} (hgd : o.guard = none) (s y : Operand) (t : TypeId) (ho : o.op = .call { callee := .builtin .append, args := #[s, y], argTypes := #[t, t] }) {v xv v' : Value} {w' : World} (hs : a.eval s = v) (hx : a.eval y = xv)
    (hr : (Builtin.append_ #[t, t] o.type #[v, xv]).run P w = .ok v' w') (h : wpListIn F nF P ops Q rest (a.put o.dst v') w') : wpListIn F nF P ops Q (o :: rest) a w := by
  refine wpListIn_plain hgd fun K hK => ?_
  unfold Oper.wpIn
  refine ⟨by simp [Oper.about, ho, resolve, Target.leads, Sem.run_pure], ?_⟩
  rw [Oper.semAt_plain F _ _ (by rw [ho]; intro c hc'; cases hc')]
  simp [execOp, ho, resolve, invoke, builtin, hs, hx, hr, Result.andThen]
  exact hK _ _ h
theorem exec_append {P : Program} {a : Act} {w w' : World} {v xv v' : Value} {o : Oper} (s y : Operand) (t : TypeId) (ho : o.op = .call { callee := .builtin .append, args := #[s, y], argTypes := #[t, t] }) (hs : a.eval s = v) (hx : a.eval y = xv)
    (hr : (Builtin.append_ #[t, t] o.type #[v, xv]).run P w = .ok v' w') : (execOp a.eval o).run P w = .ok (.value v') w' := by
  unfold execOp
  simp only [ho, resolve, invoke, builtin, Sem.run_bind, Sem.run_pure, Result.andThen_ok, List.map_toArray, List.map_cons, List.map_nil, hs, hx, hr]
theorem laidOutT : laidOutB Try.prog = true := by kernel_rfl
theorem keyed113 : Go.Maps.Keyed Try.prog 113 := Go.Maps.Keyed.of_law (deep_law_laid (m := 9) laidOutT (by decide) (of_decide_eq_true (by kernel_rfl)) (by kernel_rfl) (by kernel_rfl))
theorem key113 (a b : Int) (ha : (Lit.int .i64 a).wf = true) (hb : (Lit.int .i64 b).wf = true) : ∃ l, keyOf Try.prog 113 (.agg #[.int .i64 a, .int .i64 b]) = some l := by
  have h1 : Try.prog.keyType 113 = true := by kernel_rfl
  have h2 : Try.prog.cellsOf 113 = 2 := by kernel_rfl
  have h4 : Try.prog.cellsOf 3 = 1 := by kernel_rfl
  obtain ⟨n, hn⟩ : ∃ n, Try.prog.types.size = n + 2 := ⟨Try.prog.types.size - 2, by have : 2 ≤ Try.prog.types.size := of_decide_eq_true (by kernel_rfl); omega⟩
  have u3 : Try.prog.underlying 3 = some (.int .i64) := Try.underlying3
  simp [keyOf, Try.underlying113, h1, h2, Value.formed, hn, Value.cells]
  simp [Program.keyLits, Try.underlying113, u3, h2, h4, ha, hb]
def encP (x : Int × Int) : Value := .agg #[.int .i64 x.1, .int .i64 x.2]
def okK (x : Int × Int) : Prop := (-1000 ≤ x.1 ∧ x.1 ≤ 1000) ∧ (-1000 ≤ x.2 ∧ x.2 ≤ 1000)
theorem keyP : KeyEnc Try.prog 113 encP okK where
  keyed := keyed113
  lit x h := key113 _ _ (WalkArith.wf_i64 (by have := h.1; omega)) (WalkArith.wf_i64 (by have := h.2; omega))
  inj x y h := by
    unfold encP at h
    simp at h
    exact Prod.ext h.1 h.2
def SetP (W : World) (b : Nat) (ks : List (Int × Int)) : Prop := MapR encP okK W b (ks.map fun x => (x, .bool true))
theorem put_setP (ks : List (Int × Int)) (x : Int × Int) : put (ks.map fun x => (x, Value.bool true)) x (.bool true) = (Go.Fu.ins ks x).map fun x => (x, .bool true) := by
  have e : (ks.map fun x => (x, Value.bool true)).map (·.1) = ks := by rw [List.map_map]; exact List.map_id'' (fun _ => rfl) ks
  unfold put Go.Fu.ins
  rw [e]
  split
  · rw [List.map_map]
    refine List.map_congr_left fun y _ => ?_
    simp only [Function.comp]
    split
    · rename_i h; rw [← h]
    · rfl
  · simp
theorem at_setP (ks : List (Int × Int)) (x : Int × Int) : (at? (ks.map fun x => (x, Value.bool true)) x).getD (.bool false) = .bool (decide (x ∈ ks)) := by
  have e : (ks.map fun x => (x, Value.bool true)).map (·.1) = ks := by rw [List.map_map]; exact List.map_id'' (fun _ => rfl) ks
  by_cases h : x ∈ ks
  · unfold at?
    cases hf : (ks.map fun x => (x, Value.bool true)).find? (fun p => decide (p.1 = x)) with
    | none =>
      have := List.find?_eq_none.1 hf (x, .bool true) (List.mem_map.2 ⟨x, h, rfl⟩)
      simp at this
    | some q =>
      obtain ⟨y, _, rfl⟩ := List.mem_map.1 (List.mem_of_find?_eq_some hf)
      simp [h]
  · rw [at_none (by rw [e]; exact h)]
    simp [h]
theorem zero_bool (W : World) : (zeroValue 4).run Try.prog W = .ok (.bool false) W := by
  have h : (Try.prog.info? 4).map (fun i => i.zero) = some (some (.bool false)) := by kernel_rfl
  cases e : Try.prog.info? 4 with
  | none => rw [e] at h; cases h
  | some i0 =>
    rw [e] at h
    have hz : i0.zero = some (.bool false) := Option.some.inj h
    simp [zeroValue, typeInfo, go_sem, e, hz]
def MapF (W : World) (b : Nat) (F : Int × Int → Prop) : Prop := ∃ ks, SetP W b ks ∧ ∀ x, x ∈ ks ↔ F x
theorem MapF.lt {W : World} {b : Nat} {F : Int × Int → Prop} (h : MapF W b F) : b < W.heap.size := by obtain ⟨ks, h, _⟩ := h; exact MapR.lt h
theorem MapF.same {W W' : World} {b : Nat} {F : Int × Int → Prop} (h : MapF W b F) (hb : W'.heap[b]? = W.heap[b]?) : MapF W' b F := by
  obtain ⟨ks, h, h2⟩ := h
  exact ⟨ks, MapR.kept h hb, h2⟩
theorem MapF.below {W W' : World} {b : Nat} {F : Int × Int → Prop} (h : MapF W b F) (hB : Below W.heap.size W W') : MapF W' b F := h.same (hB.block _ h.lt)
theorem MapF.lookup {W : World} {b : Nat} {F : Int × Int → Prop} [DecidablePred F] (h : MapF W b F) {x y : Int} (hx : okK (x, y)) : (Instr.lookup 154 (.map (some b)) (.agg #[vi x, vi y]) false).run Try.prog W = .ok (.bool (decide (F (x, y)))) W := by
  obtain ⟨ks, h, h2⟩ := h
  have hz : (zeroValue 4).run Try.prog W = .ok (.bool false) W := zero_bool W
  have := MapR.lookup h keyP Try.underlying154 hz hx false
  rw [at_setP] at this
  rw [show encP (x, y) = .agg #[vi x, vi y] from rfl] at this
  rw [this]
  simp only [Bool.false_eq_true, if_false]
  rw [decide_eq_decide.2 (h2 (x, y))]
theorem info154 : ∃ i0, Try.prog.info? 154 = some i0 ∧ i0.zero = some (.map none) ∧ i0.size = 1 ∧ i0.bytes = 8 := by
  have h : (Try.prog.info? 154).map (fun i => (i.zero, i.size, i.bytes)) = some (some (.map none), 1, 8) := by kernel_rfl
  cases e : Try.prog.info? 154 with
  | none => rw [e] at h; cases h
  | some i0 =>
    rw [e] at h
    have := Option.some.inj h
    simp only [Prod.mk.injEq] at this
    exact ⟨i0, rfl, this.1, this.2.1, this.2.2⟩
theorem gb_below {W W' : World} (row : Option Nat) (h : Below W.heap.size W W') : W.grownBy W' row := ⟨h.os, h.tape, h.output, h.size, fun j hj _ => h.block j hj⟩
theorem gb_trans {w W X : World} {f : Option Nat} (h : w.grownBy W f) (k : W.grownBy X f) : w.grownBy X f :=
  ⟨k.os.trans h.os, k.tape.trans h.tape, k.output.trans h.output, Nat.le_trans h.size k.size, fun j hj hne => (k.block j (Nat.lt_of_lt_of_le hj h.size) hne).trans (h.block j hj hne)⟩
theorem map_push {W : World} {base : Nat} {v : Value} {l : List Nat} (ho : W.ownsRow base 154 1 v l.length (l.map fun m => .map (some m))) (m : Nat) (hl : l.length ≤ 1000) (hb : base ≤ W.heap.size) :
    ∃ v' W', (Builtin.append_ #[151, 151] 151 #[v, .slice (some ⟨W.heap.size, 0, none⟩) 1 1]).run Try.prog (W.alloc (.cells #[.map (some m)] 154)) = .ok v' W' ∧ W'.ownsRow base 154 1 v' (l ++ [m]).length ((l ++ [m]).map fun m => .map (some m)) ∧ W.grownBy W' v.ownBlock ∧ Keep W W' ∧ (v'.ownBlock = v.ownBlock ∨ ∃ q, v'.ownBlock = some q ∧ W.heap.size ≤ q) := by
  obtain ⟨i0, hi0, hz0, hz1, hz2⟩ := info154
  have ha := (Below.refl W.heap.size W).alloc (Nat.le_refl _) (.cells #[.map (some m)] 154)
  obtain ⟨v', W', hrun, hown, hg, _, hat⟩ := run_append_own_at (P := Try.prog) (w := W.alloc (.cells #[.map (some m)] 154)) base 151 151 154 i0 (.map none) 1 8 Try.underlying151 hi0 hz0 hz1 hz2 rfl (by decide) v l.length (l.map fun m => .map (some m)) (ho.alloc _) ⟨W.heap.size, 0, none⟩ 1 1 [.map (some m)] rfl (by
    intro j y hj
    match j, hj with
    | 0, hj =>
      cases hj
      exact cells_get (cs := [.map (some m)]) (k := 0) (World.alloc_heap_new _ _) rfl) (by
    intro y hy
    simp at hy
    subst hy
    rfl) (by unfold maxLen; omega) (by omega) (by rw [World.size_alloc]; omega)
  have hgW : W.grownBy W' v.ownBlock := gb_trans (gb_below _ ha) hg
  refine ⟨v', W', hrun, by rw [List.length_append, List.map_append]; simpa using hown, hgW, ?_, ?_⟩
  · refine ((Keep.refl W).alloc _).grown hg fun j o hj ho' => ?_
    rcases ho.2 with ⟨e, _⟩ | ⟨g, cap, cur, e, _, hg', _⟩
    · rw [e] at hj
      simp [Value.ownBlock] at hj
    · rw [e] at hj
      simp only [Value.ownBlock, Option.some.injEq] at hj
      subst hj
      rw [(ha.block _ (heap_lt hg')).trans hg'] at ho'
      cases ho'
      rfl
  · rcases hat with h | h
    · exact .inl h
    · exact .inr ⟨_, h, ha.size⟩
end Go.Proofs.Ytafmgmaelnpehaa.Tp
end

section
namespace Go.Proofs.Ytafmgmaelnpehaa.Tp
open Go.RowKit Go.TL Go.Shelf
attribute [local go_sem] Oper.semAt_some
attribute [local go_sem] run_store_func
theorem only_normal {M : Array Value → World → Prop} {e : Exit} {t : Array Value} {W : World} (h : andThen M (fun _ _ _ => False) e t W) : e = .normal ∧ M t W := by
  cases e <;> first | exact ⟨rfl, h⟩ | exact h.elim
def inPl (p : P4) (x : Int × Int) : Prop := p.1 ≤ x.1 ∧ x.1 ≤ p.2.1 ∧ p.2.2.1 ≤ x.2 ∧ x.2 ≤ p.2.2.2
instance (p : P4) : DecidablePred (inPl p) := fun x => by unfold inPl; infer_instance
structure OpW (w : World) (a : Pg) (pb : Nat) (v : Value) (ms : List Nat) (W : World) : Prop where
  below : Below w.heap.size w W
  b2 : PgB W w.heap.size a
  bp : W.heap[pb]? = some (.cells #[vi a.side, a.sP, a.sL, v] 153 (0, 0))
  hpb : w.heap.size < pb
  own : W.ownsRow (pb + 1) 154 1 v ms.length (ms.map fun m => .map (some m))
  map : ∀ (i : Nat) (p : P4) (m : Nat), a.P[i]? = some p → ms[i]? = some m → pb < m ∧ MapF W m (inPl p)
theorem OpW.keep {w : World} {a : Pg} {pb : Nat} {v : Value} {ms : List Nat} {W Z : World} (h : OpW w a pb v ms W) (hb : Below W.heap.size W Z) : OpW w a pb v ms Z :=
  ⟨h.below.trans (hb.mono h.below.size), (hb.block _ (heap_lt h.b2)).trans h.b2, (hb.block _ (heap_lt h.bp)).trans h.bp, h.hpb, own_grow h.own (Grow.of_below (B := 0) hb), fun i p m hp hm => ⟨(h.map i p m hp hm).1, (h.map i p m hp hm).2.below hb⟩⟩
theorem OpW.off {w : World} {a : Pg} {pb mb : Nat} {v : Value} {ms : List Nat} {W W' : World} (h : OpW w a pb v ms W) (hg : W.grownBy W' (some mb)) (hmb : pb < mb) (hms : mb ∉ ms) (hv : v.ownBlock ≠ some mb) : OpW w a pb v ms W' :=
  ⟨h.below.grown hg h.below.size (fun q e => by cases e; have := h.hpb; omega), (hg.block _ (heap_lt h.b2) (by have := h.hpb; simp; omega)).trans h.b2, (hg.block _ (heap_lt h.bp) (by simp; omega)).trans h.bp, h.hpb, h.own.kept hg (.inr hv), fun i p m hp hm => ⟨(h.map i p m hp hm).1, (h.map i p m hp hm).2.same (hg.block _ (h.map i p m hp hm).2.lt (by simp; rintro rfl; exact hms (List.mem_of_getElem? hm)))⟩⟩
theorem OpW.push {w : World} {a : Pg} {pb : Nat} {v : Value} {ms : List Nat} {W : World} (h : OpW w a pb v ms W) {mb : Nat} {p : P4} (hp : a.P[ms.length]? = some p) (hm : MapF W mb (inPl p)) (hmb : pb < mb) (hl : ms.length ≤ 1000) :
    ∃ v' X, (Builtin.append_ #[151, 151] 151 #[v, .slice (some ⟨W.heap.size, 0, none⟩) 1 1]).run Try.prog (W.alloc (.cells #[.map (some mb)] 154)) = .ok v' X ∧ Keep W X ∧ X.heap[pb]? = some (.cells #[vi a.side, a.sP, a.sL, v] 153 (0, 0)) ∧ OpW w a pb v' (ms ++ [mb]) (X.setCell ⟨pb, 3, none⟩ v') := by
  obtain ⟨v', X, hrun, hown, hg, hK, hv'⟩ := map_push h.own mb hl (heap_lt h.bp)
  have hq : ∀ q, v.ownBlock = some q → pb + 1 ≤ q := fun q e => (h.own.lt q e).1
  have hbk : ∀ j o, j ≤ pb → W.heap[j]? = some o → X.heap[j]? = some o := fun j o hj ho => (hg.block j (heap_lt ho) (fun e => by have := hq j e.symm; omega)).trans ho
  have hmap : ∀ m F, MapF W m F → MapF X m F := fun m F hF => hF.same (hg.block _ hF.lt (fun e => by
    obtain ⟨ks, ⟨es, c, hb, _⟩, _⟩ := hF
    rcases h.own.2 with ⟨e2, _⟩ | ⟨g, cap, cur, e2, _, hg2, _⟩
    · rw [e2] at e
      simp [Value.ownBlock] at e
    · rw [e2] at e
      simp only [Value.ownBlock, Option.some.injEq] at e
      subst e
      rw [hb] at hg2
      cases hg2))
  have hX := hbk _ _ (Nat.le_refl _) h.bp
  have hpb := h.hpb
  refine ⟨v', X, hrun, hK, hX, ⟨(h.below.grown hg h.below.size (fun q e => by have := hq q e; omega)).setCell (by show w.heap.size ≤ pb; omega) _, box_far _ _ _ _ _ _ (hbk _ _ (by omega) h.b2) (by omega), box_set _ _ 3 [_, _, _, _] 153 _ hX, hpb, own_other hown (Nat.lt_succ_self _), fun i p' m hp' hm' => ?_⟩⟩
  have go : ∀ m F, pb < m → MapF W m F → pb < m ∧ MapF (X.setCell ⟨pb, 3, none⟩ v') m F := fun m F hlt hF => ⟨hlt, (hmap m F hF).same (Below.heap_setCell X ⟨pb, 3, none⟩ v' m (by show m ≠ pb; omega))⟩
  rw [List.getElem?_append] at hm'
  split at hm'
  · obtain ⟨h1, h2⟩ := h.map i p' m hp' hm'
    exact go m _ h1 h2
  · have hi : i = ms.length := by
      have := (List.getElem?_eq_some_iff.1 hm').1
      simp only [List.length_cons, List.length_nil] at this
      omega
    subst hi
    simp only [Nat.sub_self, List.getElem?_cons_zero, Option.some.injEq] at hm'
    subst hm'
    rw [hp] at hp'
    cases hp'
    exact go _ _ hmb hm
structure PgO (W : World) (a : Pg) (pb : Nat) (A : Option Addr) (c : Nat) (ms : List Nat) : Prop where
  box : W.heap[pb]? = some (.cells #[vi a.side, a.sP, a.sL, .slice A a.P.length c] 153 (0, 0))
  len : ms.length = a.P.length
  row : RowV W A (ms.map fun m => .map (some m))
  map : ∀ (i : Nat) (p : P4) (m : Nat), a.P[i]? = some p → ms[i]? = some m → MapF W m (inPl p)
structure InW (w : World) (a : Pg) (pb : Nat) (v : Value) (ms : List Nat) (z mb : Nat) (p : P4) (F : Int × Int → Prop) (W : World) : Prop where
  o : OpW w a pb v ms W
  z : W.heap[z]? = some (.cells #[vi p.1, vi p.2.1, vi p.2.2.1, vi p.2.2.2] 70 (0, 0))
  m : MapF W mb F
def OpI (w : World) (a : Pg) (pb : Nat) (m : Nat) (t : Array Value) (W : World) : Prop :=
  ∃ (k : Nat) (v : Value) (ms : List Nat), k ≤ a.P.length ∧ m = a.P.length - k ∧ ms.length = k ∧ OpW w a pb v ms W ∧ Slots [none, none, some (.pointer (some ⟨w.heap.size, 0, none⟩)), none, none, some (.pointer (some ⟨pb, 0, none⟩)), none, none, none, none, none, none, none, none, none, none, none, none, none, none, some (.slice a.AP a.P.length a.cP), some (iv a.P.length), some (iv k), none, none, none, none, none, none, none, none, none, none, none, none, none, none, none, none, none, none, none, none, none, none, none, none, none, none, none, none, none, none, none, none, none, none, none, none, none, none, none, none] t
def OaI (w : World) (a : Pg) (pb : Nat) (v : Value) (ms : List Nat) (z mb : Nat) (p : P4) (k : Nat) (m : Nat) (t : Array Value) (W : World) : Prop :=
  ∃ ax : Int, p.1 ≤ ax ∧ ax ≤ p.2.1 + 1 ∧ m = (p.2.1 + 1 - ax).toNat ∧ InW w a pb v ms z mb p (fun q => p.1 ≤ q.1 ∧ q.1 < ax ∧ p.2.2.1 ≤ q.2 ∧ q.2 ≤ p.2.2.2) W ∧ Slots [none, none, some (.pointer (some ⟨w.heap.size, 0, none⟩)), none, none, some (.pointer (some ⟨pb, 0, none⟩)), none, some (.pointer (some ⟨z, 0, none⟩)), some (.map (some mb)), some (vi ax), none, none, none, none, none, none, none, none, none, none, some (.slice a.AP a.P.length a.cP), some (iv a.P.length), some (iv k), none, none, none, none, none, none, none, none, none, none, none, none, none, none, none, none, none, none, none, none, none, none, none, none, none, none, none, none, none, none, none, none, none, none, none, none, none, none, none, none] t
def ObI (w : World) (a : Pg) (pb : Nat) (v : Value) (ms : List Nat) (z mb : Nat) (p : P4) (k : Nat) (ax : Int) (m : Nat) (t : Array Value) (W : World) : Prop :=
  ∃ ay : Int, p.2.2.1 ≤ ay ∧ ay ≤ p.2.2.2 + 1 ∧ m = (p.2.2.2 + 1 - ay).toNat ∧ InW w a pb v ms z mb p (fun q => (p.1 ≤ q.1 ∧ q.1 < ax ∧ p.2.2.1 ≤ q.2 ∧ q.2 ≤ p.2.2.2) ∨ (q.1 = ax ∧ p.2.2.1 ≤ q.2 ∧ q.2 < ay)) W ∧ Slots [none, none, some (.pointer (some ⟨w.heap.size, 0, none⟩)), none, none, some (.pointer (some ⟨pb, 0, none⟩)), none, some (.pointer (some ⟨z, 0, none⟩)), some (.map (some mb)), some (vi ax), some (vi ay), none, none, none, none, none, none, none, none, none, some (.slice a.AP a.P.length a.cP), some (iv a.P.length), some (iv k), none, none, none, none, none, none, none, none, none, none, none, none, none, none, none, none, none, none, none, none, none, none, none, none, none, none, none, none, none, none, none, none, none, none, none, none, none, none, none, none] t
set_option maxRecDepth 100000 in
set_option maxHeartbeats 2000000 in
theorem open_in {w : World} {a : Pg} {pb : Nat} {v : Value} {ms : List Nat} {z mb : Nat} {p : P4} {k : Nat} (hp : okP a.side p) (h15 : a.side ≤ 15) (hmb : pb < mb) (hzm : z < mb) (hms : mb ∉ ms) (hv : v.ownBlock ≠ some mb) {W : World} (hI : InW w a pb v ms z mb p (fun _ => False) W) {t : Array Value} (hSl : Slots [none, none, some (.pointer (some ⟨w.heap.size, 0, none⟩)), none, none, some (.pointer (some ⟨pb, 0, none⟩)), none, some (.pointer (some ⟨z, 0, none⟩)), some (.map (some mb)), some (vi p.1), none, none, none, none, none, none, none, none, none, none, some (.slice a.AP a.P.length a.cP), some (iv a.P.length), some (iv k), none, none, none, none, none, none, none, none, none, none, none, none, none, none, none, none, none, none, none, none, none, none, none, none, none, none, none, none, none, none, none, none, none, none, none, none, none, none, none, none] t) :
    Exec Try.prog none (sub (Try.f80.body.getD .skip) [1, 1, 1, 1, 0, 1, 0, 0, 1, 1, 0, 0, 1, 1, 0, 1]) t W (andThen (fun t' W' => InW w a pb v ms z mb p (inPl p) W' ∧ Slots [none, none, some (.pointer (some ⟨w.heap.size, 0, none⟩)), none, none, some (.pointer (some ⟨pb, 0, none⟩)), none, some (.pointer (some ⟨z, 0, none⟩)), some (.map (some mb)), none, none, none, none, none, none, none, none, none, none, none, some (.slice a.AP a.P.length a.cP), some (iv a.P.length), some (iv k), none, none, none, none, none, none, none, none, none, none, none, none, none, none, none, none, none, none, none, none, none, none, none, none, none, none, none, none, none, none, none, none, none, none, none, none, none, none, none, none] t') fun _ _ _ => False) := by
  have hx0 := hp.x0
  have hx1 := hp.x1
  have hx2 := hp.x2
  have hy0 := hp.y0
  have hy1 := hp.y1
  have hy2 := hp.y2
  have hu70 := Try.underlying70
  have hu28 := Try.underlying28
  show Exec _ _ (Code.block _ _) _ _ _
  refine exec_block ?_
  refine exec_loop (OaI w a pb v ms z mb p k) (p.2.1 + 1 - p.1).toNat ⟨p.1, by omega, by omega, rfl, ⟨hI.o, hI.z, by
    obtain ⟨ks, h1, h2⟩ := hI.m
    exact ⟨ks, h1, fun q => by rw [h2]; simp only [false_iff]; omega⟩⟩, hSl⟩ ?_
  clear hI hSl
  clear W
  rintro m t W ⟨ax, hxl, hxu, hm, hI, hSl⟩
  have HM := Lib.hid hm
  clear hm
  obtain ⟨x, hx⟩ := Slots.open_ hSl; simp only [fill, Nat.reduceAdd] at hx; subst hx; clear hSl
  have c1 := cells_get (cs := [_, _, _, _]) (k := 1) hI.z rfl
  have c2 := cells_get (cs := [_, _, _, _]) (k := 2) hI.z rfl
  show Exec _ _ (Code.seq (Code.seq _ _) (Code.seq _ _)) _ _ _
  refine exec_seq (exec_seq (exec_region_o fun ds => ?_))
  gi_wp2
  refine eq_mk (Keep.refl _) ?_
  show Exec _ _ (Code.cond _ _ _) _ _ _
  refine exec_cond (b := decide (ax ≤ p.2.1)) rfl (fun hp => exec_skip ?_) (fun hp => exec_exit ?_)
  · have hxp : ax ≤ p.2.1 := of_decide_eq_true ‹decide (ax ≤ p.2.1) = true›
    show Exec _ _ (Code.seq (Code.block _ _) _) _ _ _
    refine exec_seq (exec_block (exec_seq (exec_region_o fun ds => ?_)))
    gi_wp2
    refine eq_mk (Keep.refl _) ?_
    show Exec _ _ (Code.block _ _) _ _ _
    refine exec_block ?_
    refine exec_loop (ObI w a pb v ms z mb p k ax) (p.2.2.2 + 1 - p.2.2.1).toNat ⟨p.2.2.1, by omega, by omega, rfl, ⟨hI.o, hI.z, by
      obtain ⟨ks, h1, h2⟩ := hI.m
      exact ⟨ks, h1, fun q => by rw [h2]; omega⟩⟩, by simp [Slots, Fits]⟩ ?_
    clear hI c1 c2
    clear W
    rintro m2 t W ⟨ay, hyl, hyu, hm2, hI, hSl⟩
    have HM2 := Lib.hid hm2
    clear hm2
    obtain ⟨x, hx⟩ := Slots.open_ hSl; simp only [fill, Nat.reduceAdd] at hx; subst hx; clear hSl
    have c3 := cells_get (cs := [_, _, _, _]) (k := 3) hI.z rfl
    show Exec _ _ (Code.seq (Code.seq _ _) (Code.seq _ _)) _ _ _
    refine exec_seq (exec_seq (exec_region_o fun ds => ?_))
    gi_wp2
    refine eq_mk (Keep.refl _) ?_
    clear c3
    show Exec _ _ (Code.cond _ _ _) _ _ _
    refine exec_cond (b := decide (ay ≤ p.2.2.2)) rfl (fun hp => exec_skip ?_) (fun hp => exec_exit ?_)
    · have hyp : ay ≤ p.2.2.2 := of_decide_eq_true ‹decide (ay ≤ p.2.2.2) = true›
      have hokk : okK (ax, ay) := ⟨by show (-1000 : Int) ≤ ax ∧ ax ≤ 1000; omega, by show (-1000 : Int) ≤ ay ∧ ay ≤ 1000; omega⟩
      obtain ⟨ks, hks, hkF⟩ := hI.m
      have hlt := MapR.lt hks
      have hwy : IntKind.i64.wrap (ay + 1) = ay + 1 := IntWalk.i64_in _ (by omega)
      show Exec _ _ (Code.seq (Code.block _ _) _) _ _ _
      refine exec_seq (exec_block (exec_region_o fun ds => ?_))
      gi_wp2_with (gi_at_mapUpdate; refine walk_mapUpdate rfl rfl rfl hks keyP Try.underlying154 (y := (ax, ay)) hokk rfl (u := .bool true) rfl ?_; intro W' hu hgr)
      have hob : ∃ ob, W.heap[mb]? = some ob ∧ book ob = false := by
        obtain ⟨es, c, hm3, _⟩ := hks
        exact ⟨_, hm3, rfl⟩
      obtain ⟨ob, hob, hbk⟩ := hob
      refine eq_mk ((Keep.refl _).grown hgr fun j o e ho => by cases e; rw [hob] at ho; cases ho; exact hbk) ?_
      rw [put_setP] at hu
      have hI' : InW w a pb v ms z mb p (fun q => (p.1 ≤ q.1 ∧ q.1 < ax ∧ p.2.2.1 ≤ q.2 ∧ q.2 ≤ p.2.2.2) ∨ (q.1 = ax ∧ p.2.2.1 ≤ q.2 ∧ q.2 < ay + 1)) W' :=
        ⟨hI.o.off hgr hmb hms hv, (hgr.block _ (heap_lt hI.z) (by simp; omega)).trans hI.z, ⟨_, hu, fun q => by
          rw [Go.Fu.mem_ins, hkF]
          obtain ⟨q1, q2⟩ := q
          simp only [Prod.mk.injEq]
          omega⟩⟩
      have HI := Lib.hid hI'
      clear hI hI' hks hkF hu hgr hob hbk hlt
      show Exec _ _ (Code.region _ _ _) _ _ _
      refine exec_region_o fun ds => ?_
      gi_wp2
      refine eq_mk (Keep.refl _) ?_
      exact ⟨m2 - 1, by have := HM2.out; omega, ay + 1, by omega, by omega, by have := HM2.out; omega, HI.out, by simp [Slots, Fits]⟩
    · have hyp : ay = p.2.2.2 + 1 := by have := of_decide_eq_false ‹decide (ay ≤ p.2.2.2) = false›; omega
      have hwx : IntKind.i64.wrap (ax + 1) = ax + 1 := IntWalk.i64_in _ (by omega)
      have hI' : InW w a pb v ms z mb p (fun q => p.1 ≤ q.1 ∧ q.1 < ax + 1 ∧ p.2.2.1 ≤ q.2 ∧ q.2 ≤ p.2.2.2) W := ⟨hI.o, hI.z, by
        obtain ⟨ks, h1, h2⟩ := hI.m
        exact ⟨ks, h1, fun q => by rw [h2]; omega⟩⟩
      have HI := Lib.hid hI'
      clear hI hI'
      show Exec _ _ (Code.region _ _ _) _ _ _
      refine exec_region_o fun ds => ?_
      gi_wp2
      refine eq_mk (Keep.refl _) ?_
      exact ⟨m - 1, by have := HM.out; omega, ax + 1, by omega, by omega, by have := HM.out; omega, HI.out, by simp [Slots, Fits]⟩
  · have hxp : ax = p.2.1 + 1 := by have := of_decide_eq_false ‹decide (ax ≤ p.2.1) = false›; omega
    refine ⟨⟨hI.o, hI.z, ?_⟩, by simp [Slots, Fits]⟩
    obtain ⟨ks, h1, h2⟩ := hI.m
    exact ⟨ks, h1, fun q => by rw [h2]; unfold inPl; omega⟩
end Go.Proofs.Ytafmgmaelnpehaa.Tp
end

section
namespace Go.Proofs.Ytafmgmaelnpehaa.Tp
open Go.RowKit Go.TL Go.Shelf
attribute [local go_sem] Oper.semAt_some
attribute [local go_sem] run_store_func
set_option maxRecDepth 100000 in
set_option maxHeartbeats 2000000 in
theorem open80 (a : Pg) (ho : a.Ok) (w : World) (ha : a.At w) : Calls Try.prog 80 #[a.val, .bool true] w fun e W' => ∃ pb A c ms, (e = .returned (.pointer (some ⟨pb, 0, none⟩)) ∧ PgO W' a pb A c ms) ∧ (w.heap.size ≤ pb ∧ (∀ ad, A = some ad → w.heap.size ≤ ad.block ∧ ad.block < W'.heap.size) ∧ ∀ m ∈ ms, w.heap.size ≤ m) ∧ Below w.heap.size w W' := by
  have hu68 := Try.underlying68
  have hu153 := Try.underlying153
  have hu65 := Try.underlying65
  have hu70 := Try.underlying70
  have hu154 := Try.underlying154
  have hu151 := Try.underlying151
  have hu28 := Try.underlying28
  have hp4 := ho.pl
  have hs15 := ho.s1
  refine calls_of_exec Try.func80 rfl ?_
  simp only [Try.ntmps80, List.size_toArray, List.length_cons, List.length_nil, Nat.reduceAdd, Nat.reduceSub, Array.replicate_succ, Array.replicate_zero, List.push_toArray, List.append_toArray, List.nil_append, List.cons_append]
  simp only [Pg.val]
  refine exec_seq (exec_region_o fun ds => ?_)
  gi_wp2
  refine eq_mk ((Keep.refl w).alloc _) ?_
  show Exec _ _ (Code.seq _ _) _ (w.alloc (.cells #[vi a.side, a.sP, a.sL] 68)) _
  have hB := (Below.refl w.heap.size w).alloc (Nat.le_refl _) (.cells #[vi a.side, a.sP, a.sL] 68)
  have h0 : PgB (w.alloc (.cells #[vi a.side, a.sP, a.sL] 68)) w.heap.size a := World.alloc_heap_new _ _
  generalize w.alloc (.cells #[vi a.side, a.sP, a.sL] 68) = X at *
  have p0 := cells_get (cs := [_, _, _]) (k := 0) h0 rfl
  have p1 := cells_get (cs := [_, _, _]) (k := 1) h0 rfl
  have p2 := cells_get (cs := [_, _, _]) (k := 2) h0 rfl
  refine exec_seq (exec_region_o fun ds => ?_)
  gi_wp2_with fail
  refine ⟨trivial, rfl, (callsIn_wide.2 (isPegs99 a ho X (ha.below hB))).mono ?_⟩
  rintro e Y ⟨rfl, hy⟩
  have h1 : PgB Y w.heap.size a := (hy.block _ (heap_lt h0)).trans h0
  have hBY := hB.trans (hy.mono hB.size)
  clear p0 p1 p2
  gi_wp2_with fail
  refine ⟨trivial, rfl, (callsIn_wide.2 (need98 1 Y)).mono ?_⟩
  rintro e Z ⟨rfl, hz⟩
  have h2 : PgB Z w.heap.size a := (hz.block _ (heap_lt h1)).trans h1
  have hBZ := hBY.trans (hz.mono hBY.size)
  gi_wp2
  refine eq_mk ((Keep.of_below hy).trans (Keep.of_below hz)) ?_
  clear h0 h1 hB hBY hy hz
  clear X Y
  show Exec _ _ (Code.seq _ _) _ _ _
  refine exec_seq (exec_region_o fun ds => ?_)
  gi_wp2_with fail
  refine ⟨trivial, rfl, (callsIn_wide.2 (need98 2 Z)).mono ?_⟩
  rintro e U ⟨rfl, hu⟩
  have h3 : PgB U w.heap.size a := (hu.block _ (heap_lt h2)).trans h2
  have hBU := hBZ.trans (hu.mono hBZ.size)
  gi_wp2
  refine eq_mk (Keep.of_below hu) ?_
  clear h2 hBZ hu
  clear Z
  show Exec _ _ (Code.seq _ _) _ _ _
  have p0 := cells_get (cs := [_, _, _]) (k := 0) h3 rfl
  have p1 := cells_get (cs := [_, _, _]) (k := 1) h3 rfl
  have p2 := cells_get (cs := [_, _, _]) (k := 2) h3 rfl
  refine exec_seq (exec_region_o fun ds => ?_)
  gi_wp2
  refine eq_mk ((Keep.refl _).alloc _) ?_
  show Exec _ _ (Code.seq (Code.seq _ _) _) _ (U.alloc (.cells #[vi a.side, a.sP, a.sL, .slice none 0 0] 153)) _
  have hpb := heap_lt h3
  have hO : OpW w a U.heap.size (.slice none 0 0) [] (U.alloc (.cells #[vi a.side, a.sP, a.sL, .slice none 0 0] 153)) := ⟨hBU.alloc hBU.size _, heap_next h3 _, World.alloc_heap_new _ _, hpb, World.ownsRow_nil _ _ _ _, fun i p m hp hm => by simp at hm⟩
  clear p0 p1 p2 h3 hBU
  generalize U.alloc (.cells #[vi a.side, a.sP, a.sL, .slice none 0 0] 153) = X at *
  generalize U.heap.size = pb at *
  clear U
  have hh := hO.b2
  simp only [PgB, Pg.sP] at hh
  have p1 := cells_get (cs := [_, _, _]) (k := 1) hh rfl
  clear hh
  refine exec_seq (exec_seq (exec_region_o fun ds => ?_))
  gi_wp2
  refine eq_mk (Keep.refl _) ?_
  show Exec _ _ (Code.block _ _) _ _ _
  refine exec_block ?_
  refine exec_loop (OpI w a pb) a.P.length ⟨0, .slice none 0 0, [], by omega, rfl, rfl, hO, by simp [Slots, Fits]⟩ ?_
  clear hO p1
  clear X
  rintro m t W ⟨k, v, ms, hk, hm, hms, hO, hSl⟩
  have HM := Lib.hid hm
  clear hm
  obtain ⟨x, hx⟩ := Slots.open_ hSl; simp only [fill, Nat.reduceAdd] at hx; subst hx; clear hSl
  show Exec _ _ (Code.seq _ (Code.seq _ _)) _ _ _
  refine exec_seq (exec_region_o fun ds => ?_)
  gi_wp2
  refine eq_mk (Keep.refl _) ?_
  show Exec _ _ (Code.seq (Code.cond _ _ _) _) _ _ _
  refine exec_seq (exec_cond (b := decide (k < a.P.length)) (by first | rfl | (show Value.bool _ = _; congr 1; exact decide_eq_decide.2 (by omega))) (fun hp => exec_skip ?_) (fun hp => exec_exit ?_))
  · have hkl : k < a.P.length := of_decide_eq_true hp
    have hkI : (k : Int) < a.P.length := by omega
    have hpk : a.P[k]? = some a.P[k] := List.getElem?_eq_getElem hkl
    have hokp := ho.ps _ (List.getElem_mem hkl)
    obtain ⟨ad, hA, c0, c1, c2, c3⟩ := (ha.below hO.below).p k _ hpk
    generalize a.P[k] = p at *
    simp only [hA]
    have HA := Lib.hid hA
    clear hA hp
    have hw : IntKind.i64.wrap ((k : Int) + 1) = ((k + 1 : Nat) : Int) := by rw [IntWalk.i64_in _ (by omega)]; norm_cast
    show Exec _ _ (Code.seq (Code.block _ _) _) _ _ _
    refine exec_seq (exec_block (exec_seq (exec_region_o fun ds => ?_)))
    gi_wp2
    refine eq_mk ((Keep.refl _).alloc _) ?_
    show Exec _ _ (Code.seq _ _) _ (W.alloc (.cells #[vi p.1, vi p.2.1, vi p.2.2.1, vi p.2.2.2] 70)) _
    have hzb := heap_lt hO.bp
    have hal := (Below.refl W.heap.size W).alloc (Nat.le_refl _) (.cells #[vi p.1, vi p.2.1, vi p.2.2.1, vi p.2.2.2] 70)
    have hz : (W.alloc (.cells #[vi p.1, vi p.2.1, vi p.2.2.1, vi p.2.2.2] 70)).heap[W.heap.size]? = some (.cells #[vi p.1, vi p.2.1, vi p.2.2.1, vi p.2.2.2] 70 (0, 0)) := World.alloc_heap_new _ _
    have hO1 := hO.keep hal
    have hsz : (W.alloc (.cells #[vi p.1, vi p.2.1, vi p.2.2.1, vi p.2.2.2] 70)).heap.size = W.heap.size + 1 := by simp
    have hlm : ∀ m ∈ ms, m < W.heap.size := fun m hm => by
      obtain ⟨i, hi⟩ := List.mem_iff_getElem?.1 hm
      have hil := (List.getElem?_eq_some_iff.1 hi).1
      exact (hO.map i _ m (List.getElem?_eq_getElem (by omega)) hi).2.lt
    have hvl : ∀ q, v.ownBlock = some q → q < W.heap.size := fun q e => (hO.own.lt q e).2
    clear hO c0 c1 c2 c3 hal
    generalize W.alloc (.cells #[vi p.1, vi p.2.1, vi p.2.2.1, vi p.2.2.2] 70) = X at *
    generalize W.heap.size = z at *
    clear W
    have hmm := @run_makeMap Try.prog
    refine exec_seq (exec_region_o fun ds => ?_)
    gi_wp2
    refine eq_mk ((Keep.refl _).alloc _) ?_
    clear hmm
    show Exec _ _ (Code.seq (Code.seq _ _) _) _ (X.alloc (.map #[] 0)) _
    have hI : InW w a pb v ms z X.heap.size p (fun _ => False) (X.alloc (.map #[] 0)) := ⟨hO1.keep ((Below.refl X.heap.size X).alloc (Nat.le_refl _) _), heap_next hz _, [], MapR.new encP okK X, fun x => by simp⟩
    clear hz hO1
    generalize X.alloc (.map #[] 0) = Y at *
    rw [hsz] at hI
    clear hsz
    clear X
    have d0 := cells_get (cs := [_, _, _, _]) (k := 0) hI.z rfl
    refine exec_seq (exec_seq (exec_region_o fun ds => ?_))
    gi_wp2
    refine eq_mk (Keep.refl _) ?_
    clear d0
    show Exec Try.prog none (sub (Try.f80.body.getD .skip) [1, 1, 1, 1, 0, 1, 0, 0, 1, 1, 0, 0, 1, 1, 0, 1]) _ _ _
    refine (open_in (w := w) (a := a) (pb := pb) (v := v) (ms := ms) (z := z) (mb := z + 1) (p := p) (k := k) hokp hs15 (by omega) (by omega) (fun hm => by have := hlm _ hm; omega) (fun e => by have := hvl _ e; omega) hI (by simp [Slots, Fits, HA.out])).mono ?_
    clear hI hlm hvl x
    clear Y
    intro e t Y hh
    obtain ⟨rfl, hI, hSl⟩ := only_normal hh
    clear hh
    obtain ⟨x, hx⟩ := Slots.open_ hSl; simp only [fill, Nat.reduceAdd] at hx; subst hx; clear hSl
    have hpm : a.P[ms.length]? = some p := by rw [hms]; exact hpk
    have HMS := Lib.hid hms
    have HPK := Lib.hid hpk
    subst hms
    clear hpk HPK
    obtain ⟨v', X', hrun, hK, hXb, hO'⟩ := hI.o.push hpm hI.m (by omega) (by omega)
    obtain ⟨Av, cv, hv, -⟩ := row_of_own hI.o.own
    subst hv
    obtain ⟨Aw, cw, hv', -⟩ := row_of_own hO'.own
    rw [List.length_append] at hv'
    subst hv'
    have hpp := hI.o.bp
    have c3 := cells_get (cs := [_, _, _, _]) (k := 3) hpp rfl
    have e3 := cells_get (cs := [_, _, _, _]) (k := 3) hXb rfl
    have ef : X'.frozen? ⟨pb, 3, none⟩ = false := frozen_cells hXb
    have HO := Lib.hid hO'
    clear hI hO' hpp hXb hpm
    show Exec _ _ (Code.region _ _ _) _ _ _
    refine exec_region_o fun ds => ?_
    gi_wp2_with (gi_at_builtin; refine wpListIn_app rfl _ _ 151 rfl rfl rfl hrun ?_)
    refine eq_mk (hK.setCell _ _) ?_
    clear hrun c3 e3 ef
    show Exec _ _ (Code.region _ _ _) _ _ _
    generalize X'.setCell ⟨pb, 3, none⟩ (.slice Aw (ms.length + [z + 1].length) cw) = V at *
    clear hK
    clear X'
    refine exec_region_o fun ds => ?_
    gi_wp2
    refine eq_mk (Keep.refl _) ?_
    exact ⟨m - 1, by have := HM.out; omega, ms.length + 1, .slice Aw (ms.length + [z + 1].length) cw, ms ++ [z + 1], by omega, by have := HM.out; omega, by rw [List.length_append]; rfl, HO.out, by simp [Slots, Fits, HA.out]; try omega⟩
  · have hkl : k = a.P.length := by have := of_decide_eq_false hp; omega
    subst hkl
    have hown := hO.own.2
    obtain ⟨Av, cv, hv, hrow⟩ := row_of_own hO.own
    subst hv
    rw [hms] at hO
    have hAb : ∀ ad, Av = some ad → pb + 1 ≤ ad.block ∧ ad.block < W.heap.size := fun ad e => by
      subst e
      rcases hown with ⟨e, _⟩ | ⟨g, cap, cur, e, hge, hg, _⟩
      · cases e
      · cases e
        exact ⟨hge, heap_lt hg⟩
    clear hown
    show Exec _ _ (Code.seq _ _) _ _ _
    refine exec_seq (exec_region_o fun ds => ?_)
    gi_wp2
    refine eq_mk (Keep.refl _) ?_
    have hpb := hO.hpb
    have hBW := hO.below
    refine exec_ret ⟨.inr rfl, fun W' hG => ⟨.pointer (some ⟨pb, 0, none⟩), by simp [results, Try.f80, go_sem], pb, Av, cv, ms, ⟨rfl, ⟨hG.same _ _ hO.bp (.inr rfl), hms, hrow.grow hG, fun i p m hp hm => ?_⟩⟩, ⟨by omega, fun ad e => ⟨by have := (hAb ad e).1; omega, Nat.lt_of_lt_of_le (hAb ad e).2 hG.size⟩, fun m hm => ?_⟩, hBW.trans (hG.below (Nat.le_refl _) hBW.size)⟩⟩
    · obtain ⟨ks, h1, h2⟩ := (hO.map i p m hp hm).2
      exact ⟨ks, h1.grow hG, h2⟩
    · obtain ⟨i, hi⟩ := List.mem_iff_getElem?.1 hm
      have hil := (List.getElem?_eq_some_iff.1 hi).1
      have := (hO.map i _ m (List.getElem?_eq_getElem (by omega)) hi).1
      omega
end Go.Proofs.Ytafmgmaelnpehaa.Tp
end

section
namespace Go.Proofs.Ytafmgmaelnpehaa.Tp
open Go.RowKit Go.TL Go.Shelf
attribute [local go_sem] Oper.semAt_some
attribute [local go_sem] run_store_func
def sqs (l : List Int) : Int := l.foldl (fun s n => s + n * n) 0
theorem sqs_bound : ∀ (l : List Int) (s0 : Int), (∀ n ∈ l, -1000 ≤ n ∧ n ≤ 1000) → 0 ≤ s0 → 0 ≤ l.foldl (fun s n => s + n * n) s0 ∧ l.foldl (fun s n => s + n * n) s0 ≤ s0 + 1000000 * l.length
  | [], s0, _, h => by simp; exact h
  | n :: l, s0, hn, h => by
    have h1 := hn n List.mem_cons_self
    have h2 : 0 ≤ n * n := by rcases Int.le_total 0 n with c | c; exact Int.mul_nonneg c c; exact Int.mul_nonneg_of_nonpos_of_nonpos c c
    have h3 : n * n ≤ 1000000 := by
      have : n * n ≤ 1000 * 1000 := by
        rcases Int.le_total 0 n with c | c
        · exact Int.mul_le_mul h1.2 h1.2 c (by omega)
        · have e : n * n = (-n) * (-n) := by rw [Int.neg_mul_neg]
          rw [e]
          exact Int.mul_le_mul (by omega) (by omega) (by omega) (by omega)
      omega
    obtain ⟨h4, h5⟩ := sqs_bound l (s0 + n * n) (fun m hm => hn m (List.mem_cons_of_mem _ hm)) (by omega)
    rw [List.foldl_cons, List.length_cons]
    refine ⟨h4, ?_⟩
    push_cast
    omega
theorem row_int {W : World} {A : Option Addr} {l : List Int} (h : RowV W A (l.map vi)) {i : Nat} (hi : i < l.length) : ∃ ad, A = some ad ∧ W.cell? (ad.add i) = some (vi l[i]) :=
  h i _ (by rw [List.getElem?_map, List.getElem?_eq_getElem hi]; rfl)
def SqI (w : World) (A : Option Addr) (c : Nat) (l : List Int) (m : Nat) (t : Array Value) (W : World) : Prop :=
  ∃ k : Nat, k ≤ l.length ∧ m = l.length - k ∧ Below w.heap.size w W ∧ Slots [none, none, some (vi (sqs (l.take k))), none, none, some (.slice A l.length c), some (iv l.length), some (iv k), none, none, none, none, none, none, none, none, none, none] t
set_option maxRecDepth 100000 in
set_option maxHeartbeats 1000000 in
theorem squares117 (A : Option Addr) (c : Nat) (l : List Int) (hl : l.length ≤ 10) (hb : ∀ n ∈ l, -1000 ≤ n ∧ n ≤ 1000) (w : World) (hr : RowV w A (l.map vi)) : Calls Try.prog 117 #[.slice A l.length c] w fun e w' => e = .returned (vi (sqs l)) ∧ Below w.heap.size w w' := by
  have hu33 := Try.underlying33
  refine calls_of_exec Try.func117 rfl ?_
  simp only [Try.ntmps117, List.size_toArray, List.length_cons, List.length_nil, Nat.reduceAdd, Nat.reduceSub, Array.replicate_succ, Array.replicate_zero, List.push_toArray, List.append_toArray, List.nil_append, List.cons_append]
  refine exec_seq (exec_region_o fun ds => ?_)
  gi_wp2
  refine eq_mk (Keep.refl _) ?_
  show Exec _ _ (Code.seq (Code.seq _ _) _) _ _ _
  refine exec_seq (exec_seq (exec_region_o fun ds => ?_))
  gi_wp2
  refine eq_mk (Keep.refl _) ?_
  show Exec _ _ (Code.block _ _) _ _ _
  refine exec_block ?_
  refine exec_loop (SqI w A c l) l.length ⟨0, by omega, rfl, Below.refl _ _, by simp [Slots, Fits, sqs]⟩ ?_
  rintro m t W ⟨k, hk, hm, hB, hSl⟩
  have HM := Lib.hid hm
  clear hm
  have hsb := sqs_bound (l.take k) 0 (fun n hn => hb n (List.mem_of_mem_take hn)) (by omega)
  have hlt : (l.take k).length ≤ 10 := by rw [List.length_take]; omega
  have hnx : ∀ h : k < l.length, sqs (l.take (k + 1)) = sqs (l.take k) + l[k] * l[k] := fun h => by
    unfold sqs
    rw [List.take_succ_eq_append_getElem h, List.foldl_append]
    rfl
  have hend : k = l.length → sqs (l.take k) = sqs l := fun e => by rw [e, List.take_length]
  have hs1 : 0 ≤ sqs (l.take k) ∧ sqs (l.take k) ≤ 10000000 := ⟨hsb.1, by have := hsb.2; unfold sqs; omega⟩
  clear hsb hlt
  generalize sqs (l.take k) = s at *
  obtain ⟨x, hx⟩ := Slots.open_ hSl; simp only [fill, Nat.reduceAdd] at hx; subst hx; clear hSl
  show Exec _ _ (Code.seq _ (Code.seq _ _)) _ _ _
  refine exec_seq (exec_region_o fun ds => ?_)
  gi_wp2
  refine eq_mk (Keep.refl _) ?_
  show Exec _ _ (Code.seq (Code.cond _ _ _) _) _ _ _
  refine exec_seq (exec_cond (b := decide (k < l.length)) (by first | rfl | (show Value.bool _ = _; congr 1; exact decide_eq_decide.2 (by omega))) (fun hp => exec_skip ?_) (fun hp => exec_exit ?_))
  · have hkl : k < l.length := of_decide_eq_true hp
    have hkI : (k : Int) < l.length := by omega
    obtain ⟨ad, hA, c0⟩ := row_int (hr.grow (Grow.of_below (B := 0) hB)) hkl
    have hn := hb _ (List.getElem_mem hkl)
    have hnx := hnx hkl
    have h3 := sqs_bound [l[k]] 0 (fun m hm => by simp at hm; rw [hm]; exact hn) (by omega)
    simp only [List.foldl_cons, List.foldl_nil, List.length_cons, List.length_nil] at h3
    generalize l[k] = n at *
    simp only [hA]
    have HA := Lib.hid hA
    have HNX := Lib.hid hnx
    clear hA hnx hend
    have hw : IntKind.i64.wrap ((k : Int) + 1) = ((k + 1 : Nat) : Int) := by rw [IntWalk.i64_in _ (by omega)]; norm_cast
    obtain ⟨nn, hnn⟩ : ∃ nn, n * n = nn := ⟨_, rfl⟩
    rw [hnn] at h3 HNX
    have hw2 : IntKind.i64.wrap nn = nn := IntWalk.i64_in _ (by omega)
    have hw3 : IntKind.i64.wrap (s + nn) = s + nn := IntWalk.i64_in _ (by omega)
    show Exec _ _ (Code.seq (Code.block _ _) _) _ _ _
    refine exec_seq (exec_block (exec_seq (exec_region_o fun ds => ?_)))
    gi_wp2
    refine eq_mk (Keep.refl _) ?_
    show Exec _ _ (Code.region _ _ _) _ _ _
    refine exec_region_o fun ds => ?_
    gi_wp2
    refine eq_mk (Keep.refl _) ?_
    show Exec _ _ (Code.region _ _ _) _ _ _
    refine exec_region_o fun ds => ?_
    gi_wp2
    refine eq_mk (Keep.refl _) ?_
    exact ⟨m - 1, by have := HM.out; omega, k + 1, by omega, by have := HM.out; omega, hB, by rw [HNX.out]; simp [Slots, Fits, HA.out]; try omega⟩
  · have hkl : k = l.length := by have := of_decide_eq_false hp; omega
    have he := hend hkl
    show Exec _ _ (Code.seq _ _) _ _ _
    refine exec_seq (exec_region_o fun ds => ?_)
    gi_wp2
    refine eq_mk (Keep.refl _) ?_
    exact exec_ret ⟨.inr rfl, fun W' hG => ⟨vi s, by simp [results, Try.f117, go_sem], by rw [he], hB.trans (hG.below (Nat.le_refl _) hB.size)⟩⟩
theorem addr_at (g i : Nat) : (⟨g, 0, none⟩ : Addr).add i = ⟨g, i, none⟩ := by
  simp [Addr.add]
  exact fun h => h.symm
def sq2 (ax ay bx by_ : Int) : Int := sqs [ax - bx, ay - by_]
theorem square116 (ax ay bx by_ : Int) (h : (0 ≤ ax ∧ ax ≤ 100) ∧ (0 ≤ ay ∧ ay ≤ 100) ∧ (0 ≤ bx ∧ bx ≤ 100) ∧ 0 ≤ by_ ∧ by_ ≤ 100) (w : World) : Calls Try.prog 116 #[.agg #[vi ax, vi ay], .agg #[vi bx, vi by_]] w fun e w' => e = .returned (vi (sq2 ax ay bx by_)) ∧ Below w.heap.size w w' := by
  have hu113 := Try.underlying113
  have hu33 := Try.underlying33
  have hw1 : IntKind.i64.wrap (ax - bx) = ax - bx := IntWalk.i64_in _ (by omega)
  have hw2 : IntKind.i64.wrap (ay - by_) = ay - by_ := IntWalk.i64_in _ (by omega)
  have hlb : ∀ n ∈ [ax - bx, ay - by_], (-1000 : Int) ≤ n ∧ n ≤ 1000 := fun n hn => by
    simp only [List.mem_cons, List.not_mem_nil, or_false] at hn
    rcases hn with rfl | rfl <;> omega
  refine calls_of_exec Try.func116 rfl ?_
  simp only [Try.ntmps116, List.size_toArray, List.length_cons, List.length_nil, Nat.reduceAdd, Nat.reduceSub, Array.replicate_succ, Array.replicate_zero, List.push_toArray, List.append_toArray, List.nil_append, List.cons_append]
  refine exec_seq (exec_region_o fun ds => ?_)
  gi_wp2
  refine eq_mk (((Keep.refl w).alloc _).alloc _) ?_
  show Exec _ _ (Code.seq _ _) _ ((w.alloc (.cells #[vi ax, vi ay] 113)).alloc (.cells #[vi bx, vi by_] 113)) _
  have hB := ((Below.refl w.heap.size w).alloc (Nat.le_refl _) (.cells #[vi ax, vi ay] 113)).alloc (by simp) (.cells #[vi bx, vi by_] 113)
  have h1 : ((w.alloc (.cells #[vi ax, vi ay] 113)).alloc (.cells #[vi bx, vi by_] 113)).heap[w.heap.size]? = some (.cells #[vi ax, vi ay] 113 (0, 0)) := heap_next (World.alloc_heap_new _ _) _
  have h2 : ((w.alloc (.cells #[vi ax, vi ay] 113)).alloc (.cells #[vi bx, vi by_] 113)).heap[w.heap.size + 1]? = some (.cells #[vi bx, vi by_] 113 (0, 0)) := by
    have := World.alloc_heap_new (w.alloc (.cells #[vi ax, vi ay] 113)) (.cells #[vi bx, vi by_] 113)
    rwa [World.size_alloc] at this
  generalize (w.alloc (.cells #[vi ax, vi ay] 113)).alloc (.cells #[vi bx, vi by_] 113) = X at *
  have c0 := cells_get (cs := [_, _]) (k := 0) h1 rfl
  have c1 := cells_get (cs := [_, _]) (k := 1) h1 rfl
  have d0 := cells_get (cs := [_, _]) (k := 0) h2 rfl
  have d1 := cells_get (cs := [_, _]) (k := 1) h2 rfl
  have hrow : RowV (X.alloc (.cells #[vi (ax - bx), vi (ay - by_)] 3)) (some ⟨X.heap.size, 0, none⟩) ([ax - bx, ay - by_].map vi) := fun i v hv => by
    refine ⟨_, rfl, ?_⟩
    have := cells_get (W := X.alloc (.cells #[vi (ax - bx), vi (ay - by_)] 3)) (b := X.heap.size) (t := 3) (cs := [vi (ax - bx), vi (ay - by_)]) (k := i) (v := v) (World.alloc_heap_new _ _) hv
    rw [addr_at]
    exact this
  have hcall := squares117 (some ⟨X.heap.size, 0, none⟩) 2 [ax - bx, ay - by_] (by simp) hlb _ hrow
  have hBX := hB.alloc hB.size (.cells #[vi (ax - bx), vi (ay - by_)] 3)
  refine exec_seq (exec_region_o fun ds => ?_)
  gi_wp2_with fail
  refine ⟨trivial, rfl, (callsIn_wide.2 (hcall)).mono ?_⟩
  rintro e Y ⟨rfl, hy⟩
  have hBY := hBX.trans (hy.mono hBX.size)
  gi_wp2
  refine eq_mk (((Keep.refl _).alloc _).trans (Keep.of_below hy)) ?_
  exact exec_ret ⟨.inr rfl, fun W' hG => ⟨vi (sqs [ax - bx, ay - by_]), by simp [results, Try.f116, go_sem], rfl, hBY.trans (hG.below (Nat.le_refl _) hBY.size)⟩⟩
theorem every102 (a : Pg) (hl : a.L.length ≤ 6) (pb : Nat) (A : Option Addr) (c : Nat) (w : World) (hb : w.heap[pb]? = some (.cells #[vi a.side, a.sP, a.sL, .slice A a.P.length c] 153 (0, 0))) : Calls Try.prog 102 #[.pointer (some ⟨pb, 0, none⟩)] w fun e w' => e = .returned (.int .u64 ((2 ^ a.L.length - 1 : Nat) : Int)) ∧ Below w.heap.size w w' := by
  have hu153 := Try.underlying153
  have hu68 := Try.underlying68
  have c2 := cells_get (cs := [_, _, _, _]) (k := 2) hb rfl
  simp only [Pg.sL] at c2
  refine calls_of_exec Try.func102 rfl ?_
  simp only [Try.ntmps102, List.size_toArray, List.length_cons, List.length_nil, Nat.reduceAdd, Nat.reduceSub, Array.replicate_succ, Array.replicate_zero, List.push_toArray, List.append_toArray, List.nil_append, List.cons_append]
  refine exec_seq (exec_region_o fun ds => ?_)
  gi_wp2
  refine eq_mk (Keep.refl _) ?_
  show Exec _ _ (Code.seq _ _) _ _ _
  refine exec_seq (exec_region_o fun ds => ?_)
  have hcases : a.L.length = 0 ∨ a.L.length = 1 ∨ a.L.length = 2 ∨ a.L.length = 3 ∨ a.L.length = 4 ∨ a.L.length = 5 ∨ a.L.length = 6 := by omega
  have hw : IntKind.u64.wrap (IntKind.u64.wrap ((2 : Int) ^ a.L.length) - 1) = ((2 ^ a.L.length - 1 : Nat) : Int) := by rcases hcases with h | h | h | h | h | h | h <;> rw [h] <;> rfl
  gi_wp2
  refine eq_mk (Keep.refl _) ?_
  exact exec_ret ⟨.inr rfl, fun W' hG => ⟨.int .u64 ((2 ^ a.L.length - 1 : Nat) : Int), by simp only [← hw]; simp [results, Try.f102, go_sem], rfl, hG.below (Nat.le_refl _) (Nat.le_refl _)⟩⟩
end Go.Proofs.Ytafmgmaelnpehaa.Tp
end
