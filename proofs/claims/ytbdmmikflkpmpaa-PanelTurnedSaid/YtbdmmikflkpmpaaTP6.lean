/- PanelTurned returns true for all panels and numbers, in whatever order Go evaluates what it leaves open; no condition. -/
import Derived.Test.YtbdmmikflkpmpaaProg
import Derived.Test.YtbdmmikflkpmpaaTP1
import Derived.Test.YtbdmmikflkpmpaaTP5
import Derived.Maps.AppendAt
import Derived.Test.YtbdmmikflkpmpaaTP2
import Derived.WalkKit
import Derived.WalkSpells
import Derived.WalkLawsBesides
import Derived.Outline
import Derived.OwnWalkIn
import Derived.TacticsInMore
import Derived.LoopNIn
import Derived.LoopIn
import Derived.Shelf.RegionOpen
import Derived.Deep.QuietTactic
import Derived.BigQuiet
import Derived.Lib.Hide
import Derived.Test.YtbdmmikflkpmpaaTP4
import Derived.Deep.SlicePairs
import Derived.Lib.SmallJoins
import Derived.Carry
import Derived.ChangeArms
import Derived.ChangeOld
import Derived.WideShapes
import Derived.ProofKit
import Derived.OpenShut
import Derived.ShutString
import Derived.Below
import Derived.SizedLaws
import Derived.Test.YtbdmmikflkpmpaaRows
set_option linter.unusedVariables false
set_option linter.unusedSimpArgs false
section
namespace Go.Proofs.Ytbdmmikflkpmpaa
open Go.RowKit Go.TL Go.Shelf Go.Pn
abbrev base27 (a : XP) (b ba bb m1 m2 bx bt gL gN : Nat) (cuL cuN : List Value) (v u : Value) : List (Nat × Obj) := [(b, .cells #[a.sL, a.sN, a.sK] 25 (0, 0)), (ba, .cells #[.int .u8 (m1 : Int)] 5 (0, 0)), (bb, .cells #[.int .u8 (m2 : Int)] 5 (0, 0)), (bx, .cells #[.slice (some ⟨gL, 0, none⟩) a.L.length a.L.length, .slice (some ⟨gN, 0, none⟩) a.N.length a.N.length, v] 25 (0, 0)), (bt, .cells #[a.sL, a.sN, u] 25 (0, 0)), (gL, .cells (cuL).toArray 3 (0, 0)), (gN, .cells (cuN).toArray 3 (0, 0))]
def t27_1t : It := ⟨(Op.fieldAddr 25 (Operand.tmp 3) 0), some 177, 0, true, none⟩
def t27_2t : It := ⟨(Op.load 22 (Operand.tmp 177)), some 178, 22, true, none⟩
def t27_5t : It := ⟨(Op.fieldAddr 25 (Operand.tmp 3) 1), some 181, 0, true, none⟩
def t27_6t : It := ⟨(Op.load 22 (Operand.tmp 181)), some 182, 22, true, none⟩
def t27_9t : It := ⟨(Op.fieldAddr 25 (Operand.tmp 3) 2), some 185, 0, true, none⟩
def t27_10t : It := ⟨(Op.load 23 (Operand.tmp 185)), some 186, 23, true, none⟩
def t27_0 : It := ⟨(Op.buildSlice 22 0 #[]), some 176, 22, false, none⟩
def t27_3 : It := ⟨(Op.call { callee := (Callee.builtin Builtin.append), args := #[(Operand.tmp 176), (Operand.tmp 178)], argTypes := #[22, 22] }), some 179, 22, false, none⟩
def t27_4 : It := ⟨(Op.buildSlice 22 0 #[]), some 180, 22, false, none⟩
def t27_7 : It := ⟨(Op.call { callee := (Callee.builtin Builtin.append), args := #[(Operand.tmp 180), (Operand.tmp 182)], argTypes := #[22, 22] }), some 183, 22, false, none⟩
def t27_8 : It := ⟨(Op.buildSlice 23 0 #[]), some 184, 23, false, none⟩
def t27_11 : It := ⟨(Op.call { callee := (Callee.builtin Builtin.append), args := #[(Operand.tmp 184), (Operand.tmp 186)], argTypes := #[23, 23] }), some 187, 23, false, none⟩
def t27_12 : It := ⟨(Op.assign (Operand.tmp 179)), some 18, 22, false, none⟩
def t27_13 : It := ⟨(Op.assign (Operand.tmp 183)), some 19, 22, false, none⟩
def t27_14 : It := ⟨(Op.assign (Operand.tmp 187)), some 20, 23, false, none⟩
set_option maxRecDepth 100000 in
set_option maxHeartbeats 4000000 in
theorem tu_r27 {w W : World} {a : XP} {b ba bb m1 m2 : Nat} {bx bt gL gN : Nat} {cuL cuN : List Value} {v u : Value} (hf : a.Fine) (ha : a.At w) (hT : Tr w W W [(b, .cells #[a.sL, a.sN, a.sK] 25 (0, 0)), (ba, .cells #[.int .u8 (m1 : Int)] 5 (0, 0)), (bb, .cells #[.int .u8 (m2 : Int)] 5 (0, 0)), (bx, .cells #[.slice (some ⟨gL, 0, none⟩) a.L.length a.L.length, .slice (some ⟨gN, 0, none⟩) a.N.length a.N.length, v] 25 (0, 0)), (bt, .cells #[a.sL, a.sN, u] 25 (0, 0)), (gL, .cells (cuL).toArray 3 (0, 0)), (gN, .cells (cuN).toArray 3 (0, 0))]) {t : Array Value} (hSl : Slots (none :: none :: none :: some (.pointer (some ⟨b, 0, none⟩)) :: some (.pointer (some ⟨ba, 0, none⟩)) :: some (.pointer (some ⟨bb, 0, none⟩)) :: some (.bool false) :: some (.func (.func 48) #[] #[.pointer (some ⟨ba, 0, none⟩), .pointer (some ⟨b, 0, none⟩)]) :: some (.func (.func 49) #[] #[.pointer (some ⟨bb, 0, none⟩), .pointer (some ⟨b, 0, none⟩)]) :: some (.pointer (some ⟨bx, 0, none⟩)) :: some (.pointer (some ⟨bt, 0, none⟩)) :: none :: none :: none :: o4 (o4 (o16 (o16 (o64 (o64 (o64 (o64 (o64 (o64 [])))))))))) t) :
    Exec Try.prog none (sub (Try.f12.body.getD .skip) [1, 1, 1, 1, 1, 1, 1, 1, 1, 1, 1, 0]) t W (andThen (fun t' W' => ∃ (gA cA : Nat) (cuA : List Value) (gB cB : Nat) (cuB : List Value) (gC cC : Nat) (cuC : List Value), Tr w W' W' ((gA, .cells (cuA).toArray 3 (0, 0)) :: (gB, .cells (cuB).toArray 3 (0, 0)) :: (gC, .cells (cuC).toArray 50 (0, 0)) :: base27 a b ba bb m1 m2 bx bt gL gN cuL cuN v u) ∧ Pre cuA (a.L.map vi) ∧ Pre cuB (a.N.map vi) ∧ Pre cuC (flatV a.s3.2.2) ∧ Below W.heap.size W W' ∧ Slots (none :: none :: none :: some (.pointer (some ⟨b, 0, none⟩)) :: some (.pointer (some ⟨ba, 0, none⟩)) :: some (.pointer (some ⟨bb, 0, none⟩)) :: some (.bool false) :: some (.func (.func 48) #[] #[.pointer (some ⟨ba, 0, none⟩), .pointer (some ⟨b, 0, none⟩)]) :: some (.func (.func 49) #[] #[.pointer (some ⟨bb, 0, none⟩), .pointer (some ⟨b, 0, none⟩)]) :: some (.pointer (some ⟨bx, 0, none⟩)) :: some (.pointer (some ⟨bt, 0, none⟩)) :: none :: none :: none :: o4 (some (.slice (some ⟨gA, 0, none⟩) a.L.length cA) :: some (.slice (some ⟨gB, 0, none⟩) a.N.length cB) :: some (.slice (some ⟨gC, 0, none⟩) a.K.length cC) :: none :: o16 (o16 (o64 (o64 (o64 (o64 (o64 (o64 []))))))))) t') fun _ _ _ => False) := by
  have hu25 := Try.underlying25
  have hu22 := Try.underlying22
  have hu23 := Try.underlying23
  have h1 : a.L.length ≤ 1000 := by have := ha.l4; omega
  have h2 : a.N.length ≤ 1000 := by have := ha.n4; omega
  have h3 : a.s3.2.2.length ≤ 1000 := by have := ha.k4; have := s3_kin_len a; omega
  have hbw : Below W.heap.size W W.drew := (Below.refl _ W).drew
  have hT0 := hT.again.drew
  refine region_tree (c := (sub (Try.f12.body.getD .skip) [1, 1, 1, 1, 1, 1, 1, 1, 1, 1, 1, 0])) (id := 27) (.one 1 true (.one 2 true (.one 5 true (.one 6 true (.one 9 true (.one 10 true (.three 0 4 8 (.three 3 4 8 (.two 4 8 (.two 7 8 (.one 8 false (.one 11 false (.one 12 false (.one 13 false (.one 14 false (.nil)))))) (.one 7 false (.one 11 false (.one 12 false (.one 13 false (.one 14 false (.nil))))))) (.one 4 false (.one 7 false (.one 11 false (.one 12 false (.one 13 false (.one 14 false (.nil)))))))) (.two 3 8 (.two 7 8 (.one 8 false (.one 11 false (.one 12 false (.one 13 false (.one 14 false (.nil)))))) (.one 7 false (.one 11 false (.one 12 false (.one 13 false (.one 14 false (.nil))))))) (.one 3 false (.one 7 false (.one 11 false (.one 12 false (.one 13 false (.one 14 false (.nil)))))))) (.two 3 4 (.one 4 false (.one 7 false (.one 11 false (.one 12 false (.one 13 false (.one 14 false (.nil))))))) (.one 3 false (.one 7 false (.one 11 false (.one 12 false (.one 13 false (.one 14 false (.nil))))))))) (.two 0 8 (.two 3 8 (.two 7 8 (.one 8 false (.one 11 false (.one 12 false (.one 13 false (.one 14 false (.nil)))))) (.one 7 false (.one 11 false (.one 12 false (.one 13 false (.one 14 false (.nil))))))) (.one 3 false (.one 7 false (.one 11 false (.one 12 false (.one 13 false (.one 14 false (.nil)))))))) (.one 0 false (.one 3 false (.one 7 false (.one 11 false (.one 12 false (.one 13 false (.one 14 false (.nil))))))))) (.two 0 4 (.two 3 4 (.one 4 false (.one 7 false (.one 11 false (.one 12 false (.one 13 false (.one 14 false (.nil))))))) (.one 3 false (.one 7 false (.one 11 false (.one 12 false (.one 13 false (.one 14 false (.nil)))))))) (.one 0 false (.one 3 false (.one 7 false (.one 11 false (.one 12 false (.one 13 false (.one 14 false (.nil)))))))))))))))) (Opq (regOps (sub (Try.f12.body.getD .skip) [1, 1, 1, 1, 1, 1, 1, 1, 1, 1, 1, 0]))) rfl (by kernel_rfl) (by kernel_rfl) (by kernel_rfl) (by kernel_rfl) (by kernel_rfl) (by kernel_rfl) [0, 0, 2, 5, 0, 0, 32, 88, 0, 0, 512, 1408, 2063, 4351, 16383] (by kernel_rfl) (by kernel_rfl) (fun W' => W'.cell? ⟨b, 0, none⟩ = some (a.sL) ∧ W'.cell? ⟨b, 1, none⟩ = some (a.sN) ∧ W'.cell? ⟨b, 2, none⟩ = some (a.sK)) (fun _ _ _ => False) (fun _ _ _ h => h.elim) (fun _ _ _ _ _ _ _ _ h => h.elim) fun ds Q' hQn hQp => ?_
  have F0 : Fr (none :: none :: none :: some (.pointer (some ⟨b, 0, none⟩)) :: some (.pointer (some ⟨ba, 0, none⟩)) :: some (.pointer (some ⟨bb, 0, none⟩)) :: some (.bool false) :: some (.func (.func 48) #[] #[.pointer (some ⟨ba, 0, none⟩), .pointer (some ⟨b, 0, none⟩)]) :: some (.func (.func 49) #[] #[.pointer (some ⟨bb, 0, none⟩), .pointer (some ⟨b, 0, none⟩)]) :: some (.pointer (some ⟨bx, 0, none⟩)) :: some (.pointer (some ⟨bt, 0, none⟩)) :: none :: none :: none :: o4 (o4 (o16 (o16 (o64 (o64 (o64 (o64 (o64 (o64 [])))))))))) ds { tmps := t, defers := ds } := Fr.start hSl
  clear hSl
  generalize ({ tmps := t, defers := ds } : Act) = a0 at *
  generalize W.drew = X0 at *
  refine tr_take t27_1t (.pointer (some ⟨b, 0, none⟩)) (by kernel_rfl) rfl rfl (fun wq hq => ?_) ⟨hT0.cell 0 rfl rfl, hT0.cell 0 rfl rfl, hT0.cell 0 rfl rfl⟩ ?_; (focus (have e3 : a0.eval (.tmp 3) = (.pointer (some ⟨b, 0, none⟩)) := F0.ev 3 (by kernel_rfl); generalize a0.eval = ev at e3 ⊢; simp [go_sem, mkO, t27_1t, e3, hu25]; done))
  refine F0.next 177 (.pointer (some ⟨b, 0, none⟩)) fun a1 F1 => ?_
  clear F0
  refine tr_take t27_2t (a.sL) (by kernel_rfl) rfl rfl (fun wq hq => ?_) ⟨hT0.cell 0 rfl rfl, hT0.cell 0 rfl rfl, hT0.cell 0 rfl rfl⟩ ?_; (focus (have e177 : a1.eval (.tmp 177) = (.pointer (some ⟨b, 0, none⟩)) := F1.ev 177 (by kernel_rfl); generalize a1.eval = ev at e177 ⊢; simp [go_sem, mkO, t27_2t, e177, hq.1]; done))
  refine F1.next 178 (a.sL) fun a2 F2 => ?_
  clear F1 a1
  refine tr_take t27_5t (.pointer (some ⟨b, 1, none⟩)) (by kernel_rfl) rfl rfl (fun wq hq => ?_) ⟨hT0.cell 0 rfl rfl, hT0.cell 0 rfl rfl, hT0.cell 0 rfl rfl⟩ ?_; (focus (have e3 : a2.eval (.tmp 3) = (.pointer (some ⟨b, 0, none⟩)) := F2.ev 3 (by kernel_rfl); generalize a2.eval = ev at e3 ⊢; simp [go_sem, mkO, t27_5t, e3, hu25]; done))
  refine F2.next 181 (.pointer (some ⟨b, 1, none⟩)) fun a3 F3 => ?_
  clear F2 a2
  refine tr_take t27_6t (a.sN) (by kernel_rfl) rfl rfl (fun wq hq => ?_) ⟨hT0.cell 0 rfl rfl, hT0.cell 0 rfl rfl, hT0.cell 0 rfl rfl⟩ ?_; (focus (have e181 : a3.eval (.tmp 181) = (.pointer (some ⟨b, 1, none⟩)) := F3.ev 181 (by kernel_rfl); generalize a3.eval = ev at e181 ⊢; simp [go_sem, mkO, t27_6t, e181, hq.2.1]; done))
  refine F3.next 182 (a.sN) fun a4 F4 => ?_
  clear F3 a3
  refine tr_take t27_9t (.pointer (some ⟨b, 2, none⟩)) (by kernel_rfl) rfl rfl (fun wq hq => ?_) ⟨hT0.cell 0 rfl rfl, hT0.cell 0 rfl rfl, hT0.cell 0 rfl rfl⟩ ?_; (focus (have e3 : a4.eval (.tmp 3) = (.pointer (some ⟨b, 0, none⟩)) := F4.ev 3 (by kernel_rfl); generalize a4.eval = ev at e3 ⊢; simp [go_sem, mkO, t27_9t, e3, hu25]; done))
  refine F4.next 185 (.pointer (some ⟨b, 2, none⟩)) fun a5 F5 => ?_
  clear F4 a4
  refine tr_take t27_10t (a.sK) (by kernel_rfl) rfl rfl (fun wq hq => ?_) ⟨hT0.cell 0 rfl rfl, hT0.cell 0 rfl rfl, hT0.cell 0 rfl rfl⟩ ?_; (focus (have e185 : a5.eval (.tmp 185) = (.pointer (some ⟨b, 2, none⟩)) := F5.ev 185 (by kernel_rfl); generalize a5.eval = ev at e185 ⊢; simp [go_sem, mkO, t27_10t, e185, hq.2.2]; done))
  refine F5.next 186 (a.sK) fun a6 F6 => ?_
  clear F5 a5
  refine ⟨?_, ?_, ?_⟩
  · have hT1 : Tr w W (X0.alloc (.cells #[] 3)) ((X0.heap.size, .cells #[] 3 (0, 0)) :: base27 a b ba bb m1 m2 bx bt gL gN cuL cuN v u) := hT0.alloc (.cells #[] 3)
    refine tr_make t27_0 (.slice (some ⟨X0.heap.size, 0, none⟩) 0 0) (X0.alloc (.cells #[] 3)) (by kernel_rfl) rfl rfl ?_ ⟨hT1.cell 1 rfl rfl, hT1.cell 1 rfl rfl, hT1.cell 1 rfl rfl⟩ ?_; (focus (simp [go_sem, mkO, t27_0, hu22]; done))
    replace hbw := hbw.alloc hbw.size (.cells #[] 3)
    obtain ⟨zA, hgzA⟩ : ∃ b, X0.heap.size = b := ⟨_, rfl⟩
    simp only [hgzA] at hT1 ⊢
    generalize X0.alloc (.cells #[] 3) = X1 at *
    clear hgzA hT0
    clear X0
    refine F6.next 176 (.slice (some ⟨zA, 0, none⟩) 0 0) fun a7 F7 => ?_
    clear F6 a6
    refine ⟨?_, ?_, ?_⟩
    · obtain ⟨gA, cA, cuA, X2, hrun, hTa, hpA, hba⟩ := hT1.app_ints 0 rfl (A := a.AL) (L := a.L) (n := a.L.length) (c := a.cL) ((ha.below hT1.below).l) h1 rfl 22
      skip
      have hT2 : Tr w W X2 ((gA, .cells (cuA).toArray 3 (0, 0)) :: base27 a b ba bb m1 m2 bx bt gL gN cuL cuN v u) := hTa
      clear hTa
      refine tr_make t27_3 (.slice (some ⟨gA, 0, none⟩) a.L.length cA) X2 (by kernel_rfl) rfl rfl (exec_append _ _ 22 rfl (F7.ev 176 (by kernel_rfl)) (F7.ev 178 (by kernel_rfl)) hrun) ⟨hT2.cell 1 rfl rfl, hT2.cell 1 rfl rfl, hT2.cell 1 rfl rfl⟩ ?_
      replace hbw := hbw.trans (hba.mono hbw.size)
      clear hrun hba hT1
      clear X1
      refine F7.next 179 (.slice (some ⟨gA, 0, none⟩) a.L.length cA) fun a8 F8 => ?_
      clear F7 a7
      refine ⟨?_, ?_⟩
      · have hT3 : Tr w W (X2.alloc (.cells #[] 3)) ((X2.heap.size, .cells #[] 3 (0, 0)) :: (gA, .cells (cuA).toArray 3 (0, 0)) :: base27 a b ba bb m1 m2 bx bt gL gN cuL cuN v u) := hT2.alloc (.cells #[] 3)
        refine tr_make t27_4 (.slice (some ⟨X2.heap.size, 0, none⟩) 0 0) (X2.alloc (.cells #[] 3)) (by kernel_rfl) rfl rfl ?_ ⟨hT3.cell 2 rfl rfl, hT3.cell 2 rfl rfl, hT3.cell 2 rfl rfl⟩ ?_; (focus (simp [go_sem, mkO, t27_4, hu22]; done))
        replace hbw := hbw.alloc hbw.size (.cells #[] 3)
        obtain ⟨zB, hgzB⟩ : ∃ b, X2.heap.size = b := ⟨_, rfl⟩
        simp only [hgzB] at hT3 ⊢
        generalize X2.alloc (.cells #[] 3) = X3 at *
        clear hgzB hT2
        clear X2
        refine F8.next 180 (.slice (some ⟨zB, 0, none⟩) 0 0) fun a9 F9 => ?_
        clear F8 a8
        refine ⟨?_, ?_⟩
        · obtain ⟨gB, cB, cuB, X4, hrun, hTa, hpB, hba⟩ := hT3.app_ints 0 rfl (A := a.AN) (L := a.N) (n := a.N.length) (c := a.cN) ((ha.below hT3.below).n) h2 rfl 22
          skip
          have hT4 : Tr w W X4 ((gB, .cells (cuB).toArray 3 (0, 0)) :: (gA, .cells (cuA).toArray 3 (0, 0)) :: base27 a b ba bb m1 m2 bx bt gL gN cuL cuN v u) := hTa
          clear hTa
          refine tr_make t27_7 (.slice (some ⟨gB, 0, none⟩) a.N.length cB) X4 (by kernel_rfl) rfl rfl (exec_append _ _ 22 rfl (F9.ev 180 (by kernel_rfl)) (F9.ev 182 (by kernel_rfl)) hrun) ⟨hT4.cell 2 rfl rfl, hT4.cell 2 rfl rfl, hT4.cell 2 rfl rfl⟩ ?_
          replace hbw := hbw.trans (hba.mono hbw.size)
          clear hrun hba hT3
          clear X3
          refine F9.next 183 (.slice (some ⟨gB, 0, none⟩) a.N.length cB) fun a10 F10 => ?_
          clear F9 a9
          have hT5 : Tr w W (X4.alloc (.cells #[] 50)) ((X4.heap.size, .cells #[] 50 (0, 0)) :: (gB, .cells (cuB).toArray 3 (0, 0)) :: (gA, .cells (cuA).toArray 3 (0, 0)) :: base27 a b ba bb m1 m2 bx bt gL gN cuL cuN v u) := hT4.alloc (.cells #[] 50)
          refine tr_make t27_8 (.slice (some ⟨X4.heap.size, 0, none⟩) 0 0) (X4.alloc (.cells #[] 50)) (by kernel_rfl) rfl rfl ?_ ⟨hT5.cell 3 rfl rfl, hT5.cell 3 rfl rfl, hT5.cell 3 rfl rfl⟩ ?_; (focus (simp [go_sem, mkO, t27_8, hu23]; done))
          replace hbw := hbw.alloc hbw.size (.cells #[] 50)
          obtain ⟨zC, hgzC⟩ : ∃ b, X4.heap.size = b := ⟨_, rfl⟩
          simp only [hgzC] at hT5 ⊢
          generalize X4.alloc (.cells #[] 50) = X5 at *
          clear hgzC hT4
          clear X4
          refine F10.next 184 (.slice (some ⟨zC, 0, none⟩) 0 0) fun a11 F11 => ?_
          clear F10 a10
          obtain ⟨gC, cC, cuC, X6, hrun, hTa, hpC, hba⟩ := hT5.app_kin 0 rfl (A := a.AK) (n := a.K.length) (c := a.cK) (rowK_of hf (ha.below hT5.below)) h3 (s3_kin_len a).symm 23
          replace hpC := hpC.1
          have hT6 : Tr w W X6 ((gC, .cells (cuC).toArray 50 (0, 0)) :: (gB, .cells (cuB).toArray 3 (0, 0)) :: (gA, .cells (cuA).toArray 3 (0, 0)) :: base27 a b ba bb m1 m2 bx bt gL gN cuL cuN v u) := hTa
          clear hTa
          refine tr_make t27_11 (.slice (some ⟨gC, 0, none⟩) a.K.length cC) X6 (by kernel_rfl) rfl rfl (exec_append _ _ 23 rfl (F11.ev 184 (by kernel_rfl)) (F11.ev 186 (by kernel_rfl)) hrun) ⟨hT6.cell 3 rfl rfl, hT6.cell 3 rfl rfl, hT6.cell 3 rfl rfl⟩ ?_
          replace hbw := hbw.trans (hba.mono hbw.size)
          clear hrun hba hT5
          clear X5
          refine F11.next 187 (.slice (some ⟨gC, 0, none⟩) a.K.length cC) fun a12 F12 => ?_
          clear F11 a11
          refine tr_make t27_12 (.slice (some ⟨gA, 0, none⟩) a.L.length cA) _ (by kernel_rfl) rfl rfl ?_ ⟨hT6.cell 3 rfl rfl, hT6.cell 3 rfl rfl, hT6.cell 3 rfl rfl⟩ ?_; (focus (have hq := (show (fun W' : World => W'.cell? ⟨b, 0, none⟩ = some (a.sL) ∧ W'.cell? ⟨b, 1, none⟩ = some (a.sN) ∧ W'.cell? ⟨b, 2, none⟩ = some (a.sK)) X6 from ⟨hT6.cell 3 rfl rfl, hT6.cell 3 rfl rfl, hT6.cell 3 rfl rfl⟩); have e179 : a12.eval (.tmp 179) = (.slice (some ⟨gA, 0, none⟩) a.L.length cA) := F12.ev 179 (by kernel_rfl); generalize a12.eval = ev at e179 ⊢; simp [go_sem, mkO, t27_12, e179]; done))
          refine F12.next 18 (.slice (some ⟨gA, 0, none⟩) a.L.length cA) fun a13 F13 => ?_
          clear F12 a12
          refine tr_make t27_13 (.slice (some ⟨gB, 0, none⟩) a.N.length cB) _ (by kernel_rfl) rfl rfl ?_ ⟨hT6.cell 3 rfl rfl, hT6.cell 3 rfl rfl, hT6.cell 3 rfl rfl⟩ ?_; (focus (have hq := (show (fun W' : World => W'.cell? ⟨b, 0, none⟩ = some (a.sL) ∧ W'.cell? ⟨b, 1, none⟩ = some (a.sN) ∧ W'.cell? ⟨b, 2, none⟩ = some (a.sK)) X6 from ⟨hT6.cell 3 rfl rfl, hT6.cell 3 rfl rfl, hT6.cell 3 rfl rfl⟩); have e183 : a13.eval (.tmp 183) = (.slice (some ⟨gB, 0, none⟩) a.N.length cB) := F13.ev 183 (by kernel_rfl); generalize a13.eval = ev at e183 ⊢; simp [go_sem, mkO, t27_13, e183]; done))
          refine F13.next 19 (.slice (some ⟨gB, 0, none⟩) a.N.length cB) fun a14 F14 => ?_
          clear F13 a13
          refine tr_make t27_14 (.slice (some ⟨gC, 0, none⟩) a.K.length cC) _ (by kernel_rfl) rfl rfl ?_ ⟨hT6.cell 3 rfl rfl, hT6.cell 3 rfl rfl, hT6.cell 3 rfl rfl⟩ ?_; (focus (have hq := (show (fun W' : World => W'.cell? ⟨b, 0, none⟩ = some (a.sL) ∧ W'.cell? ⟨b, 1, none⟩ = some (a.sN) ∧ W'.cell? ⟨b, 2, none⟩ = some (a.sK)) X6 from ⟨hT6.cell 3 rfl rfl, hT6.cell 3 rfl rfl, hT6.cell 3 rfl rfl⟩); have e187 : a14.eval (.tmp 187) = (.slice (some ⟨gC, 0, none⟩) a.K.length cC) := F14.ev 187 (by kernel_rfl); generalize a14.eval = ev at e187 ⊢; simp [go_sem, mkO, t27_14, e187]; done))
          refine F14.next 20 (.slice (some ⟨gC, 0, none⟩) a.K.length cC) fun a15 F15 => ?_
          clear F14 a14
          exact F15.out hQn hT6.keep ⟨gA, cA, cuA, gB, cB, cuB, gC, cC, cuC, (hT6.pick [2, 1, 0, 3, 4, 5, 6, 7, 8, 9] (by kernel_rfl) (by kernel_rfl) (by kernel_rfl)).again, hpA, hpB, hpC, hbw, (F15.fin [176, 177, 178, 179, 180, 181, 182, 183, 184, 185, 186, 187] (by kernel_rfl))⟩
        · have hT4 : Tr w W (X3.alloc (.cells #[] 50)) ((X3.heap.size, .cells #[] 50 (0, 0)) :: (zB, .cells #[] 3 (0, 0)) :: (gA, .cells (cuA).toArray 3 (0, 0)) :: base27 a b ba bb m1 m2 bx bt gL gN cuL cuN v u) := hT3.alloc (.cells #[] 50)
          refine tr_make t27_8 (.slice (some ⟨X3.heap.size, 0, none⟩) 0 0) (X3.alloc (.cells #[] 50)) (by kernel_rfl) rfl rfl ?_ ⟨hT4.cell 3 rfl rfl, hT4.cell 3 rfl rfl, hT4.cell 3 rfl rfl⟩ ?_; (focus (simp [go_sem, mkO, t27_8, hu23]; done))
          replace hbw := hbw.alloc hbw.size (.cells #[] 50)
          obtain ⟨zC, hgzC⟩ : ∃ b, X3.heap.size = b := ⟨_, rfl⟩
          simp only [hgzC] at hT4 ⊢
          generalize X3.alloc (.cells #[] 50) = X4 at *
          clear hgzC hT3
          clear X3
          refine F9.next 184 (.slice (some ⟨zC, 0, none⟩) 0 0) fun a10 F10 => ?_
          clear F9 a9
          obtain ⟨gB, cB, cuB, X5, hrun, hTa, hpB, hba⟩ := hT4.app_ints 1 rfl (A := a.AN) (L := a.N) (n := a.N.length) (c := a.cN) ((ha.below hT4.below).n) h2 rfl 22
          skip
          have hT5 : Tr w W X5 ((zC, .cells #[] 50 (0, 0)) :: (gB, .cells (cuB).toArray 3 (0, 0)) :: (gA, .cells (cuA).toArray 3 (0, 0)) :: base27 a b ba bb m1 m2 bx bt gL gN cuL cuN v u) := hTa
          clear hTa
          refine tr_make t27_7 (.slice (some ⟨gB, 0, none⟩) a.N.length cB) X5 (by kernel_rfl) rfl rfl (exec_append _ _ 22 rfl (F10.ev 180 (by kernel_rfl)) (F10.ev 182 (by kernel_rfl)) hrun) ⟨hT5.cell 3 rfl rfl, hT5.cell 3 rfl rfl, hT5.cell 3 rfl rfl⟩ ?_
          replace hbw := hbw.trans (hba.mono hbw.size)
          clear hrun hba hT4
          clear X4
          refine F10.next 183 (.slice (some ⟨gB, 0, none⟩) a.N.length cB) fun a11 F11 => ?_
          clear F10 a10
          obtain ⟨gC, cC, cuC, X6, hrun, hTa, hpC, hba⟩ := hT5.app_kin 0 rfl (A := a.AK) (n := a.K.length) (c := a.cK) (rowK_of hf (ha.below hT5.below)) h3 (s3_kin_len a).symm 23
          replace hpC := hpC.1
          have hT6 : Tr w W X6 ((gC, .cells (cuC).toArray 50 (0, 0)) :: (gB, .cells (cuB).toArray 3 (0, 0)) :: (gA, .cells (cuA).toArray 3 (0, 0)) :: base27 a b ba bb m1 m2 bx bt gL gN cuL cuN v u) := hTa
          clear hTa
          refine tr_make t27_11 (.slice (some ⟨gC, 0, none⟩) a.K.length cC) X6 (by kernel_rfl) rfl rfl (exec_append _ _ 23 rfl (F11.ev 184 (by kernel_rfl)) (F11.ev 186 (by kernel_rfl)) hrun) ⟨hT6.cell 3 rfl rfl, hT6.cell 3 rfl rfl, hT6.cell 3 rfl rfl⟩ ?_
          replace hbw := hbw.trans (hba.mono hbw.size)
          clear hrun hba hT5
          clear X5
          refine F11.next 187 (.slice (some ⟨gC, 0, none⟩) a.K.length cC) fun a12 F12 => ?_
          clear F11 a11
          refine tr_make t27_12 (.slice (some ⟨gA, 0, none⟩) a.L.length cA) _ (by kernel_rfl) rfl rfl ?_ ⟨hT6.cell 3 rfl rfl, hT6.cell 3 rfl rfl, hT6.cell 3 rfl rfl⟩ ?_; (focus (have hq := (show (fun W' : World => W'.cell? ⟨b, 0, none⟩ = some (a.sL) ∧ W'.cell? ⟨b, 1, none⟩ = some (a.sN) ∧ W'.cell? ⟨b, 2, none⟩ = some (a.sK)) X6 from ⟨hT6.cell 3 rfl rfl, hT6.cell 3 rfl rfl, hT6.cell 3 rfl rfl⟩); have e179 : a12.eval (.tmp 179) = (.slice (some ⟨gA, 0, none⟩) a.L.length cA) := F12.ev 179 (by kernel_rfl); generalize a12.eval = ev at e179 ⊢; simp [go_sem, mkO, t27_12, e179]; done))
          refine F12.next 18 (.slice (some ⟨gA, 0, none⟩) a.L.length cA) fun a13 F13 => ?_
          clear F12 a12
          refine tr_make t27_13 (.slice (some ⟨gB, 0, none⟩) a.N.length cB) _ (by kernel_rfl) rfl rfl ?_ ⟨hT6.cell 3 rfl rfl, hT6.cell 3 rfl rfl, hT6.cell 3 rfl rfl⟩ ?_; (focus (have hq := (show (fun W' : World => W'.cell? ⟨b, 0, none⟩ = some (a.sL) ∧ W'.cell? ⟨b, 1, none⟩ = some (a.sN) ∧ W'.cell? ⟨b, 2, none⟩ = some (a.sK)) X6 from ⟨hT6.cell 3 rfl rfl, hT6.cell 3 rfl rfl, hT6.cell 3 rfl rfl⟩); have e183 : a13.eval (.tmp 183) = (.slice (some ⟨gB, 0, none⟩) a.N.length cB) := F13.ev 183 (by kernel_rfl); generalize a13.eval = ev at e183 ⊢; simp [go_sem, mkO, t27_13, e183]; done))
          refine F13.next 19 (.slice (some ⟨gB, 0, none⟩) a.N.length cB) fun a14 F14 => ?_
          clear F13 a13
          refine tr_make t27_14 (.slice (some ⟨gC, 0, none⟩) a.K.length cC) _ (by kernel_rfl) rfl rfl ?_ ⟨hT6.cell 3 rfl rfl, hT6.cell 3 rfl rfl, hT6.cell 3 rfl rfl⟩ ?_; (focus (have hq := (show (fun W' : World => W'.cell? ⟨b, 0, none⟩ = some (a.sL) ∧ W'.cell? ⟨b, 1, none⟩ = some (a.sN) ∧ W'.cell? ⟨b, 2, none⟩ = some (a.sK)) X6 from ⟨hT6.cell 3 rfl rfl, hT6.cell 3 rfl rfl, hT6.cell 3 rfl rfl⟩); have e187 : a14.eval (.tmp 187) = (.slice (some ⟨gC, 0, none⟩) a.K.length cC) := F14.ev 187 (by kernel_rfl); generalize a14.eval = ev at e187 ⊢; simp [go_sem, mkO, t27_14, e187]; done))
          refine F14.next 20 (.slice (some ⟨gC, 0, none⟩) a.K.length cC) fun a15 F15 => ?_
          clear F14 a14
          exact F15.out hQn hT6.keep ⟨gA, cA, cuA, gB, cB, cuB, gC, cC, cuC, (hT6.pick [2, 1, 0, 3, 4, 5, 6, 7, 8, 9] (by kernel_rfl) (by kernel_rfl) (by kernel_rfl)).again, hpA, hpB, hpC, hbw, (F15.fin [176, 177, 178, 179, 180, 181, 182, 183, 184, 185, 186, 187] (by kernel_rfl))⟩
      · have hT3 : Tr w W (X2.alloc (.cells #[] 50)) ((X2.heap.size, .cells #[] 50 (0, 0)) :: (gA, .cells (cuA).toArray 3 (0, 0)) :: base27 a b ba bb m1 m2 bx bt gL gN cuL cuN v u) := hT2.alloc (.cells #[] 50)
        refine tr_make t27_8 (.slice (some ⟨X2.heap.size, 0, none⟩) 0 0) (X2.alloc (.cells #[] 50)) (by kernel_rfl) rfl rfl ?_ ⟨hT3.cell 2 rfl rfl, hT3.cell 2 rfl rfl, hT3.cell 2 rfl rfl⟩ ?_; (focus (simp [go_sem, mkO, t27_8, hu23]; done))
        replace hbw := hbw.alloc hbw.size (.cells #[] 50)
        obtain ⟨zC, hgzC⟩ : ∃ b, X2.heap.size = b := ⟨_, rfl⟩
        simp only [hgzC] at hT3 ⊢
        generalize X2.alloc (.cells #[] 50) = X3 at *
        clear hgzC hT2
        clear X2
        refine F8.next 184 (.slice (some ⟨zC, 0, none⟩) 0 0) fun a9 F9 => ?_
        clear F8 a8
        have hT4 : Tr w W (X3.alloc (.cells #[] 3)) ((X3.heap.size, .cells #[] 3 (0, 0)) :: (zC, .cells #[] 50 (0, 0)) :: (gA, .cells (cuA).toArray 3 (0, 0)) :: base27 a b ba bb m1 m2 bx bt gL gN cuL cuN v u) := hT3.alloc (.cells #[] 3)
        refine tr_make t27_4 (.slice (some ⟨X3.heap.size, 0, none⟩) 0 0) (X3.alloc (.cells #[] 3)) (by kernel_rfl) rfl rfl ?_ ⟨hT4.cell 3 rfl rfl, hT4.cell 3 rfl rfl, hT4.cell 3 rfl rfl⟩ ?_; (focus (simp [go_sem, mkO, t27_4, hu22]; done))
        replace hbw := hbw.alloc hbw.size (.cells #[] 3)
        obtain ⟨zB, hgzB⟩ : ∃ b, X3.heap.size = b := ⟨_, rfl⟩
        simp only [hgzB] at hT4 ⊢
        generalize X3.alloc (.cells #[] 3) = X4 at *
        clear hgzB hT3
        clear X3
        refine F9.next 180 (.slice (some ⟨zB, 0, none⟩) 0 0) fun a10 F10 => ?_
        clear F9 a9
        obtain ⟨gB, cB, cuB, X5, hrun, hTa, hpB, hba⟩ := hT4.app_ints 0 rfl (A := a.AN) (L := a.N) (n := a.N.length) (c := a.cN) ((ha.below hT4.below).n) h2 rfl 22
        skip
        have hT5 : Tr w W X5 ((gB, .cells (cuB).toArray 3 (0, 0)) :: (zC, .cells #[] 50 (0, 0)) :: (gA, .cells (cuA).toArray 3 (0, 0)) :: base27 a b ba bb m1 m2 bx bt gL gN cuL cuN v u) := hTa
        clear hTa
        refine tr_make t27_7 (.slice (some ⟨gB, 0, none⟩) a.N.length cB) X5 (by kernel_rfl) rfl rfl (exec_append _ _ 22 rfl (F10.ev 180 (by kernel_rfl)) (F10.ev 182 (by kernel_rfl)) hrun) ⟨hT5.cell 3 rfl rfl, hT5.cell 3 rfl rfl, hT5.cell 3 rfl rfl⟩ ?_
        replace hbw := hbw.trans (hba.mono hbw.size)
        clear hrun hba hT4
        clear X4
        refine F10.next 183 (.slice (some ⟨gB, 0, none⟩) a.N.length cB) fun a11 F11 => ?_
        clear F10 a10
        obtain ⟨gC, cC, cuC, X6, hrun, hTa, hpC, hba⟩ := hT5.app_kin 1 rfl (A := a.AK) (n := a.K.length) (c := a.cK) (rowK_of hf (ha.below hT5.below)) h3 (s3_kin_len a).symm 23
        replace hpC := hpC.1
        have hT6 : Tr w W X6 ((gB, .cells (cuB).toArray 3 (0, 0)) :: (gC, .cells (cuC).toArray 50 (0, 0)) :: (gA, .cells (cuA).toArray 3 (0, 0)) :: base27 a b ba bb m1 m2 bx bt gL gN cuL cuN v u) := hTa
        clear hTa
        refine tr_make t27_11 (.slice (some ⟨gC, 0, none⟩) a.K.length cC) X6 (by kernel_rfl) rfl rfl (exec_append _ _ 23 rfl (F11.ev 184 (by kernel_rfl)) (F11.ev 186 (by kernel_rfl)) hrun) ⟨hT6.cell 3 rfl rfl, hT6.cell 3 rfl rfl, hT6.cell 3 rfl rfl⟩ ?_
        replace hbw := hbw.trans (hba.mono hbw.size)
        clear hrun hba hT5
        clear X5
        refine F11.next 187 (.slice (some ⟨gC, 0, none⟩) a.K.length cC) fun a12 F12 => ?_
        clear F11 a11
        refine tr_make t27_12 (.slice (some ⟨gA, 0, none⟩) a.L.length cA) _ (by kernel_rfl) rfl rfl ?_ ⟨hT6.cell 3 rfl rfl, hT6.cell 3 rfl rfl, hT6.cell 3 rfl rfl⟩ ?_; (focus (have hq := (show (fun W' : World => W'.cell? ⟨b, 0, none⟩ = some (a.sL) ∧ W'.cell? ⟨b, 1, none⟩ = some (a.sN) ∧ W'.cell? ⟨b, 2, none⟩ = some (a.sK)) X6 from ⟨hT6.cell 3 rfl rfl, hT6.cell 3 rfl rfl, hT6.cell 3 rfl rfl⟩); have e179 : a12.eval (.tmp 179) = (.slice (some ⟨gA, 0, none⟩) a.L.length cA) := F12.ev 179 (by kernel_rfl); generalize a12.eval = ev at e179 ⊢; simp [go_sem, mkO, t27_12, e179]; done))
        refine F12.next 18 (.slice (some ⟨gA, 0, none⟩) a.L.length cA) fun a13 F13 => ?_
        clear F12 a12
        refine tr_make t27_13 (.slice (some ⟨gB, 0, none⟩) a.N.length cB) _ (by kernel_rfl) rfl rfl ?_ ⟨hT6.cell 3 rfl rfl, hT6.cell 3 rfl rfl, hT6.cell 3 rfl rfl⟩ ?_; (focus (have hq := (show (fun W' : World => W'.cell? ⟨b, 0, none⟩ = some (a.sL) ∧ W'.cell? ⟨b, 1, none⟩ = some (a.sN) ∧ W'.cell? ⟨b, 2, none⟩ = some (a.sK)) X6 from ⟨hT6.cell 3 rfl rfl, hT6.cell 3 rfl rfl, hT6.cell 3 rfl rfl⟩); have e183 : a13.eval (.tmp 183) = (.slice (some ⟨gB, 0, none⟩) a.N.length cB) := F13.ev 183 (by kernel_rfl); generalize a13.eval = ev at e183 ⊢; simp [go_sem, mkO, t27_13, e183]; done))
        refine F13.next 19 (.slice (some ⟨gB, 0, none⟩) a.N.length cB) fun a14 F14 => ?_
        clear F13 a13
        refine tr_make t27_14 (.slice (some ⟨gC, 0, none⟩) a.K.length cC) _ (by kernel_rfl) rfl rfl ?_ ⟨hT6.cell 3 rfl rfl, hT6.cell 3 rfl rfl, hT6.cell 3 rfl rfl⟩ ?_; (focus (have hq := (show (fun W' : World => W'.cell? ⟨b, 0, none⟩ = some (a.sL) ∧ W'.cell? ⟨b, 1, none⟩ = some (a.sN) ∧ W'.cell? ⟨b, 2, none⟩ = some (a.sK)) X6 from ⟨hT6.cell 3 rfl rfl, hT6.cell 3 rfl rfl, hT6.cell 3 rfl rfl⟩); have e187 : a14.eval (.tmp 187) = (.slice (some ⟨gC, 0, none⟩) a.K.length cC) := F14.ev 187 (by kernel_rfl); generalize a14.eval = ev at e187 ⊢; simp [go_sem, mkO, t27_14, e187]; done))
        refine F14.next 20 (.slice (some ⟨gC, 0, none⟩) a.K.length cC) fun a15 F15 => ?_
        clear F14 a14
        exact F15.out hQn hT6.keep ⟨gA, cA, cuA, gB, cB, cuB, gC, cC, cuC, (hT6.pick [2, 0, 1, 3, 4, 5, 6, 7, 8, 9] (by kernel_rfl) (by kernel_rfl) (by kernel_rfl)).again, hpA, hpB, hpC, hbw, (F15.fin [176, 177, 178, 179, 180, 181, 182, 183, 184, 185, 186, 187] (by kernel_rfl))⟩
    · have hT2 : Tr w W (X1.alloc (.cells #[] 3)) ((X1.heap.size, .cells #[] 3 (0, 0)) :: (zA, .cells #[] 3 (0, 0)) :: base27 a b ba bb m1 m2 bx bt gL gN cuL cuN v u) := hT1.alloc (.cells #[] 3)
      refine tr_make t27_4 (.slice (some ⟨X1.heap.size, 0, none⟩) 0 0) (X1.alloc (.cells #[] 3)) (by kernel_rfl) rfl rfl ?_ ⟨hT2.cell 2 rfl rfl, hT2.cell 2 rfl rfl, hT2.cell 2 rfl rfl⟩ ?_; (focus (simp [go_sem, mkO, t27_4, hu22]; done))
      replace hbw := hbw.alloc hbw.size (.cells #[] 3)
      obtain ⟨zB, hgzB⟩ : ∃ b, X1.heap.size = b := ⟨_, rfl⟩
      simp only [hgzB] at hT2 ⊢
      generalize X1.alloc (.cells #[] 3) = X2 at *
      clear hgzB hT1
      clear X1
      refine F7.next 180 (.slice (some ⟨zB, 0, none⟩) 0 0) fun a8 F8 => ?_
      clear F7 a7
      refine ⟨?_, ?_⟩
      · obtain ⟨gA, cA, cuA, X3, hrun, hTa, hpA, hba⟩ := hT2.app_ints 1 rfl (A := a.AL) (L := a.L) (n := a.L.length) (c := a.cL) ((ha.below hT2.below).l) h1 rfl 22
        skip
        have hT3 : Tr w W X3 ((zB, .cells #[] 3 (0, 0)) :: (gA, .cells (cuA).toArray 3 (0, 0)) :: base27 a b ba bb m1 m2 bx bt gL gN cuL cuN v u) := hTa
        clear hTa
        refine tr_make t27_3 (.slice (some ⟨gA, 0, none⟩) a.L.length cA) X3 (by kernel_rfl) rfl rfl (exec_append _ _ 22 rfl (F8.ev 176 (by kernel_rfl)) (F8.ev 178 (by kernel_rfl)) hrun) ⟨hT3.cell 2 rfl rfl, hT3.cell 2 rfl rfl, hT3.cell 2 rfl rfl⟩ ?_
        replace hbw := hbw.trans (hba.mono hbw.size)
        clear hrun hba hT2
        clear X2
        refine F8.next 179 (.slice (some ⟨gA, 0, none⟩) a.L.length cA) fun a9 F9 => ?_
        clear F8 a8
        refine ⟨?_, ?_⟩
        · obtain ⟨gB, cB, cuB, X4, hrun, hTa, hpB, hba⟩ := hT3.app_ints 0 rfl (A := a.AN) (L := a.N) (n := a.N.length) (c := a.cN) ((ha.below hT3.below).n) h2 rfl 22
          skip
          have hT4 : Tr w W X4 ((gB, .cells (cuB).toArray 3 (0, 0)) :: (gA, .cells (cuA).toArray 3 (0, 0)) :: base27 a b ba bb m1 m2 bx bt gL gN cuL cuN v u) := hTa
          clear hTa
          refine tr_make t27_7 (.slice (some ⟨gB, 0, none⟩) a.N.length cB) X4 (by kernel_rfl) rfl rfl (exec_append _ _ 22 rfl (F9.ev 180 (by kernel_rfl)) (F9.ev 182 (by kernel_rfl)) hrun) ⟨hT4.cell 2 rfl rfl, hT4.cell 2 rfl rfl, hT4.cell 2 rfl rfl⟩ ?_
          replace hbw := hbw.trans (hba.mono hbw.size)
          clear hrun hba hT3
          clear X3
          refine F9.next 183 (.slice (some ⟨gB, 0, none⟩) a.N.length cB) fun a10 F10 => ?_
          clear F9 a9
          have hT5 : Tr w W (X4.alloc (.cells #[] 50)) ((X4.heap.size, .cells #[] 50 (0, 0)) :: (gB, .cells (cuB).toArray 3 (0, 0)) :: (gA, .cells (cuA).toArray 3 (0, 0)) :: base27 a b ba bb m1 m2 bx bt gL gN cuL cuN v u) := hT4.alloc (.cells #[] 50)
          refine tr_make t27_8 (.slice (some ⟨X4.heap.size, 0, none⟩) 0 0) (X4.alloc (.cells #[] 50)) (by kernel_rfl) rfl rfl ?_ ⟨hT5.cell 3 rfl rfl, hT5.cell 3 rfl rfl, hT5.cell 3 rfl rfl⟩ ?_; (focus (simp [go_sem, mkO, t27_8, hu23]; done))
          replace hbw := hbw.alloc hbw.size (.cells #[] 50)
          obtain ⟨zC, hgzC⟩ : ∃ b, X4.heap.size = b := ⟨_, rfl⟩
          simp only [hgzC] at hT5 ⊢
          generalize X4.alloc (.cells #[] 50) = X5 at *
          clear hgzC hT4
          clear X4
          refine F10.next 184 (.slice (some ⟨zC, 0, none⟩) 0 0) fun a11 F11 => ?_
          clear F10 a10
          obtain ⟨gC, cC, cuC, X6, hrun, hTa, hpC, hba⟩ := hT5.app_kin 0 rfl (A := a.AK) (n := a.K.length) (c := a.cK) (rowK_of hf (ha.below hT5.below)) h3 (s3_kin_len a).symm 23
          replace hpC := hpC.1
          have hT6 : Tr w W X6 ((gC, .cells (cuC).toArray 50 (0, 0)) :: (gB, .cells (cuB).toArray 3 (0, 0)) :: (gA, .cells (cuA).toArray 3 (0, 0)) :: base27 a b ba bb m1 m2 bx bt gL gN cuL cuN v u) := hTa
          clear hTa
          refine tr_make t27_11 (.slice (some ⟨gC, 0, none⟩) a.K.length cC) X6 (by kernel_rfl) rfl rfl (exec_append _ _ 23 rfl (F11.ev 184 (by kernel_rfl)) (F11.ev 186 (by kernel_rfl)) hrun) ⟨hT6.cell 3 rfl rfl, hT6.cell 3 rfl rfl, hT6.cell 3 rfl rfl⟩ ?_
          replace hbw := hbw.trans (hba.mono hbw.size)
          clear hrun hba hT5
          clear X5
          refine F11.next 187 (.slice (some ⟨gC, 0, none⟩) a.K.length cC) fun a12 F12 => ?_
          clear F11 a11
          refine tr_make t27_12 (.slice (some ⟨gA, 0, none⟩) a.L.length cA) _ (by kernel_rfl) rfl rfl ?_ ⟨hT6.cell 3 rfl rfl, hT6.cell 3 rfl rfl, hT6.cell 3 rfl rfl⟩ ?_; (focus (have hq := (show (fun W' : World => W'.cell? ⟨b, 0, none⟩ = some (a.sL) ∧ W'.cell? ⟨b, 1, none⟩ = some (a.sN) ∧ W'.cell? ⟨b, 2, none⟩ = some (a.sK)) X6 from ⟨hT6.cell 3 rfl rfl, hT6.cell 3 rfl rfl, hT6.cell 3 rfl rfl⟩); have e179 : a12.eval (.tmp 179) = (.slice (some ⟨gA, 0, none⟩) a.L.length cA) := F12.ev 179 (by kernel_rfl); generalize a12.eval = ev at e179 ⊢; simp [go_sem, mkO, t27_12, e179]; done))
          refine F12.next 18 (.slice (some ⟨gA, 0, none⟩) a.L.length cA) fun a13 F13 => ?_
          clear F12 a12
          refine tr_make t27_13 (.slice (some ⟨gB, 0, none⟩) a.N.length cB) _ (by kernel_rfl) rfl rfl ?_ ⟨hT6.cell 3 rfl rfl, hT6.cell 3 rfl rfl, hT6.cell 3 rfl rfl⟩ ?_; (focus (have hq := (show (fun W' : World => W'.cell? ⟨b, 0, none⟩ = some (a.sL) ∧ W'.cell? ⟨b, 1, none⟩ = some (a.sN) ∧ W'.cell? ⟨b, 2, none⟩ = some (a.sK)) X6 from ⟨hT6.cell 3 rfl rfl, hT6.cell 3 rfl rfl, hT6.cell 3 rfl rfl⟩); have e183 : a13.eval (.tmp 183) = (.slice (some ⟨gB, 0, none⟩) a.N.length cB) := F13.ev 183 (by kernel_rfl); generalize a13.eval = ev at e183 ⊢; simp [go_sem, mkO, t27_13, e183]; done))
          refine F13.next 19 (.slice (some ⟨gB, 0, none⟩) a.N.length cB) fun a14 F14 => ?_
          clear F13 a13
          refine tr_make t27_14 (.slice (some ⟨gC, 0, none⟩) a.K.length cC) _ (by kernel_rfl) rfl rfl ?_ ⟨hT6.cell 3 rfl rfl, hT6.cell 3 rfl rfl, hT6.cell 3 rfl rfl⟩ ?_; (focus (have hq := (show (fun W' : World => W'.cell? ⟨b, 0, none⟩ = some (a.sL) ∧ W'.cell? ⟨b, 1, none⟩ = some (a.sN) ∧ W'.cell? ⟨b, 2, none⟩ = some (a.sK)) X6 from ⟨hT6.cell 3 rfl rfl, hT6.cell 3 rfl rfl, hT6.cell 3 rfl rfl⟩); have e187 : a14.eval (.tmp 187) = (.slice (some ⟨gC, 0, none⟩) a.K.length cC) := F14.ev 187 (by kernel_rfl); generalize a14.eval = ev at e187 ⊢; simp [go_sem, mkO, t27_14, e187]; done))
          refine F14.next 20 (.slice (some ⟨gC, 0, none⟩) a.K.length cC) fun a15 F15 => ?_
          clear F14 a14
          exact F15.out hQn hT6.keep ⟨gA, cA, cuA, gB, cB, cuB, gC, cC, cuC, (hT6.pick [2, 1, 0, 3, 4, 5, 6, 7, 8, 9] (by kernel_rfl) (by kernel_rfl) (by kernel_rfl)).again, hpA, hpB, hpC, hbw, (F15.fin [176, 177, 178, 179, 180, 181, 182, 183, 184, 185, 186, 187] (by kernel_rfl))⟩
        · have hT4 : Tr w W (X3.alloc (.cells #[] 50)) ((X3.heap.size, .cells #[] 50 (0, 0)) :: (zB, .cells #[] 3 (0, 0)) :: (gA, .cells (cuA).toArray 3 (0, 0)) :: base27 a b ba bb m1 m2 bx bt gL gN cuL cuN v u) := hT3.alloc (.cells #[] 50)
          refine tr_make t27_8 (.slice (some ⟨X3.heap.size, 0, none⟩) 0 0) (X3.alloc (.cells #[] 50)) (by kernel_rfl) rfl rfl ?_ ⟨hT4.cell 3 rfl rfl, hT4.cell 3 rfl rfl, hT4.cell 3 rfl rfl⟩ ?_; (focus (simp [go_sem, mkO, t27_8, hu23]; done))
          replace hbw := hbw.alloc hbw.size (.cells #[] 50)
          obtain ⟨zC, hgzC⟩ : ∃ b, X3.heap.size = b := ⟨_, rfl⟩
          simp only [hgzC] at hT4 ⊢
          generalize X3.alloc (.cells #[] 50) = X4 at *
          clear hgzC hT3
          clear X3
          refine F9.next 184 (.slice (some ⟨zC, 0, none⟩) 0 0) fun a10 F10 => ?_
          clear F9 a9
          obtain ⟨gB, cB, cuB, X5, hrun, hTa, hpB, hba⟩ := hT4.app_ints 1 rfl (A := a.AN) (L := a.N) (n := a.N.length) (c := a.cN) ((ha.below hT4.below).n) h2 rfl 22
          skip
          have hT5 : Tr w W X5 ((zC, .cells #[] 50 (0, 0)) :: (gB, .cells (cuB).toArray 3 (0, 0)) :: (gA, .cells (cuA).toArray 3 (0, 0)) :: base27 a b ba bb m1 m2 bx bt gL gN cuL cuN v u) := hTa
          clear hTa
          refine tr_make t27_7 (.slice (some ⟨gB, 0, none⟩) a.N.length cB) X5 (by kernel_rfl) rfl rfl (exec_append _ _ 22 rfl (F10.ev 180 (by kernel_rfl)) (F10.ev 182 (by kernel_rfl)) hrun) ⟨hT5.cell 3 rfl rfl, hT5.cell 3 rfl rfl, hT5.cell 3 rfl rfl⟩ ?_
          replace hbw := hbw.trans (hba.mono hbw.size)
          clear hrun hba hT4
          clear X4
          refine F10.next 183 (.slice (some ⟨gB, 0, none⟩) a.N.length cB) fun a11 F11 => ?_
          clear F10 a10
          obtain ⟨gC, cC, cuC, X6, hrun, hTa, hpC, hba⟩ := hT5.app_kin 0 rfl (A := a.AK) (n := a.K.length) (c := a.cK) (rowK_of hf (ha.below hT5.below)) h3 (s3_kin_len a).symm 23
          replace hpC := hpC.1
          have hT6 : Tr w W X6 ((gC, .cells (cuC).toArray 50 (0, 0)) :: (gB, .cells (cuB).toArray 3 (0, 0)) :: (gA, .cells (cuA).toArray 3 (0, 0)) :: base27 a b ba bb m1 m2 bx bt gL gN cuL cuN v u) := hTa
          clear hTa
          refine tr_make t27_11 (.slice (some ⟨gC, 0, none⟩) a.K.length cC) X6 (by kernel_rfl) rfl rfl (exec_append _ _ 23 rfl (F11.ev 184 (by kernel_rfl)) (F11.ev 186 (by kernel_rfl)) hrun) ⟨hT6.cell 3 rfl rfl, hT6.cell 3 rfl rfl, hT6.cell 3 rfl rfl⟩ ?_
          replace hbw := hbw.trans (hba.mono hbw.size)
          clear hrun hba hT5
          clear X5
          refine F11.next 187 (.slice (some ⟨gC, 0, none⟩) a.K.length cC) fun a12 F12 => ?_
          clear F11 a11
          refine tr_make t27_12 (.slice (some ⟨gA, 0, none⟩) a.L.length cA) _ (by kernel_rfl) rfl rfl ?_ ⟨hT6.cell 3 rfl rfl, hT6.cell 3 rfl rfl, hT6.cell 3 rfl rfl⟩ ?_; (focus (have hq := (show (fun W' : World => W'.cell? ⟨b, 0, none⟩ = some (a.sL) ∧ W'.cell? ⟨b, 1, none⟩ = some (a.sN) ∧ W'.cell? ⟨b, 2, none⟩ = some (a.sK)) X6 from ⟨hT6.cell 3 rfl rfl, hT6.cell 3 rfl rfl, hT6.cell 3 rfl rfl⟩); have e179 : a12.eval (.tmp 179) = (.slice (some ⟨gA, 0, none⟩) a.L.length cA) := F12.ev 179 (by kernel_rfl); generalize a12.eval = ev at e179 ⊢; simp [go_sem, mkO, t27_12, e179]; done))
          refine F12.next 18 (.slice (some ⟨gA, 0, none⟩) a.L.length cA) fun a13 F13 => ?_
          clear F12 a12
          refine tr_make t27_13 (.slice (some ⟨gB, 0, none⟩) a.N.length cB) _ (by kernel_rfl) rfl rfl ?_ ⟨hT6.cell 3 rfl rfl, hT6.cell 3 rfl rfl, hT6.cell 3 rfl rfl⟩ ?_; (focus (have hq := (show (fun W' : World => W'.cell? ⟨b, 0, none⟩ = some (a.sL) ∧ W'.cell? ⟨b, 1, none⟩ = some (a.sN) ∧ W'.cell? ⟨b, 2, none⟩ = some (a.sK)) X6 from ⟨hT6.cell 3 rfl rfl, hT6.cell 3 rfl rfl, hT6.cell 3 rfl rfl⟩); have e183 : a13.eval (.tmp 183) = (.slice (some ⟨gB, 0, none⟩) a.N.length cB) := F13.ev 183 (by kernel_rfl); generalize a13.eval = ev at e183 ⊢; simp [go_sem, mkO, t27_13, e183]; done))
          refine F13.next 19 (.slice (some ⟨gB, 0, none⟩) a.N.length cB) fun a14 F14 => ?_
          clear F13 a13
          refine tr_make t27_14 (.slice (some ⟨gC, 0, none⟩) a.K.length cC) _ (by kernel_rfl) rfl rfl ?_ ⟨hT6.cell 3 rfl rfl, hT6.cell 3 rfl rfl, hT6.cell 3 rfl rfl⟩ ?_; (focus (have hq := (show (fun W' : World => W'.cell? ⟨b, 0, none⟩ = some (a.sL) ∧ W'.cell? ⟨b, 1, none⟩ = some (a.sN) ∧ W'.cell? ⟨b, 2, none⟩ = some (a.sK)) X6 from ⟨hT6.cell 3 rfl rfl, hT6.cell 3 rfl rfl, hT6.cell 3 rfl rfl⟩); have e187 : a14.eval (.tmp 187) = (.slice (some ⟨gC, 0, none⟩) a.K.length cC) := F14.ev 187 (by kernel_rfl); generalize a14.eval = ev at e187 ⊢; simp [go_sem, mkO, t27_14, e187]; done))
          refine F14.next 20 (.slice (some ⟨gC, 0, none⟩) a.K.length cC) fun a15 F15 => ?_
          clear F14 a14
          exact F15.out hQn hT6.keep ⟨gA, cA, cuA, gB, cB, cuB, gC, cC, cuC, (hT6.pick [2, 1, 0, 3, 4, 5, 6, 7, 8, 9] (by kernel_rfl) (by kernel_rfl) (by kernel_rfl)).again, hpA, hpB, hpC, hbw, (F15.fin [176, 177, 178, 179, 180, 181, 182, 183, 184, 185, 186, 187] (by kernel_rfl))⟩
      · have hT3 : Tr w W (X2.alloc (.cells #[] 50)) ((X2.heap.size, .cells #[] 50 (0, 0)) :: (zB, .cells #[] 3 (0, 0)) :: (zA, .cells #[] 3 (0, 0)) :: base27 a b ba bb m1 m2 bx bt gL gN cuL cuN v u) := hT2.alloc (.cells #[] 50)
        refine tr_make t27_8 (.slice (some ⟨X2.heap.size, 0, none⟩) 0 0) (X2.alloc (.cells #[] 50)) (by kernel_rfl) rfl rfl ?_ ⟨hT3.cell 3 rfl rfl, hT3.cell 3 rfl rfl, hT3.cell 3 rfl rfl⟩ ?_; (focus (simp [go_sem, mkO, t27_8, hu23]; done))
        replace hbw := hbw.alloc hbw.size (.cells #[] 50)
        obtain ⟨zC, hgzC⟩ : ∃ b, X2.heap.size = b := ⟨_, rfl⟩
        simp only [hgzC] at hT3 ⊢
        generalize X2.alloc (.cells #[] 50) = X3 at *
        clear hgzC hT2
        clear X2
        refine F8.next 184 (.slice (some ⟨zC, 0, none⟩) 0 0) fun a9 F9 => ?_
        clear F8 a8
        obtain ⟨gA, cA, cuA, X4, hrun, hTa, hpA, hba⟩ := hT3.app_ints 2 rfl (A := a.AL) (L := a.L) (n := a.L.length) (c := a.cL) ((ha.below hT3.below).l) h1 rfl 22
        skip
        have hT4 : Tr w W X4 ((zC, .cells #[] 50 (0, 0)) :: (zB, .cells #[] 3 (0, 0)) :: (gA, .cells (cuA).toArray 3 (0, 0)) :: base27 a b ba bb m1 m2 bx bt gL gN cuL cuN v u) := hTa
        clear hTa
        refine tr_make t27_3 (.slice (some ⟨gA, 0, none⟩) a.L.length cA) X4 (by kernel_rfl) rfl rfl (exec_append _ _ 22 rfl (F9.ev 176 (by kernel_rfl)) (F9.ev 178 (by kernel_rfl)) hrun) ⟨hT4.cell 3 rfl rfl, hT4.cell 3 rfl rfl, hT4.cell 3 rfl rfl⟩ ?_
        replace hbw := hbw.trans (hba.mono hbw.size)
        clear hrun hba hT3
        clear X3
        refine F9.next 179 (.slice (some ⟨gA, 0, none⟩) a.L.length cA) fun a10 F10 => ?_
        clear F9 a9
        obtain ⟨gB, cB, cuB, X5, hrun, hTa, hpB, hba⟩ := hT4.app_ints 1 rfl (A := a.AN) (L := a.N) (n := a.N.length) (c := a.cN) ((ha.below hT4.below).n) h2 rfl 22
        skip
        have hT5 : Tr w W X5 ((zC, .cells #[] 50 (0, 0)) :: (gB, .cells (cuB).toArray 3 (0, 0)) :: (gA, .cells (cuA).toArray 3 (0, 0)) :: base27 a b ba bb m1 m2 bx bt gL gN cuL cuN v u) := hTa
        clear hTa
        refine tr_make t27_7 (.slice (some ⟨gB, 0, none⟩) a.N.length cB) X5 (by kernel_rfl) rfl rfl (exec_append _ _ 22 rfl (F10.ev 180 (by kernel_rfl)) (F10.ev 182 (by kernel_rfl)) hrun) ⟨hT5.cell 3 rfl rfl, hT5.cell 3 rfl rfl, hT5.cell 3 rfl rfl⟩ ?_
        replace hbw := hbw.trans (hba.mono hbw.size)
        clear hrun hba hT4
        clear X4
        refine F10.next 183 (.slice (some ⟨gB, 0, none⟩) a.N.length cB) fun a11 F11 => ?_
        clear F10 a10
        obtain ⟨gC, cC, cuC, X6, hrun, hTa, hpC, hba⟩ := hT5.app_kin 0 rfl (A := a.AK) (n := a.K.length) (c := a.cK) (rowK_of hf (ha.below hT5.below)) h3 (s3_kin_len a).symm 23
        replace hpC := hpC.1
        have hT6 : Tr w W X6 ((gC, .cells (cuC).toArray 50 (0, 0)) :: (gB, .cells (cuB).toArray 3 (0, 0)) :: (gA, .cells (cuA).toArray 3 (0, 0)) :: base27 a b ba bb m1 m2 bx bt gL gN cuL cuN v u) := hTa
        clear hTa
        refine tr_make t27_11 (.slice (some ⟨gC, 0, none⟩) a.K.length cC) X6 (by kernel_rfl) rfl rfl (exec_append _ _ 23 rfl (F11.ev 184 (by kernel_rfl)) (F11.ev 186 (by kernel_rfl)) hrun) ⟨hT6.cell 3 rfl rfl, hT6.cell 3 rfl rfl, hT6.cell 3 rfl rfl⟩ ?_
        replace hbw := hbw.trans (hba.mono hbw.size)
        clear hrun hba hT5
        clear X5
        refine F11.next 187 (.slice (some ⟨gC, 0, none⟩) a.K.length cC) fun a12 F12 => ?_
        clear F11 a11
        refine tr_make t27_12 (.slice (some ⟨gA, 0, none⟩) a.L.length cA) _ (by kernel_rfl) rfl rfl ?_ ⟨hT6.cell 3 rfl rfl, hT6.cell 3 rfl rfl, hT6.cell 3 rfl rfl⟩ ?_; (focus (have hq := (show (fun W' : World => W'.cell? ⟨b, 0, none⟩ = some (a.sL) ∧ W'.cell? ⟨b, 1, none⟩ = some (a.sN) ∧ W'.cell? ⟨b, 2, none⟩ = some (a.sK)) X6 from ⟨hT6.cell 3 rfl rfl, hT6.cell 3 rfl rfl, hT6.cell 3 rfl rfl⟩); have e179 : a12.eval (.tmp 179) = (.slice (some ⟨gA, 0, none⟩) a.L.length cA) := F12.ev 179 (by kernel_rfl); generalize a12.eval = ev at e179 ⊢; simp [go_sem, mkO, t27_12, e179]; done))
        refine F12.next 18 (.slice (some ⟨gA, 0, none⟩) a.L.length cA) fun a13 F13 => ?_
        clear F12 a12
        refine tr_make t27_13 (.slice (some ⟨gB, 0, none⟩) a.N.length cB) _ (by kernel_rfl) rfl rfl ?_ ⟨hT6.cell 3 rfl rfl, hT6.cell 3 rfl rfl, hT6.cell 3 rfl rfl⟩ ?_; (focus (have hq := (show (fun W' : World => W'.cell? ⟨b, 0, none⟩ = some (a.sL) ∧ W'.cell? ⟨b, 1, none⟩ = some (a.sN) ∧ W'.cell? ⟨b, 2, none⟩ = some (a.sK)) X6 from ⟨hT6.cell 3 rfl rfl, hT6.cell 3 rfl rfl, hT6.cell 3 rfl rfl⟩); have e183 : a13.eval (.tmp 183) = (.slice (some ⟨gB, 0, none⟩) a.N.length cB) := F13.ev 183 (by kernel_rfl); generalize a13.eval = ev at e183 ⊢; simp [go_sem, mkO, t27_13, e183]; done))
        refine F13.next 19 (.slice (some ⟨gB, 0, none⟩) a.N.length cB) fun a14 F14 => ?_
        clear F13 a13
        refine tr_make t27_14 (.slice (some ⟨gC, 0, none⟩) a.K.length cC) _ (by kernel_rfl) rfl rfl ?_ ⟨hT6.cell 3 rfl rfl, hT6.cell 3 rfl rfl, hT6.cell 3 rfl rfl⟩ ?_; (focus (have hq := (show (fun W' : World => W'.cell? ⟨b, 0, none⟩ = some (a.sL) ∧ W'.cell? ⟨b, 1, none⟩ = some (a.sN) ∧ W'.cell? ⟨b, 2, none⟩ = some (a.sK)) X6 from ⟨hT6.cell 3 rfl rfl, hT6.cell 3 rfl rfl, hT6.cell 3 rfl rfl⟩); have e187 : a14.eval (.tmp 187) = (.slice (some ⟨gC, 0, none⟩) a.K.length cC) := F14.ev 187 (by kernel_rfl); generalize a14.eval = ev at e187 ⊢; simp [go_sem, mkO, t27_14, e187]; done))
        refine F14.next 20 (.slice (some ⟨gC, 0, none⟩) a.K.length cC) fun a15 F15 => ?_
        clear F14 a14
        exact F15.out hQn hT6.keep ⟨gA, cA, cuA, gB, cB, cuB, gC, cC, cuC, (hT6.pick [2, 1, 0, 3, 4, 5, 6, 7, 8, 9] (by kernel_rfl) (by kernel_rfl) (by kernel_rfl)).again, hpA, hpB, hpC, hbw, (F15.fin [176, 177, 178, 179, 180, 181, 182, 183, 184, 185, 186, 187] (by kernel_rfl))⟩
    · have hT2 : Tr w W (X1.alloc (.cells #[] 50)) ((X1.heap.size, .cells #[] 50 (0, 0)) :: (zA, .cells #[] 3 (0, 0)) :: base27 a b ba bb m1 m2 bx bt gL gN cuL cuN v u) := hT1.alloc (.cells #[] 50)
      refine tr_make t27_8 (.slice (some ⟨X1.heap.size, 0, none⟩) 0 0) (X1.alloc (.cells #[] 50)) (by kernel_rfl) rfl rfl ?_ ⟨hT2.cell 2 rfl rfl, hT2.cell 2 rfl rfl, hT2.cell 2 rfl rfl⟩ ?_; (focus (simp [go_sem, mkO, t27_8, hu23]; done))
      replace hbw := hbw.alloc hbw.size (.cells #[] 50)
      obtain ⟨zC, hgzC⟩ : ∃ b, X1.heap.size = b := ⟨_, rfl⟩
      simp only [hgzC] at hT2 ⊢
      generalize X1.alloc (.cells #[] 50) = X2 at *
      clear hgzC hT1
      clear X1
      refine F7.next 184 (.slice (some ⟨zC, 0, none⟩) 0 0) fun a8 F8 => ?_
      clear F7 a7
      refine ⟨?_, ?_⟩
      · obtain ⟨gA, cA, cuA, X3, hrun, hTa, hpA, hba⟩ := hT2.app_ints 1 rfl (A := a.AL) (L := a.L) (n := a.L.length) (c := a.cL) ((ha.below hT2.below).l) h1 rfl 22
        skip
        have hT3 : Tr w W X3 ((zC, .cells #[] 50 (0, 0)) :: (gA, .cells (cuA).toArray 3 (0, 0)) :: base27 a b ba bb m1 m2 bx bt gL gN cuL cuN v u) := hTa
        clear hTa
        refine tr_make t27_3 (.slice (some ⟨gA, 0, none⟩) a.L.length cA) X3 (by kernel_rfl) rfl rfl (exec_append _ _ 22 rfl (F8.ev 176 (by kernel_rfl)) (F8.ev 178 (by kernel_rfl)) hrun) ⟨hT3.cell 2 rfl rfl, hT3.cell 2 rfl rfl, hT3.cell 2 rfl rfl⟩ ?_
        replace hbw := hbw.trans (hba.mono hbw.size)
        clear hrun hba hT2
        clear X2
        refine F8.next 179 (.slice (some ⟨gA, 0, none⟩) a.L.length cA) fun a9 F9 => ?_
        clear F8 a8
        have hT4 : Tr w W (X3.alloc (.cells #[] 3)) ((X3.heap.size, .cells #[] 3 (0, 0)) :: (zC, .cells #[] 50 (0, 0)) :: (gA, .cells (cuA).toArray 3 (0, 0)) :: base27 a b ba bb m1 m2 bx bt gL gN cuL cuN v u) := hT3.alloc (.cells #[] 3)
        refine tr_make t27_4 (.slice (some ⟨X3.heap.size, 0, none⟩) 0 0) (X3.alloc (.cells #[] 3)) (by kernel_rfl) rfl rfl ?_ ⟨hT4.cell 3 rfl rfl, hT4.cell 3 rfl rfl, hT4.cell 3 rfl rfl⟩ ?_; (focus (simp [go_sem, mkO, t27_4, hu22]; done))
        replace hbw := hbw.alloc hbw.size (.cells #[] 3)
        obtain ⟨zB, hgzB⟩ : ∃ b, X3.heap.size = b := ⟨_, rfl⟩
        simp only [hgzB] at hT4 ⊢
        generalize X3.alloc (.cells #[] 3) = X4 at *
        clear hgzB hT3
        clear X3
        refine F9.next 180 (.slice (some ⟨zB, 0, none⟩) 0 0) fun a10 F10 => ?_
        clear F9 a9
        obtain ⟨gB, cB, cuB, X5, hrun, hTa, hpB, hba⟩ := hT4.app_ints 0 rfl (A := a.AN) (L := a.N) (n := a.N.length) (c := a.cN) ((ha.below hT4.below).n) h2 rfl 22
        skip
        have hT5 : Tr w W X5 ((gB, .cells (cuB).toArray 3 (0, 0)) :: (zC, .cells #[] 50 (0, 0)) :: (gA, .cells (cuA).toArray 3 (0, 0)) :: base27 a b ba bb m1 m2 bx bt gL gN cuL cuN v u) := hTa
        clear hTa
        refine tr_make t27_7 (.slice (some ⟨gB, 0, none⟩) a.N.length cB) X5 (by kernel_rfl) rfl rfl (exec_append _ _ 22 rfl (F10.ev 180 (by kernel_rfl)) (F10.ev 182 (by kernel_rfl)) hrun) ⟨hT5.cell 3 rfl rfl, hT5.cell 3 rfl rfl, hT5.cell 3 rfl rfl⟩ ?_
        replace hbw := hbw.trans (hba.mono hbw.size)
        clear hrun hba hT4
        clear X4
        refine F10.next 183 (.slice (some ⟨gB, 0, none⟩) a.N.length cB) fun a11 F11 => ?_
        clear F10 a10
        obtain ⟨gC, cC, cuC, X6, hrun, hTa, hpC, hba⟩ := hT5.app_kin 1 rfl (A := a.AK) (n := a.K.length) (c := a.cK) (rowK_of hf (ha.below hT5.below)) h3 (s3_kin_len a).symm 23
        replace hpC := hpC.1
        have hT6 : Tr w W X6 ((gB, .cells (cuB).toArray 3 (0, 0)) :: (gC, .cells (cuC).toArray 50 (0, 0)) :: (gA, .cells (cuA).toArray 3 (0, 0)) :: base27 a b ba bb m1 m2 bx bt gL gN cuL cuN v u) := hTa
        clear hTa
        refine tr_make t27_11 (.slice (some ⟨gC, 0, none⟩) a.K.length cC) X6 (by kernel_rfl) rfl rfl (exec_append _ _ 23 rfl (F11.ev 184 (by kernel_rfl)) (F11.ev 186 (by kernel_rfl)) hrun) ⟨hT6.cell 3 rfl rfl, hT6.cell 3 rfl rfl, hT6.cell 3 rfl rfl⟩ ?_
        replace hbw := hbw.trans (hba.mono hbw.size)
        clear hrun hba hT5
        clear X5
        refine F11.next 187 (.slice (some ⟨gC, 0, none⟩) a.K.length cC) fun a12 F12 => ?_
        clear F11 a11
        refine tr_make t27_12 (.slice (some ⟨gA, 0, none⟩) a.L.length cA) _ (by kernel_rfl) rfl rfl ?_ ⟨hT6.cell 3 rfl rfl, hT6.cell 3 rfl rfl, hT6.cell 3 rfl rfl⟩ ?_; (focus (have hq := (show (fun W' : World => W'.cell? ⟨b, 0, none⟩ = some (a.sL) ∧ W'.cell? ⟨b, 1, none⟩ = some (a.sN) ∧ W'.cell? ⟨b, 2, none⟩ = some (a.sK)) X6 from ⟨hT6.cell 3 rfl rfl, hT6.cell 3 rfl rfl, hT6.cell 3 rfl rfl⟩); have e179 : a12.eval (.tmp 179) = (.slice (some ⟨gA, 0, none⟩) a.L.length cA) := F12.ev 179 (by kernel_rfl); generalize a12.eval = ev at e179 ⊢; simp [go_sem, mkO, t27_12, e179]; done))
        refine F12.next 18 (.slice (some ⟨gA, 0, none⟩) a.L.length cA) fun a13 F13 => ?_
        clear F12 a12
        refine tr_make t27_13 (.slice (some ⟨gB, 0, none⟩) a.N.length cB) _ (by kernel_rfl) rfl rfl ?_ ⟨hT6.cell 3 rfl rfl, hT6.cell 3 rfl rfl, hT6.cell 3 rfl rfl⟩ ?_; (focus (have hq := (show (fun W' : World => W'.cell? ⟨b, 0, none⟩ = some (a.sL) ∧ W'.cell? ⟨b, 1, none⟩ = some (a.sN) ∧ W'.cell? ⟨b, 2, none⟩ = some (a.sK)) X6 from ⟨hT6.cell 3 rfl rfl, hT6.cell 3 rfl rfl, hT6.cell 3 rfl rfl⟩); have e183 : a13.eval (.tmp 183) = (.slice (some ⟨gB, 0, none⟩) a.N.length cB) := F13.ev 183 (by kernel_rfl); generalize a13.eval = ev at e183 ⊢; simp [go_sem, mkO, t27_13, e183]; done))
        refine F13.next 19 (.slice (some ⟨gB, 0, none⟩) a.N.length cB) fun a14 F14 => ?_
        clear F13 a13
        refine tr_make t27_14 (.slice (some ⟨gC, 0, none⟩) a.K.length cC) _ (by kernel_rfl) rfl rfl ?_ ⟨hT6.cell 3 rfl rfl, hT6.cell 3 rfl rfl, hT6.cell 3 rfl rfl⟩ ?_; (focus (have hq := (show (fun W' : World => W'.cell? ⟨b, 0, none⟩ = some (a.sL) ∧ W'.cell? ⟨b, 1, none⟩ = some (a.sN) ∧ W'.cell? ⟨b, 2, none⟩ = some (a.sK)) X6 from ⟨hT6.cell 3 rfl rfl, hT6.cell 3 rfl rfl, hT6.cell 3 rfl rfl⟩); have e187 : a14.eval (.tmp 187) = (.slice (some ⟨gC, 0, none⟩) a.K.length cC) := F14.ev 187 (by kernel_rfl); generalize a14.eval = ev at e187 ⊢; simp [go_sem, mkO, t27_14, e187]; done))
        refine F14.next 20 (.slice (some ⟨gC, 0, none⟩) a.K.length cC) fun a15 F15 => ?_
        clear F14 a14
        exact F15.out hQn hT6.keep ⟨gA, cA, cuA, gB, cB, cuB, gC, cC, cuC, (hT6.pick [2, 0, 1, 3, 4, 5, 6, 7, 8, 9] (by kernel_rfl) (by kernel_rfl) (by kernel_rfl)).again, hpA, hpB, hpC, hbw, (F15.fin [176, 177, 178, 179, 180, 181, 182, 183, 184, 185, 186, 187] (by kernel_rfl))⟩
      · have hT3 : Tr w W (X2.alloc (.cells #[] 3)) ((X2.heap.size, .cells #[] 3 (0, 0)) :: (zC, .cells #[] 50 (0, 0)) :: (zA, .cells #[] 3 (0, 0)) :: base27 a b ba bb m1 m2 bx bt gL gN cuL cuN v u) := hT2.alloc (.cells #[] 3)
        refine tr_make t27_4 (.slice (some ⟨X2.heap.size, 0, none⟩) 0 0) (X2.alloc (.cells #[] 3)) (by kernel_rfl) rfl rfl ?_ ⟨hT3.cell 3 rfl rfl, hT3.cell 3 rfl rfl, hT3.cell 3 rfl rfl⟩ ?_; (focus (simp [go_sem, mkO, t27_4, hu22]; done))
        replace hbw := hbw.alloc hbw.size (.cells #[] 3)
        obtain ⟨zB, hgzB⟩ : ∃ b, X2.heap.size = b := ⟨_, rfl⟩
        simp only [hgzB] at hT3 ⊢
        generalize X2.alloc (.cells #[] 3) = X3 at *
        clear hgzB hT2
        clear X2
        refine F8.next 180 (.slice (some ⟨zB, 0, none⟩) 0 0) fun a9 F9 => ?_
        clear F8 a8
        obtain ⟨gA, cA, cuA, X4, hrun, hTa, hpA, hba⟩ := hT3.app_ints 2 rfl (A := a.AL) (L := a.L) (n := a.L.length) (c := a.cL) ((ha.below hT3.below).l) h1 rfl 22
        skip
        have hT4 : Tr w W X4 ((zB, .cells #[] 3 (0, 0)) :: (zC, .cells #[] 50 (0, 0)) :: (gA, .cells (cuA).toArray 3 (0, 0)) :: base27 a b ba bb m1 m2 bx bt gL gN cuL cuN v u) := hTa
        clear hTa
        refine tr_make t27_3 (.slice (some ⟨gA, 0, none⟩) a.L.length cA) X4 (by kernel_rfl) rfl rfl (exec_append _ _ 22 rfl (F9.ev 176 (by kernel_rfl)) (F9.ev 178 (by kernel_rfl)) hrun) ⟨hT4.cell 3 rfl rfl, hT4.cell 3 rfl rfl, hT4.cell 3 rfl rfl⟩ ?_
        replace hbw := hbw.trans (hba.mono hbw.size)
        clear hrun hba hT3
        clear X3
        refine F9.next 179 (.slice (some ⟨gA, 0, none⟩) a.L.length cA) fun a10 F10 => ?_
        clear F9 a9
        obtain ⟨gB, cB, cuB, X5, hrun, hTa, hpB, hba⟩ := hT4.app_ints 0 rfl (A := a.AN) (L := a.N) (n := a.N.length) (c := a.cN) ((ha.below hT4.below).n) h2 rfl 22
        skip
        have hT5 : Tr w W X5 ((gB, .cells (cuB).toArray 3 (0, 0)) :: (zC, .cells #[] 50 (0, 0)) :: (gA, .cells (cuA).toArray 3 (0, 0)) :: base27 a b ba bb m1 m2 bx bt gL gN cuL cuN v u) := hTa
        clear hTa
        refine tr_make t27_7 (.slice (some ⟨gB, 0, none⟩) a.N.length cB) X5 (by kernel_rfl) rfl rfl (exec_append _ _ 22 rfl (F10.ev 180 (by kernel_rfl)) (F10.ev 182 (by kernel_rfl)) hrun) ⟨hT5.cell 3 rfl rfl, hT5.cell 3 rfl rfl, hT5.cell 3 rfl rfl⟩ ?_
        replace hbw := hbw.trans (hba.mono hbw.size)
        clear hrun hba hT4
        clear X4
        refine F10.next 183 (.slice (some ⟨gB, 0, none⟩) a.N.length cB) fun a11 F11 => ?_
        clear F10 a10
        obtain ⟨gC, cC, cuC, X6, hrun, hTa, hpC, hba⟩ := hT5.app_kin 1 rfl (A := a.AK) (n := a.K.length) (c := a.cK) (rowK_of hf (ha.below hT5.below)) h3 (s3_kin_len a).symm 23
        replace hpC := hpC.1
        have hT6 : Tr w W X6 ((gB, .cells (cuB).toArray 3 (0, 0)) :: (gC, .cells (cuC).toArray 50 (0, 0)) :: (gA, .cells (cuA).toArray 3 (0, 0)) :: base27 a b ba bb m1 m2 bx bt gL gN cuL cuN v u) := hTa
        clear hTa
        refine tr_make t27_11 (.slice (some ⟨gC, 0, none⟩) a.K.length cC) X6 (by kernel_rfl) rfl rfl (exec_append _ _ 23 rfl (F11.ev 184 (by kernel_rfl)) (F11.ev 186 (by kernel_rfl)) hrun) ⟨hT6.cell 3 rfl rfl, hT6.cell 3 rfl rfl, hT6.cell 3 rfl rfl⟩ ?_
        replace hbw := hbw.trans (hba.mono hbw.size)
        clear hrun hba hT5
        clear X5
        refine F11.next 187 (.slice (some ⟨gC, 0, none⟩) a.K.length cC) fun a12 F12 => ?_
        clear F11 a11
        refine tr_make t27_12 (.slice (some ⟨gA, 0, none⟩) a.L.length cA) _ (by kernel_rfl) rfl rfl ?_ ⟨hT6.cell 3 rfl rfl, hT6.cell 3 rfl rfl, hT6.cell 3 rfl rfl⟩ ?_; (focus (have hq := (show (fun W' : World => W'.cell? ⟨b, 0, none⟩ = some (a.sL) ∧ W'.cell? ⟨b, 1, none⟩ = some (a.sN) ∧ W'.cell? ⟨b, 2, none⟩ = some (a.sK)) X6 from ⟨hT6.cell 3 rfl rfl, hT6.cell 3 rfl rfl, hT6.cell 3 rfl rfl⟩); have e179 : a12.eval (.tmp 179) = (.slice (some ⟨gA, 0, none⟩) a.L.length cA) := F12.ev 179 (by kernel_rfl); generalize a12.eval = ev at e179 ⊢; simp [go_sem, mkO, t27_12, e179]; done))
        refine F12.next 18 (.slice (some ⟨gA, 0, none⟩) a.L.length cA) fun a13 F13 => ?_
        clear F12 a12
        refine tr_make t27_13 (.slice (some ⟨gB, 0, none⟩) a.N.length cB) _ (by kernel_rfl) rfl rfl ?_ ⟨hT6.cell 3 rfl rfl, hT6.cell 3 rfl rfl, hT6.cell 3 rfl rfl⟩ ?_; (focus (have hq := (show (fun W' : World => W'.cell? ⟨b, 0, none⟩ = some (a.sL) ∧ W'.cell? ⟨b, 1, none⟩ = some (a.sN) ∧ W'.cell? ⟨b, 2, none⟩ = some (a.sK)) X6 from ⟨hT6.cell 3 rfl rfl, hT6.cell 3 rfl rfl, hT6.cell 3 rfl rfl⟩); have e183 : a13.eval (.tmp 183) = (.slice (some ⟨gB, 0, none⟩) a.N.length cB) := F13.ev 183 (by kernel_rfl); generalize a13.eval = ev at e183 ⊢; simp [go_sem, mkO, t27_13, e183]; done))
        refine F13.next 19 (.slice (some ⟨gB, 0, none⟩) a.N.length cB) fun a14 F14 => ?_
        clear F13 a13
        refine tr_make t27_14 (.slice (some ⟨gC, 0, none⟩) a.K.length cC) _ (by kernel_rfl) rfl rfl ?_ ⟨hT6.cell 3 rfl rfl, hT6.cell 3 rfl rfl, hT6.cell 3 rfl rfl⟩ ?_; (focus (have hq := (show (fun W' : World => W'.cell? ⟨b, 0, none⟩ = some (a.sL) ∧ W'.cell? ⟨b, 1, none⟩ = some (a.sN) ∧ W'.cell? ⟨b, 2, none⟩ = some (a.sK)) X6 from ⟨hT6.cell 3 rfl rfl, hT6.cell 3 rfl rfl, hT6.cell 3 rfl rfl⟩); have e187 : a14.eval (.tmp 187) = (.slice (some ⟨gC, 0, none⟩) a.K.length cC) := F14.ev 187 (by kernel_rfl); generalize a14.eval = ev at e187 ⊢; simp [go_sem, mkO, t27_14, e187]; done))
        refine F14.next 20 (.slice (some ⟨gC, 0, none⟩) a.K.length cC) fun a15 F15 => ?_
        clear F14 a14
        exact F15.out hQn hT6.keep ⟨gA, cA, cuA, gB, cB, cuB, gC, cC, cuC, (hT6.pick [2, 0, 1, 3, 4, 5, 6, 7, 8, 9] (by kernel_rfl) (by kernel_rfl) (by kernel_rfl)).again, hpA, hpB, hpC, hbw, (F15.fin [176, 177, 178, 179, 180, 181, 182, 183, 184, 185, 186, 187] (by kernel_rfl))⟩
  · have hT1 : Tr w W (X0.alloc (.cells #[] 3)) ((X0.heap.size, .cells #[] 3 (0, 0)) :: base27 a b ba bb m1 m2 bx bt gL gN cuL cuN v u) := hT0.alloc (.cells #[] 3)
    refine tr_make t27_4 (.slice (some ⟨X0.heap.size, 0, none⟩) 0 0) (X0.alloc (.cells #[] 3)) (by kernel_rfl) rfl rfl ?_ ⟨hT1.cell 1 rfl rfl, hT1.cell 1 rfl rfl, hT1.cell 1 rfl rfl⟩ ?_; (focus (simp [go_sem, mkO, t27_4, hu22]; done))
    replace hbw := hbw.alloc hbw.size (.cells #[] 3)
    obtain ⟨zB, hgzB⟩ : ∃ b, X0.heap.size = b := ⟨_, rfl⟩
    simp only [hgzB] at hT1 ⊢
    generalize X0.alloc (.cells #[] 3) = X1 at *
    clear hgzB hT0
    clear X0
    refine F6.next 180 (.slice (some ⟨zB, 0, none⟩) 0 0) fun a7 F7 => ?_
    clear F6 a6
    refine ⟨?_, ?_⟩
    · have hT2 : Tr w W (X1.alloc (.cells #[] 3)) ((X1.heap.size, .cells #[] 3 (0, 0)) :: (zB, .cells #[] 3 (0, 0)) :: base27 a b ba bb m1 m2 bx bt gL gN cuL cuN v u) := hT1.alloc (.cells #[] 3)
      refine tr_make t27_0 (.slice (some ⟨X1.heap.size, 0, none⟩) 0 0) (X1.alloc (.cells #[] 3)) (by kernel_rfl) rfl rfl ?_ ⟨hT2.cell 2 rfl rfl, hT2.cell 2 rfl rfl, hT2.cell 2 rfl rfl⟩ ?_; (focus (simp [go_sem, mkO, t27_0, hu22]; done))
      replace hbw := hbw.alloc hbw.size (.cells #[] 3)
      obtain ⟨zA, hgzA⟩ : ∃ b, X1.heap.size = b := ⟨_, rfl⟩
      simp only [hgzA] at hT2 ⊢
      generalize X1.alloc (.cells #[] 3) = X2 at *
      clear hgzA hT1
      clear X1
      refine F7.next 176 (.slice (some ⟨zA, 0, none⟩) 0 0) fun a8 F8 => ?_
      clear F7 a7
      refine ⟨?_, ?_⟩
      · obtain ⟨gA, cA, cuA, X3, hrun, hTa, hpA, hba⟩ := hT2.app_ints 0 rfl (A := a.AL) (L := a.L) (n := a.L.length) (c := a.cL) ((ha.below hT2.below).l) h1 rfl 22
        skip
        have hT3 : Tr w W X3 ((gA, .cells (cuA).toArray 3 (0, 0)) :: (zB, .cells #[] 3 (0, 0)) :: base27 a b ba bb m1 m2 bx bt gL gN cuL cuN v u) := hTa
        clear hTa
        refine tr_make t27_3 (.slice (some ⟨gA, 0, none⟩) a.L.length cA) X3 (by kernel_rfl) rfl rfl (exec_append _ _ 22 rfl (F8.ev 176 (by kernel_rfl)) (F8.ev 178 (by kernel_rfl)) hrun) ⟨hT3.cell 2 rfl rfl, hT3.cell 2 rfl rfl, hT3.cell 2 rfl rfl⟩ ?_
        replace hbw := hbw.trans (hba.mono hbw.size)
        clear hrun hba hT2
        clear X2
        refine F8.next 179 (.slice (some ⟨gA, 0, none⟩) a.L.length cA) fun a9 F9 => ?_
        clear F8 a8
        refine ⟨?_, ?_⟩
        · obtain ⟨gB, cB, cuB, X4, hrun, hTa, hpB, hba⟩ := hT3.app_ints 1 rfl (A := a.AN) (L := a.N) (n := a.N.length) (c := a.cN) ((ha.below hT3.below).n) h2 rfl 22
          skip
          have hT4 : Tr w W X4 ((gA, .cells (cuA).toArray 3 (0, 0)) :: (gB, .cells (cuB).toArray 3 (0, 0)) :: base27 a b ba bb m1 m2 bx bt gL gN cuL cuN v u) := hTa
          clear hTa
          refine tr_make t27_7 (.slice (some ⟨gB, 0, none⟩) a.N.length cB) X4 (by kernel_rfl) rfl rfl (exec_append _ _ 22 rfl (F9.ev 180 (by kernel_rfl)) (F9.ev 182 (by kernel_rfl)) hrun) ⟨hT4.cell 2 rfl rfl, hT4.cell 2 rfl rfl, hT4.cell 2 rfl rfl⟩ ?_
          replace hbw := hbw.trans (hba.mono hbw.size)
          clear hrun hba hT3
          clear X3
          refine F9.next 183 (.slice (some ⟨gB, 0, none⟩) a.N.length cB) fun a10 F10 => ?_
          clear F9 a9
          have hT5 : Tr w W (X4.alloc (.cells #[] 50)) ((X4.heap.size, .cells #[] 50 (0, 0)) :: (gA, .cells (cuA).toArray 3 (0, 0)) :: (gB, .cells (cuB).toArray 3 (0, 0)) :: base27 a b ba bb m1 m2 bx bt gL gN cuL cuN v u) := hT4.alloc (.cells #[] 50)
          refine tr_make t27_8 (.slice (some ⟨X4.heap.size, 0, none⟩) 0 0) (X4.alloc (.cells #[] 50)) (by kernel_rfl) rfl rfl ?_ ⟨hT5.cell 3 rfl rfl, hT5.cell 3 rfl rfl, hT5.cell 3 rfl rfl⟩ ?_; (focus (simp [go_sem, mkO, t27_8, hu23]; done))
          replace hbw := hbw.alloc hbw.size (.cells #[] 50)
          obtain ⟨zC, hgzC⟩ : ∃ b, X4.heap.size = b := ⟨_, rfl⟩
          simp only [hgzC] at hT5 ⊢
          generalize X4.alloc (.cells #[] 50) = X5 at *
          clear hgzC hT4
          clear X4
          refine F10.next 184 (.slice (some ⟨zC, 0, none⟩) 0 0) fun a11 F11 => ?_
          clear F10 a10
          obtain ⟨gC, cC, cuC, X6, hrun, hTa, hpC, hba⟩ := hT5.app_kin 0 rfl (A := a.AK) (n := a.K.length) (c := a.cK) (rowK_of hf (ha.below hT5.below)) h3 (s3_kin_len a).symm 23
          replace hpC := hpC.1
          have hT6 : Tr w W X6 ((gC, .cells (cuC).toArray 50 (0, 0)) :: (gA, .cells (cuA).toArray 3 (0, 0)) :: (gB, .cells (cuB).toArray 3 (0, 0)) :: base27 a b ba bb m1 m2 bx bt gL gN cuL cuN v u) := hTa
          clear hTa
          refine tr_make t27_11 (.slice (some ⟨gC, 0, none⟩) a.K.length cC) X6 (by kernel_rfl) rfl rfl (exec_append _ _ 23 rfl (F11.ev 184 (by kernel_rfl)) (F11.ev 186 (by kernel_rfl)) hrun) ⟨hT6.cell 3 rfl rfl, hT6.cell 3 rfl rfl, hT6.cell 3 rfl rfl⟩ ?_
          replace hbw := hbw.trans (hba.mono hbw.size)
          clear hrun hba hT5
          clear X5
          refine F11.next 187 (.slice (some ⟨gC, 0, none⟩) a.K.length cC) fun a12 F12 => ?_
          clear F11 a11
          refine tr_make t27_12 (.slice (some ⟨gA, 0, none⟩) a.L.length cA) _ (by kernel_rfl) rfl rfl ?_ ⟨hT6.cell 3 rfl rfl, hT6.cell 3 rfl rfl, hT6.cell 3 rfl rfl⟩ ?_; (focus (have hq := (show (fun W' : World => W'.cell? ⟨b, 0, none⟩ = some (a.sL) ∧ W'.cell? ⟨b, 1, none⟩ = some (a.sN) ∧ W'.cell? ⟨b, 2, none⟩ = some (a.sK)) X6 from ⟨hT6.cell 3 rfl rfl, hT6.cell 3 rfl rfl, hT6.cell 3 rfl rfl⟩); have e179 : a12.eval (.tmp 179) = (.slice (some ⟨gA, 0, none⟩) a.L.length cA) := F12.ev 179 (by kernel_rfl); generalize a12.eval = ev at e179 ⊢; simp [go_sem, mkO, t27_12, e179]; done))
          refine F12.next 18 (.slice (some ⟨gA, 0, none⟩) a.L.length cA) fun a13 F13 => ?_
          clear F12 a12
          refine tr_make t27_13 (.slice (some ⟨gB, 0, none⟩) a.N.length cB) _ (by kernel_rfl) rfl rfl ?_ ⟨hT6.cell 3 rfl rfl, hT6.cell 3 rfl rfl, hT6.cell 3 rfl rfl⟩ ?_; (focus (have hq := (show (fun W' : World => W'.cell? ⟨b, 0, none⟩ = some (a.sL) ∧ W'.cell? ⟨b, 1, none⟩ = some (a.sN) ∧ W'.cell? ⟨b, 2, none⟩ = some (a.sK)) X6 from ⟨hT6.cell 3 rfl rfl, hT6.cell 3 rfl rfl, hT6.cell 3 rfl rfl⟩); have e183 : a13.eval (.tmp 183) = (.slice (some ⟨gB, 0, none⟩) a.N.length cB) := F13.ev 183 (by kernel_rfl); generalize a13.eval = ev at e183 ⊢; simp [go_sem, mkO, t27_13, e183]; done))
          refine F13.next 19 (.slice (some ⟨gB, 0, none⟩) a.N.length cB) fun a14 F14 => ?_
          clear F13 a13
          refine tr_make t27_14 (.slice (some ⟨gC, 0, none⟩) a.K.length cC) _ (by kernel_rfl) rfl rfl ?_ ⟨hT6.cell 3 rfl rfl, hT6.cell 3 rfl rfl, hT6.cell 3 rfl rfl⟩ ?_; (focus (have hq := (show (fun W' : World => W'.cell? ⟨b, 0, none⟩ = some (a.sL) ∧ W'.cell? ⟨b, 1, none⟩ = some (a.sN) ∧ W'.cell? ⟨b, 2, none⟩ = some (a.sK)) X6 from ⟨hT6.cell 3 rfl rfl, hT6.cell 3 rfl rfl, hT6.cell 3 rfl rfl⟩); have e187 : a14.eval (.tmp 187) = (.slice (some ⟨gC, 0, none⟩) a.K.length cC) := F14.ev 187 (by kernel_rfl); generalize a14.eval = ev at e187 ⊢; simp [go_sem, mkO, t27_14, e187]; done))
          refine F14.next 20 (.slice (some ⟨gC, 0, none⟩) a.K.length cC) fun a15 F15 => ?_
          clear F14 a14
          exact F15.out hQn hT6.keep ⟨gA, cA, cuA, gB, cB, cuB, gC, cC, cuC, (hT6.pick [1, 2, 0, 3, 4, 5, 6, 7, 8, 9] (by kernel_rfl) (by kernel_rfl) (by kernel_rfl)).again, hpA, hpB, hpC, hbw, (F15.fin [176, 177, 178, 179, 180, 181, 182, 183, 184, 185, 186, 187] (by kernel_rfl))⟩
        · have hT4 : Tr w W (X3.alloc (.cells #[] 50)) ((X3.heap.size, .cells #[] 50 (0, 0)) :: (gA, .cells (cuA).toArray 3 (0, 0)) :: (zB, .cells #[] 3 (0, 0)) :: base27 a b ba bb m1 m2 bx bt gL gN cuL cuN v u) := hT3.alloc (.cells #[] 50)
          refine tr_make t27_8 (.slice (some ⟨X3.heap.size, 0, none⟩) 0 0) (X3.alloc (.cells #[] 50)) (by kernel_rfl) rfl rfl ?_ ⟨hT4.cell 3 rfl rfl, hT4.cell 3 rfl rfl, hT4.cell 3 rfl rfl⟩ ?_; (focus (simp [go_sem, mkO, t27_8, hu23]; done))
          replace hbw := hbw.alloc hbw.size (.cells #[] 50)
          obtain ⟨zC, hgzC⟩ : ∃ b, X3.heap.size = b := ⟨_, rfl⟩
          simp only [hgzC] at hT4 ⊢
          generalize X3.alloc (.cells #[] 50) = X4 at *
          clear hgzC hT3
          clear X3
          refine F9.next 184 (.slice (some ⟨zC, 0, none⟩) 0 0) fun a10 F10 => ?_
          clear F9 a9
          obtain ⟨gB, cB, cuB, X5, hrun, hTa, hpB, hba⟩ := hT4.app_ints 2 rfl (A := a.AN) (L := a.N) (n := a.N.length) (c := a.cN) ((ha.below hT4.below).n) h2 rfl 22
          skip
          have hT5 : Tr w W X5 ((zC, .cells #[] 50 (0, 0)) :: (gA, .cells (cuA).toArray 3 (0, 0)) :: (gB, .cells (cuB).toArray 3 (0, 0)) :: base27 a b ba bb m1 m2 bx bt gL gN cuL cuN v u) := hTa
          clear hTa
          refine tr_make t27_7 (.slice (some ⟨gB, 0, none⟩) a.N.length cB) X5 (by kernel_rfl) rfl rfl (exec_append _ _ 22 rfl (F10.ev 180 (by kernel_rfl)) (F10.ev 182 (by kernel_rfl)) hrun) ⟨hT5.cell 3 rfl rfl, hT5.cell 3 rfl rfl, hT5.cell 3 rfl rfl⟩ ?_
          replace hbw := hbw.trans (hba.mono hbw.size)
          clear hrun hba hT4
          clear X4
          refine F10.next 183 (.slice (some ⟨gB, 0, none⟩) a.N.length cB) fun a11 F11 => ?_
          clear F10 a10
          obtain ⟨gC, cC, cuC, X6, hrun, hTa, hpC, hba⟩ := hT5.app_kin 0 rfl (A := a.AK) (n := a.K.length) (c := a.cK) (rowK_of hf (ha.below hT5.below)) h3 (s3_kin_len a).symm 23
          replace hpC := hpC.1
          have hT6 : Tr w W X6 ((gC, .cells (cuC).toArray 50 (0, 0)) :: (gA, .cells (cuA).toArray 3 (0, 0)) :: (gB, .cells (cuB).toArray 3 (0, 0)) :: base27 a b ba bb m1 m2 bx bt gL gN cuL cuN v u) := hTa
          clear hTa
          refine tr_make t27_11 (.slice (some ⟨gC, 0, none⟩) a.K.length cC) X6 (by kernel_rfl) rfl rfl (exec_append _ _ 23 rfl (F11.ev 184 (by kernel_rfl)) (F11.ev 186 (by kernel_rfl)) hrun) ⟨hT6.cell 3 rfl rfl, hT6.cell 3 rfl rfl, hT6.cell 3 rfl rfl⟩ ?_
          replace hbw := hbw.trans (hba.mono hbw.size)
          clear hrun hba hT5
          clear X5
          refine F11.next 187 (.slice (some ⟨gC, 0, none⟩) a.K.length cC) fun a12 F12 => ?_
          clear F11 a11
          refine tr_make t27_12 (.slice (some ⟨gA, 0, none⟩) a.L.length cA) _ (by kernel_rfl) rfl rfl ?_ ⟨hT6.cell 3 rfl rfl, hT6.cell 3 rfl rfl, hT6.cell 3 rfl rfl⟩ ?_; (focus (have hq := (show (fun W' : World => W'.cell? ⟨b, 0, none⟩ = some (a.sL) ∧ W'.cell? ⟨b, 1, none⟩ = some (a.sN) ∧ W'.cell? ⟨b, 2, none⟩ = some (a.sK)) X6 from ⟨hT6.cell 3 rfl rfl, hT6.cell 3 rfl rfl, hT6.cell 3 rfl rfl⟩); have e179 : a12.eval (.tmp 179) = (.slice (some ⟨gA, 0, none⟩) a.L.length cA) := F12.ev 179 (by kernel_rfl); generalize a12.eval = ev at e179 ⊢; simp [go_sem, mkO, t27_12, e179]; done))
          refine F12.next 18 (.slice (some ⟨gA, 0, none⟩) a.L.length cA) fun a13 F13 => ?_
          clear F12 a12
          refine tr_make t27_13 (.slice (some ⟨gB, 0, none⟩) a.N.length cB) _ (by kernel_rfl) rfl rfl ?_ ⟨hT6.cell 3 rfl rfl, hT6.cell 3 rfl rfl, hT6.cell 3 rfl rfl⟩ ?_; (focus (have hq := (show (fun W' : World => W'.cell? ⟨b, 0, none⟩ = some (a.sL) ∧ W'.cell? ⟨b, 1, none⟩ = some (a.sN) ∧ W'.cell? ⟨b, 2, none⟩ = some (a.sK)) X6 from ⟨hT6.cell 3 rfl rfl, hT6.cell 3 rfl rfl, hT6.cell 3 rfl rfl⟩); have e183 : a13.eval (.tmp 183) = (.slice (some ⟨gB, 0, none⟩) a.N.length cB) := F13.ev 183 (by kernel_rfl); generalize a13.eval = ev at e183 ⊢; simp [go_sem, mkO, t27_13, e183]; done))
          refine F13.next 19 (.slice (some ⟨gB, 0, none⟩) a.N.length cB) fun a14 F14 => ?_
          clear F13 a13
          refine tr_make t27_14 (.slice (some ⟨gC, 0, none⟩) a.K.length cC) _ (by kernel_rfl) rfl rfl ?_ ⟨hT6.cell 3 rfl rfl, hT6.cell 3 rfl rfl, hT6.cell 3 rfl rfl⟩ ?_; (focus (have hq := (show (fun W' : World => W'.cell? ⟨b, 0, none⟩ = some (a.sL) ∧ W'.cell? ⟨b, 1, none⟩ = some (a.sN) ∧ W'.cell? ⟨b, 2, none⟩ = some (a.sK)) X6 from ⟨hT6.cell 3 rfl rfl, hT6.cell 3 rfl rfl, hT6.cell 3 rfl rfl⟩); have e187 : a14.eval (.tmp 187) = (.slice (some ⟨gC, 0, none⟩) a.K.length cC) := F14.ev 187 (by kernel_rfl); generalize a14.eval = ev at e187 ⊢; simp [go_sem, mkO, t27_14, e187]; done))
          refine F14.next 20 (.slice (some ⟨gC, 0, none⟩) a.K.length cC) fun a15 F15 => ?_
          clear F14 a14
          exact F15.out hQn hT6.keep ⟨gA, cA, cuA, gB, cB, cuB, gC, cC, cuC, (hT6.pick [1, 2, 0, 3, 4, 5, 6, 7, 8, 9] (by kernel_rfl) (by kernel_rfl) (by kernel_rfl)).again, hpA, hpB, hpC, hbw, (F15.fin [176, 177, 178, 179, 180, 181, 182, 183, 184, 185, 186, 187] (by kernel_rfl))⟩
      · have hT3 : Tr w W (X2.alloc (.cells #[] 50)) ((X2.heap.size, .cells #[] 50 (0, 0)) :: (zA, .cells #[] 3 (0, 0)) :: (zB, .cells #[] 3 (0, 0)) :: base27 a b ba bb m1 m2 bx bt gL gN cuL cuN v u) := hT2.alloc (.cells #[] 50)
        refine tr_make t27_8 (.slice (some ⟨X2.heap.size, 0, none⟩) 0 0) (X2.alloc (.cells #[] 50)) (by kernel_rfl) rfl rfl ?_ ⟨hT3.cell 3 rfl rfl, hT3.cell 3 rfl rfl, hT3.cell 3 rfl rfl⟩ ?_; (focus (simp [go_sem, mkO, t27_8, hu23]; done))
        replace hbw := hbw.alloc hbw.size (.cells #[] 50)
        obtain ⟨zC, hgzC⟩ : ∃ b, X2.heap.size = b := ⟨_, rfl⟩
        simp only [hgzC] at hT3 ⊢
        generalize X2.alloc (.cells #[] 50) = X3 at *
        clear hgzC hT2
        clear X2
        refine F8.next 184 (.slice (some ⟨zC, 0, none⟩) 0 0) fun a9 F9 => ?_
        clear F8 a8
        obtain ⟨gA, cA, cuA, X4, hrun, hTa, hpA, hba⟩ := hT3.app_ints 1 rfl (A := a.AL) (L := a.L) (n := a.L.length) (c := a.cL) ((ha.below hT3.below).l) h1 rfl 22
        skip
        have hT4 : Tr w W X4 ((zC, .cells #[] 50 (0, 0)) :: (gA, .cells (cuA).toArray 3 (0, 0)) :: (zB, .cells #[] 3 (0, 0)) :: base27 a b ba bb m1 m2 bx bt gL gN cuL cuN v u) := hTa
        clear hTa
        refine tr_make t27_3 (.slice (some ⟨gA, 0, none⟩) a.L.length cA) X4 (by kernel_rfl) rfl rfl (exec_append _ _ 22 rfl (F9.ev 176 (by kernel_rfl)) (F9.ev 178 (by kernel_rfl)) hrun) ⟨hT4.cell 3 rfl rfl, hT4.cell 3 rfl rfl, hT4.cell 3 rfl rfl⟩ ?_
        replace hbw := hbw.trans (hba.mono hbw.size)
        clear hrun hba hT3
        clear X3
        refine F9.next 179 (.slice (some ⟨gA, 0, none⟩) a.L.length cA) fun a10 F10 => ?_
        clear F9 a9
        obtain ⟨gB, cB, cuB, X5, hrun, hTa, hpB, hba⟩ := hT4.app_ints 2 rfl (A := a.AN) (L := a.N) (n := a.N.length) (c := a.cN) ((ha.below hT4.below).n) h2 rfl 22
        skip
        have hT5 : Tr w W X5 ((zC, .cells #[] 50 (0, 0)) :: (gA, .cells (cuA).toArray 3 (0, 0)) :: (gB, .cells (cuB).toArray 3 (0, 0)) :: base27 a b ba bb m1 m2 bx bt gL gN cuL cuN v u) := hTa
        clear hTa
        refine tr_make t27_7 (.slice (some ⟨gB, 0, none⟩) a.N.length cB) X5 (by kernel_rfl) rfl rfl (exec_append _ _ 22 rfl (F10.ev 180 (by kernel_rfl)) (F10.ev 182 (by kernel_rfl)) hrun) ⟨hT5.cell 3 rfl rfl, hT5.cell 3 rfl rfl, hT5.cell 3 rfl rfl⟩ ?_
        replace hbw := hbw.trans (hba.mono hbw.size)
        clear hrun hba hT4
        clear X4
        refine F10.next 183 (.slice (some ⟨gB, 0, none⟩) a.N.length cB) fun a11 F11 => ?_
        clear F10 a10
        obtain ⟨gC, cC, cuC, X6, hrun, hTa, hpC, hba⟩ := hT5.app_kin 0 rfl (A := a.AK) (n := a.K.length) (c := a.cK) (rowK_of hf (ha.below hT5.below)) h3 (s3_kin_len a).symm 23
        replace hpC := hpC.1
        have hT6 : Tr w W X6 ((gC, .cells (cuC).toArray 50 (0, 0)) :: (gA, .cells (cuA).toArray 3 (0, 0)) :: (gB, .cells (cuB).toArray 3 (0, 0)) :: base27 a b ba bb m1 m2 bx bt gL gN cuL cuN v u) := hTa
        clear hTa
        refine tr_make t27_11 (.slice (some ⟨gC, 0, none⟩) a.K.length cC) X6 (by kernel_rfl) rfl rfl (exec_append _ _ 23 rfl (F11.ev 184 (by kernel_rfl)) (F11.ev 186 (by kernel_rfl)) hrun) ⟨hT6.cell 3 rfl rfl, hT6.cell 3 rfl rfl, hT6.cell 3 rfl rfl⟩ ?_
        replace hbw := hbw.trans (hba.mono hbw.size)
        clear hrun hba hT5
        clear X5
        refine F11.next 187 (.slice (some ⟨gC, 0, none⟩) a.K.length cC) fun a12 F12 => ?_
        clear F11 a11
        refine tr_make t27_12 (.slice (some ⟨gA, 0, none⟩) a.L.length cA) _ (by kernel_rfl) rfl rfl ?_ ⟨hT6.cell 3 rfl rfl, hT6.cell 3 rfl rfl, hT6.cell 3 rfl rfl⟩ ?_; (focus (have hq := (show (fun W' : World => W'.cell? ⟨b, 0, none⟩ = some (a.sL) ∧ W'.cell? ⟨b, 1, none⟩ = some (a.sN) ∧ W'.cell? ⟨b, 2, none⟩ = some (a.sK)) X6 from ⟨hT6.cell 3 rfl rfl, hT6.cell 3 rfl rfl, hT6.cell 3 rfl rfl⟩); have e179 : a12.eval (.tmp 179) = (.slice (some ⟨gA, 0, none⟩) a.L.length cA) := F12.ev 179 (by kernel_rfl); generalize a12.eval = ev at e179 ⊢; simp [go_sem, mkO, t27_12, e179]; done))
        refine F12.next 18 (.slice (some ⟨gA, 0, none⟩) a.L.length cA) fun a13 F13 => ?_
        clear F12 a12
        refine tr_make t27_13 (.slice (some ⟨gB, 0, none⟩) a.N.length cB) _ (by kernel_rfl) rfl rfl ?_ ⟨hT6.cell 3 rfl rfl, hT6.cell 3 rfl rfl, hT6.cell 3 rfl rfl⟩ ?_; (focus (have hq := (show (fun W' : World => W'.cell? ⟨b, 0, none⟩ = some (a.sL) ∧ W'.cell? ⟨b, 1, none⟩ = some (a.sN) ∧ W'.cell? ⟨b, 2, none⟩ = some (a.sK)) X6 from ⟨hT6.cell 3 rfl rfl, hT6.cell 3 rfl rfl, hT6.cell 3 rfl rfl⟩); have e183 : a13.eval (.tmp 183) = (.slice (some ⟨gB, 0, none⟩) a.N.length cB) := F13.ev 183 (by kernel_rfl); generalize a13.eval = ev at e183 ⊢; simp [go_sem, mkO, t27_13, e183]; done))
        refine F13.next 19 (.slice (some ⟨gB, 0, none⟩) a.N.length cB) fun a14 F14 => ?_
        clear F13 a13
        refine tr_make t27_14 (.slice (some ⟨gC, 0, none⟩) a.K.length cC) _ (by kernel_rfl) rfl rfl ?_ ⟨hT6.cell 3 rfl rfl, hT6.cell 3 rfl rfl, hT6.cell 3 rfl rfl⟩ ?_; (focus (have hq := (show (fun W' : World => W'.cell? ⟨b, 0, none⟩ = some (a.sL) ∧ W'.cell? ⟨b, 1, none⟩ = some (a.sN) ∧ W'.cell? ⟨b, 2, none⟩ = some (a.sK)) X6 from ⟨hT6.cell 3 rfl rfl, hT6.cell 3 rfl rfl, hT6.cell 3 rfl rfl⟩); have e187 : a14.eval (.tmp 187) = (.slice (some ⟨gC, 0, none⟩) a.K.length cC) := F14.ev 187 (by kernel_rfl); generalize a14.eval = ev at e187 ⊢; simp [go_sem, mkO, t27_14, e187]; done))
        refine F14.next 20 (.slice (some ⟨gC, 0, none⟩) a.K.length cC) fun a15 F15 => ?_
        clear F14 a14
        exact F15.out hQn hT6.keep ⟨gA, cA, cuA, gB, cB, cuB, gC, cC, cuC, (hT6.pick [1, 2, 0, 3, 4, 5, 6, 7, 8, 9] (by kernel_rfl) (by kernel_rfl) (by kernel_rfl)).again, hpA, hpB, hpC, hbw, (F15.fin [176, 177, 178, 179, 180, 181, 182, 183, 184, 185, 186, 187] (by kernel_rfl))⟩
    · have hT2 : Tr w W (X1.alloc (.cells #[] 50)) ((X1.heap.size, .cells #[] 50 (0, 0)) :: (zB, .cells #[] 3 (0, 0)) :: base27 a b ba bb m1 m2 bx bt gL gN cuL cuN v u) := hT1.alloc (.cells #[] 50)
      refine tr_make t27_8 (.slice (some ⟨X1.heap.size, 0, none⟩) 0 0) (X1.alloc (.cells #[] 50)) (by kernel_rfl) rfl rfl ?_ ⟨hT2.cell 2 rfl rfl, hT2.cell 2 rfl rfl, hT2.cell 2 rfl rfl⟩ ?_; (focus (simp [go_sem, mkO, t27_8, hu23]; done))
      replace hbw := hbw.alloc hbw.size (.cells #[] 50)
      obtain ⟨zC, hgzC⟩ : ∃ b, X1.heap.size = b := ⟨_, rfl⟩
      simp only [hgzC] at hT2 ⊢
      generalize X1.alloc (.cells #[] 50) = X2 at *
      clear hgzC hT1
      clear X1
      refine F7.next 184 (.slice (some ⟨zC, 0, none⟩) 0 0) fun a8 F8 => ?_
      clear F7 a7
      have hT3 : Tr w W (X2.alloc (.cells #[] 3)) ((X2.heap.size, .cells #[] 3 (0, 0)) :: (zC, .cells #[] 50 (0, 0)) :: (zB, .cells #[] 3 (0, 0)) :: base27 a b ba bb m1 m2 bx bt gL gN cuL cuN v u) := hT2.alloc (.cells #[] 3)
      refine tr_make t27_0 (.slice (some ⟨X2.heap.size, 0, none⟩) 0 0) (X2.alloc (.cells #[] 3)) (by kernel_rfl) rfl rfl ?_ ⟨hT3.cell 3 rfl rfl, hT3.cell 3 rfl rfl, hT3.cell 3 rfl rfl⟩ ?_; (focus (simp [go_sem, mkO, t27_0, hu22]; done))
      replace hbw := hbw.alloc hbw.size (.cells #[] 3)
      obtain ⟨zA, hgzA⟩ : ∃ b, X2.heap.size = b := ⟨_, rfl⟩
      simp only [hgzA] at hT3 ⊢
      generalize X2.alloc (.cells #[] 3) = X3 at *
      clear hgzA hT2
      clear X2
      refine F8.next 176 (.slice (some ⟨zA, 0, none⟩) 0 0) fun a9 F9 => ?_
      clear F8 a8
      obtain ⟨gA, cA, cuA, X4, hrun, hTa, hpA, hba⟩ := hT3.app_ints 0 rfl (A := a.AL) (L := a.L) (n := a.L.length) (c := a.cL) ((ha.below hT3.below).l) h1 rfl 22
      skip
      have hT4 : Tr w W X4 ((gA, .cells (cuA).toArray 3 (0, 0)) :: (zC, .cells #[] 50 (0, 0)) :: (zB, .cells #[] 3 (0, 0)) :: base27 a b ba bb m1 m2 bx bt gL gN cuL cuN v u) := hTa
      clear hTa
      refine tr_make t27_3 (.slice (some ⟨gA, 0, none⟩) a.L.length cA) X4 (by kernel_rfl) rfl rfl (exec_append _ _ 22 rfl (F9.ev 176 (by kernel_rfl)) (F9.ev 178 (by kernel_rfl)) hrun) ⟨hT4.cell 3 rfl rfl, hT4.cell 3 rfl rfl, hT4.cell 3 rfl rfl⟩ ?_
      replace hbw := hbw.trans (hba.mono hbw.size)
      clear hrun hba hT3
      clear X3
      refine F9.next 179 (.slice (some ⟨gA, 0, none⟩) a.L.length cA) fun a10 F10 => ?_
      clear F9 a9
      obtain ⟨gB, cB, cuB, X5, hrun, hTa, hpB, hba⟩ := hT4.app_ints 2 rfl (A := a.AN) (L := a.N) (n := a.N.length) (c := a.cN) ((ha.below hT4.below).n) h2 rfl 22
      skip
      have hT5 : Tr w W X5 ((gA, .cells (cuA).toArray 3 (0, 0)) :: (zC, .cells #[] 50 (0, 0)) :: (gB, .cells (cuB).toArray 3 (0, 0)) :: base27 a b ba bb m1 m2 bx bt gL gN cuL cuN v u) := hTa
      clear hTa
      refine tr_make t27_7 (.slice (some ⟨gB, 0, none⟩) a.N.length cB) X5 (by kernel_rfl) rfl rfl (exec_append _ _ 22 rfl (F10.ev 180 (by kernel_rfl)) (F10.ev 182 (by kernel_rfl)) hrun) ⟨hT5.cell 3 rfl rfl, hT5.cell 3 rfl rfl, hT5.cell 3 rfl rfl⟩ ?_
      replace hbw := hbw.trans (hba.mono hbw.size)
      clear hrun hba hT4
      clear X4
      refine F10.next 183 (.slice (some ⟨gB, 0, none⟩) a.N.length cB) fun a11 F11 => ?_
      clear F10 a10
      obtain ⟨gC, cC, cuC, X6, hrun, hTa, hpC, hba⟩ := hT5.app_kin 1 rfl (A := a.AK) (n := a.K.length) (c := a.cK) (rowK_of hf (ha.below hT5.below)) h3 (s3_kin_len a).symm 23
      replace hpC := hpC.1
      have hT6 : Tr w W X6 ((gA, .cells (cuA).toArray 3 (0, 0)) :: (gC, .cells (cuC).toArray 50 (0, 0)) :: (gB, .cells (cuB).toArray 3 (0, 0)) :: base27 a b ba bb m1 m2 bx bt gL gN cuL cuN v u) := hTa
      clear hTa
      refine tr_make t27_11 (.slice (some ⟨gC, 0, none⟩) a.K.length cC) X6 (by kernel_rfl) rfl rfl (exec_append _ _ 23 rfl (F11.ev 184 (by kernel_rfl)) (F11.ev 186 (by kernel_rfl)) hrun) ⟨hT6.cell 3 rfl rfl, hT6.cell 3 rfl rfl, hT6.cell 3 rfl rfl⟩ ?_
      replace hbw := hbw.trans (hba.mono hbw.size)
      clear hrun hba hT5
      clear X5
      refine F11.next 187 (.slice (some ⟨gC, 0, none⟩) a.K.length cC) fun a12 F12 => ?_
      clear F11 a11
      refine tr_make t27_12 (.slice (some ⟨gA, 0, none⟩) a.L.length cA) _ (by kernel_rfl) rfl rfl ?_ ⟨hT6.cell 3 rfl rfl, hT6.cell 3 rfl rfl, hT6.cell 3 rfl rfl⟩ ?_; (focus (have hq := (show (fun W' : World => W'.cell? ⟨b, 0, none⟩ = some (a.sL) ∧ W'.cell? ⟨b, 1, none⟩ = some (a.sN) ∧ W'.cell? ⟨b, 2, none⟩ = some (a.sK)) X6 from ⟨hT6.cell 3 rfl rfl, hT6.cell 3 rfl rfl, hT6.cell 3 rfl rfl⟩); have e179 : a12.eval (.tmp 179) = (.slice (some ⟨gA, 0, none⟩) a.L.length cA) := F12.ev 179 (by kernel_rfl); generalize a12.eval = ev at e179 ⊢; simp [go_sem, mkO, t27_12, e179]; done))
      refine F12.next 18 (.slice (some ⟨gA, 0, none⟩) a.L.length cA) fun a13 F13 => ?_
      clear F12 a12
      refine tr_make t27_13 (.slice (some ⟨gB, 0, none⟩) a.N.length cB) _ (by kernel_rfl) rfl rfl ?_ ⟨hT6.cell 3 rfl rfl, hT6.cell 3 rfl rfl, hT6.cell 3 rfl rfl⟩ ?_; (focus (have hq := (show (fun W' : World => W'.cell? ⟨b, 0, none⟩ = some (a.sL) ∧ W'.cell? ⟨b, 1, none⟩ = some (a.sN) ∧ W'.cell? ⟨b, 2, none⟩ = some (a.sK)) X6 from ⟨hT6.cell 3 rfl rfl, hT6.cell 3 rfl rfl, hT6.cell 3 rfl rfl⟩); have e183 : a13.eval (.tmp 183) = (.slice (some ⟨gB, 0, none⟩) a.N.length cB) := F13.ev 183 (by kernel_rfl); generalize a13.eval = ev at e183 ⊢; simp [go_sem, mkO, t27_13, e183]; done))
      refine F13.next 19 (.slice (some ⟨gB, 0, none⟩) a.N.length cB) fun a14 F14 => ?_
      clear F13 a13
      refine tr_make t27_14 (.slice (some ⟨gC, 0, none⟩) a.K.length cC) _ (by kernel_rfl) rfl rfl ?_ ⟨hT6.cell 3 rfl rfl, hT6.cell 3 rfl rfl, hT6.cell 3 rfl rfl⟩ ?_; (focus (have hq := (show (fun W' : World => W'.cell? ⟨b, 0, none⟩ = some (a.sL) ∧ W'.cell? ⟨b, 1, none⟩ = some (a.sN) ∧ W'.cell? ⟨b, 2, none⟩ = some (a.sK)) X6 from ⟨hT6.cell 3 rfl rfl, hT6.cell 3 rfl rfl, hT6.cell 3 rfl rfl⟩); have e187 : a14.eval (.tmp 187) = (.slice (some ⟨gC, 0, none⟩) a.K.length cC) := F14.ev 187 (by kernel_rfl); generalize a14.eval = ev at e187 ⊢; simp [go_sem, mkO, t27_14, e187]; done))
      refine F14.next 20 (.slice (some ⟨gC, 0, none⟩) a.K.length cC) fun a15 F15 => ?_
      clear F14 a14
      exact F15.out hQn hT6.keep ⟨gA, cA, cuA, gB, cB, cuB, gC, cC, cuC, (hT6.pick [0, 2, 1, 3, 4, 5, 6, 7, 8, 9] (by kernel_rfl) (by kernel_rfl) (by kernel_rfl)).again, hpA, hpB, hpC, hbw, (F15.fin [176, 177, 178, 179, 180, 181, 182, 183, 184, 185, 186, 187] (by kernel_rfl))⟩
  · have hT1 : Tr w W (X0.alloc (.cells #[] 50)) ((X0.heap.size, .cells #[] 50 (0, 0)) :: base27 a b ba bb m1 m2 bx bt gL gN cuL cuN v u) := hT0.alloc (.cells #[] 50)
    refine tr_make t27_8 (.slice (some ⟨X0.heap.size, 0, none⟩) 0 0) (X0.alloc (.cells #[] 50)) (by kernel_rfl) rfl rfl ?_ ⟨hT1.cell 1 rfl rfl, hT1.cell 1 rfl rfl, hT1.cell 1 rfl rfl⟩ ?_; (focus (simp [go_sem, mkO, t27_8, hu23]; done))
    replace hbw := hbw.alloc hbw.size (.cells #[] 50)
    obtain ⟨zC, hgzC⟩ : ∃ b, X0.heap.size = b := ⟨_, rfl⟩
    simp only [hgzC] at hT1 ⊢
    generalize X0.alloc (.cells #[] 50) = X1 at *
    clear hgzC hT0
    clear X0
    refine F6.next 184 (.slice (some ⟨zC, 0, none⟩) 0 0) fun a7 F7 => ?_
    clear F6 a6
    refine ⟨?_, ?_⟩
    · have hT2 : Tr w W (X1.alloc (.cells #[] 3)) ((X1.heap.size, .cells #[] 3 (0, 0)) :: (zC, .cells #[] 50 (0, 0)) :: base27 a b ba bb m1 m2 bx bt gL gN cuL cuN v u) := hT1.alloc (.cells #[] 3)
      refine tr_make t27_0 (.slice (some ⟨X1.heap.size, 0, none⟩) 0 0) (X1.alloc (.cells #[] 3)) (by kernel_rfl) rfl rfl ?_ ⟨hT2.cell 2 rfl rfl, hT2.cell 2 rfl rfl, hT2.cell 2 rfl rfl⟩ ?_; (focus (simp [go_sem, mkO, t27_0, hu22]; done))
      replace hbw := hbw.alloc hbw.size (.cells #[] 3)
      obtain ⟨zA, hgzA⟩ : ∃ b, X1.heap.size = b := ⟨_, rfl⟩
      simp only [hgzA] at hT2 ⊢
      generalize X1.alloc (.cells #[] 3) = X2 at *
      clear hgzA hT1
      clear X1
      refine F7.next 176 (.slice (some ⟨zA, 0, none⟩) 0 0) fun a8 F8 => ?_
      clear F7 a7
      refine ⟨?_, ?_⟩
      · obtain ⟨gA, cA, cuA, X3, hrun, hTa, hpA, hba⟩ := hT2.app_ints 0 rfl (A := a.AL) (L := a.L) (n := a.L.length) (c := a.cL) ((ha.below hT2.below).l) h1 rfl 22
        skip
        have hT3 : Tr w W X3 ((gA, .cells (cuA).toArray 3 (0, 0)) :: (zC, .cells #[] 50 (0, 0)) :: base27 a b ba bb m1 m2 bx bt gL gN cuL cuN v u) := hTa
        clear hTa
        refine tr_make t27_3 (.slice (some ⟨gA, 0, none⟩) a.L.length cA) X3 (by kernel_rfl) rfl rfl (exec_append _ _ 22 rfl (F8.ev 176 (by kernel_rfl)) (F8.ev 178 (by kernel_rfl)) hrun) ⟨hT3.cell 2 rfl rfl, hT3.cell 2 rfl rfl, hT3.cell 2 rfl rfl⟩ ?_
        replace hbw := hbw.trans (hba.mono hbw.size)
        clear hrun hba hT2
        clear X2
        refine F8.next 179 (.slice (some ⟨gA, 0, none⟩) a.L.length cA) fun a9 F9 => ?_
        clear F8 a8
        have hT4 : Tr w W (X3.alloc (.cells #[] 3)) ((X3.heap.size, .cells #[] 3 (0, 0)) :: (gA, .cells (cuA).toArray 3 (0, 0)) :: (zC, .cells #[] 50 (0, 0)) :: base27 a b ba bb m1 m2 bx bt gL gN cuL cuN v u) := hT3.alloc (.cells #[] 3)
        refine tr_make t27_4 (.slice (some ⟨X3.heap.size, 0, none⟩) 0 0) (X3.alloc (.cells #[] 3)) (by kernel_rfl) rfl rfl ?_ ⟨hT4.cell 3 rfl rfl, hT4.cell 3 rfl rfl, hT4.cell 3 rfl rfl⟩ ?_; (focus (simp [go_sem, mkO, t27_4, hu22]; done))
        replace hbw := hbw.alloc hbw.size (.cells #[] 3)
        obtain ⟨zB, hgzB⟩ : ∃ b, X3.heap.size = b := ⟨_, rfl⟩
        simp only [hgzB] at hT4 ⊢
        generalize X3.alloc (.cells #[] 3) = X4 at *
        clear hgzB hT3
        clear X3
        refine F9.next 180 (.slice (some ⟨zB, 0, none⟩) 0 0) fun a10 F10 => ?_
        clear F9 a9
        obtain ⟨gB, cB, cuB, X5, hrun, hTa, hpB, hba⟩ := hT4.app_ints 0 rfl (A := a.AN) (L := a.N) (n := a.N.length) (c := a.cN) ((ha.below hT4.below).n) h2 rfl 22
        skip
        have hT5 : Tr w W X5 ((gB, .cells (cuB).toArray 3 (0, 0)) :: (gA, .cells (cuA).toArray 3 (0, 0)) :: (zC, .cells #[] 50 (0, 0)) :: base27 a b ba bb m1 m2 bx bt gL gN cuL cuN v u) := hTa
        clear hTa
        refine tr_make t27_7 (.slice (some ⟨gB, 0, none⟩) a.N.length cB) X5 (by kernel_rfl) rfl rfl (exec_append _ _ 22 rfl (F10.ev 180 (by kernel_rfl)) (F10.ev 182 (by kernel_rfl)) hrun) ⟨hT5.cell 3 rfl rfl, hT5.cell 3 rfl rfl, hT5.cell 3 rfl rfl⟩ ?_
        replace hbw := hbw.trans (hba.mono hbw.size)
        clear hrun hba hT4
        clear X4
        refine F10.next 183 (.slice (some ⟨gB, 0, none⟩) a.N.length cB) fun a11 F11 => ?_
        clear F10 a10
        obtain ⟨gC, cC, cuC, X6, hrun, hTa, hpC, hba⟩ := hT5.app_kin 2 rfl (A := a.AK) (n := a.K.length) (c := a.cK) (rowK_of hf (ha.below hT5.below)) h3 (s3_kin_len a).symm 23
        replace hpC := hpC.1
        have hT6 : Tr w W X6 ((gB, .cells (cuB).toArray 3 (0, 0)) :: (gA, .cells (cuA).toArray 3 (0, 0)) :: (gC, .cells (cuC).toArray 50 (0, 0)) :: base27 a b ba bb m1 m2 bx bt gL gN cuL cuN v u) := hTa
        clear hTa
        refine tr_make t27_11 (.slice (some ⟨gC, 0, none⟩) a.K.length cC) X6 (by kernel_rfl) rfl rfl (exec_append _ _ 23 rfl (F11.ev 184 (by kernel_rfl)) (F11.ev 186 (by kernel_rfl)) hrun) ⟨hT6.cell 3 rfl rfl, hT6.cell 3 rfl rfl, hT6.cell 3 rfl rfl⟩ ?_
        replace hbw := hbw.trans (hba.mono hbw.size)
        clear hrun hba hT5
        clear X5
        refine F11.next 187 (.slice (some ⟨gC, 0, none⟩) a.K.length cC) fun a12 F12 => ?_
        clear F11 a11
        refine tr_make t27_12 (.slice (some ⟨gA, 0, none⟩) a.L.length cA) _ (by kernel_rfl) rfl rfl ?_ ⟨hT6.cell 3 rfl rfl, hT6.cell 3 rfl rfl, hT6.cell 3 rfl rfl⟩ ?_; (focus (have hq := (show (fun W' : World => W'.cell? ⟨b, 0, none⟩ = some (a.sL) ∧ W'.cell? ⟨b, 1, none⟩ = some (a.sN) ∧ W'.cell? ⟨b, 2, none⟩ = some (a.sK)) X6 from ⟨hT6.cell 3 rfl rfl, hT6.cell 3 rfl rfl, hT6.cell 3 rfl rfl⟩); have e179 : a12.eval (.tmp 179) = (.slice (some ⟨gA, 0, none⟩) a.L.length cA) := F12.ev 179 (by kernel_rfl); generalize a12.eval = ev at e179 ⊢; simp [go_sem, mkO, t27_12, e179]; done))
        refine F12.next 18 (.slice (some ⟨gA, 0, none⟩) a.L.length cA) fun a13 F13 => ?_
        clear F12 a12
        refine tr_make t27_13 (.slice (some ⟨gB, 0, none⟩) a.N.length cB) _ (by kernel_rfl) rfl rfl ?_ ⟨hT6.cell 3 rfl rfl, hT6.cell 3 rfl rfl, hT6.cell 3 rfl rfl⟩ ?_; (focus (have hq := (show (fun W' : World => W'.cell? ⟨b, 0, none⟩ = some (a.sL) ∧ W'.cell? ⟨b, 1, none⟩ = some (a.sN) ∧ W'.cell? ⟨b, 2, none⟩ = some (a.sK)) X6 from ⟨hT6.cell 3 rfl rfl, hT6.cell 3 rfl rfl, hT6.cell 3 rfl rfl⟩); have e183 : a13.eval (.tmp 183) = (.slice (some ⟨gB, 0, none⟩) a.N.length cB) := F13.ev 183 (by kernel_rfl); generalize a13.eval = ev at e183 ⊢; simp [go_sem, mkO, t27_13, e183]; done))
        refine F13.next 19 (.slice (some ⟨gB, 0, none⟩) a.N.length cB) fun a14 F14 => ?_
        clear F13 a13
        refine tr_make t27_14 (.slice (some ⟨gC, 0, none⟩) a.K.length cC) _ (by kernel_rfl) rfl rfl ?_ ⟨hT6.cell 3 rfl rfl, hT6.cell 3 rfl rfl, hT6.cell 3 rfl rfl⟩ ?_; (focus (have hq := (show (fun W' : World => W'.cell? ⟨b, 0, none⟩ = some (a.sL) ∧ W'.cell? ⟨b, 1, none⟩ = some (a.sN) ∧ W'.cell? ⟨b, 2, none⟩ = some (a.sK)) X6 from ⟨hT6.cell 3 rfl rfl, hT6.cell 3 rfl rfl, hT6.cell 3 rfl rfl⟩); have e187 : a14.eval (.tmp 187) = (.slice (some ⟨gC, 0, none⟩) a.K.length cC) := F14.ev 187 (by kernel_rfl); generalize a14.eval = ev at e187 ⊢; simp [go_sem, mkO, t27_14, e187]; done))
        refine F14.next 20 (.slice (some ⟨gC, 0, none⟩) a.K.length cC) fun a15 F15 => ?_
        clear F14 a14
        exact F15.out hQn hT6.keep ⟨gA, cA, cuA, gB, cB, cuB, gC, cC, cuC, (hT6.pick [1, 0, 2, 3, 4, 5, 6, 7, 8, 9] (by kernel_rfl) (by kernel_rfl) (by kernel_rfl)).again, hpA, hpB, hpC, hbw, (F15.fin [176, 177, 178, 179, 180, 181, 182, 183, 184, 185, 186, 187] (by kernel_rfl))⟩
      · have hT3 : Tr w W (X2.alloc (.cells #[] 3)) ((X2.heap.size, .cells #[] 3 (0, 0)) :: (zA, .cells #[] 3 (0, 0)) :: (zC, .cells #[] 50 (0, 0)) :: base27 a b ba bb m1 m2 bx bt gL gN cuL cuN v u) := hT2.alloc (.cells #[] 3)
        refine tr_make t27_4 (.slice (some ⟨X2.heap.size, 0, none⟩) 0 0) (X2.alloc (.cells #[] 3)) (by kernel_rfl) rfl rfl ?_ ⟨hT3.cell 3 rfl rfl, hT3.cell 3 rfl rfl, hT3.cell 3 rfl rfl⟩ ?_; (focus (simp [go_sem, mkO, t27_4, hu22]; done))
        replace hbw := hbw.alloc hbw.size (.cells #[] 3)
        obtain ⟨zB, hgzB⟩ : ∃ b, X2.heap.size = b := ⟨_, rfl⟩
        simp only [hgzB] at hT3 ⊢
        generalize X2.alloc (.cells #[] 3) = X3 at *
        clear hgzB hT2
        clear X2
        refine F8.next 180 (.slice (some ⟨zB, 0, none⟩) 0 0) fun a9 F9 => ?_
        clear F8 a8
        obtain ⟨gA, cA, cuA, X4, hrun, hTa, hpA, hba⟩ := hT3.app_ints 1 rfl (A := a.AL) (L := a.L) (n := a.L.length) (c := a.cL) ((ha.below hT3.below).l) h1 rfl 22
        skip
        have hT4 : Tr w W X4 ((zB, .cells #[] 3 (0, 0)) :: (gA, .cells (cuA).toArray 3 (0, 0)) :: (zC, .cells #[] 50 (0, 0)) :: base27 a b ba bb m1 m2 bx bt gL gN cuL cuN v u) := hTa
        clear hTa
        refine tr_make t27_3 (.slice (some ⟨gA, 0, none⟩) a.L.length cA) X4 (by kernel_rfl) rfl rfl (exec_append _ _ 22 rfl (F9.ev 176 (by kernel_rfl)) (F9.ev 178 (by kernel_rfl)) hrun) ⟨hT4.cell 3 rfl rfl, hT4.cell 3 rfl rfl, hT4.cell 3 rfl rfl⟩ ?_
        replace hbw := hbw.trans (hba.mono hbw.size)
        clear hrun hba hT3
        clear X3
        refine F9.next 179 (.slice (some ⟨gA, 0, none⟩) a.L.length cA) fun a10 F10 => ?_
        clear F9 a9
        obtain ⟨gB, cB, cuB, X5, hrun, hTa, hpB, hba⟩ := hT4.app_ints 0 rfl (A := a.AN) (L := a.N) (n := a.N.length) (c := a.cN) ((ha.below hT4.below).n) h2 rfl 22
        skip
        have hT5 : Tr w W X5 ((gB, .cells (cuB).toArray 3 (0, 0)) :: (gA, .cells (cuA).toArray 3 (0, 0)) :: (zC, .cells #[] 50 (0, 0)) :: base27 a b ba bb m1 m2 bx bt gL gN cuL cuN v u) := hTa
        clear hTa
        refine tr_make t27_7 (.slice (some ⟨gB, 0, none⟩) a.N.length cB) X5 (by kernel_rfl) rfl rfl (exec_append _ _ 22 rfl (F10.ev 180 (by kernel_rfl)) (F10.ev 182 (by kernel_rfl)) hrun) ⟨hT5.cell 3 rfl rfl, hT5.cell 3 rfl rfl, hT5.cell 3 rfl rfl⟩ ?_
        replace hbw := hbw.trans (hba.mono hbw.size)
        clear hrun hba hT4
        clear X4
        refine F10.next 183 (.slice (some ⟨gB, 0, none⟩) a.N.length cB) fun a11 F11 => ?_
        clear F10 a10
        obtain ⟨gC, cC, cuC, X6, hrun, hTa, hpC, hba⟩ := hT5.app_kin 2 rfl (A := a.AK) (n := a.K.length) (c := a.cK) (rowK_of hf (ha.below hT5.below)) h3 (s3_kin_len a).symm 23
        replace hpC := hpC.1
        have hT6 : Tr w W X6 ((gB, .cells (cuB).toArray 3 (0, 0)) :: (gA, .cells (cuA).toArray 3 (0, 0)) :: (gC, .cells (cuC).toArray 50 (0, 0)) :: base27 a b ba bb m1 m2 bx bt gL gN cuL cuN v u) := hTa
        clear hTa
        refine tr_make t27_11 (.slice (some ⟨gC, 0, none⟩) a.K.length cC) X6 (by kernel_rfl) rfl rfl (exec_append _ _ 23 rfl (F11.ev 184 (by kernel_rfl)) (F11.ev 186 (by kernel_rfl)) hrun) ⟨hT6.cell 3 rfl rfl, hT6.cell 3 rfl rfl, hT6.cell 3 rfl rfl⟩ ?_
        replace hbw := hbw.trans (hba.mono hbw.size)
        clear hrun hba hT5
        clear X5
        refine F11.next 187 (.slice (some ⟨gC, 0, none⟩) a.K.length cC) fun a12 F12 => ?_
        clear F11 a11
        refine tr_make t27_12 (.slice (some ⟨gA, 0, none⟩) a.L.length cA) _ (by kernel_rfl) rfl rfl ?_ ⟨hT6.cell 3 rfl rfl, hT6.cell 3 rfl rfl, hT6.cell 3 rfl rfl⟩ ?_; (focus (have hq := (show (fun W' : World => W'.cell? ⟨b, 0, none⟩ = some (a.sL) ∧ W'.cell? ⟨b, 1, none⟩ = some (a.sN) ∧ W'.cell? ⟨b, 2, none⟩ = some (a.sK)) X6 from ⟨hT6.cell 3 rfl rfl, hT6.cell 3 rfl rfl, hT6.cell 3 rfl rfl⟩); have e179 : a12.eval (.tmp 179) = (.slice (some ⟨gA, 0, none⟩) a.L.length cA) := F12.ev 179 (by kernel_rfl); generalize a12.eval = ev at e179 ⊢; simp [go_sem, mkO, t27_12, e179]; done))
        refine F12.next 18 (.slice (some ⟨gA, 0, none⟩) a.L.length cA) fun a13 F13 => ?_
        clear F12 a12
        refine tr_make t27_13 (.slice (some ⟨gB, 0, none⟩) a.N.length cB) _ (by kernel_rfl) rfl rfl ?_ ⟨hT6.cell 3 rfl rfl, hT6.cell 3 rfl rfl, hT6.cell 3 rfl rfl⟩ ?_; (focus (have hq := (show (fun W' : World => W'.cell? ⟨b, 0, none⟩ = some (a.sL) ∧ W'.cell? ⟨b, 1, none⟩ = some (a.sN) ∧ W'.cell? ⟨b, 2, none⟩ = some (a.sK)) X6 from ⟨hT6.cell 3 rfl rfl, hT6.cell 3 rfl rfl, hT6.cell 3 rfl rfl⟩); have e183 : a13.eval (.tmp 183) = (.slice (some ⟨gB, 0, none⟩) a.N.length cB) := F13.ev 183 (by kernel_rfl); generalize a13.eval = ev at e183 ⊢; simp [go_sem, mkO, t27_13, e183]; done))
        refine F13.next 19 (.slice (some ⟨gB, 0, none⟩) a.N.length cB) fun a14 F14 => ?_
        clear F13 a13
        refine tr_make t27_14 (.slice (some ⟨gC, 0, none⟩) a.K.length cC) _ (by kernel_rfl) rfl rfl ?_ ⟨hT6.cell 3 rfl rfl, hT6.cell 3 rfl rfl, hT6.cell 3 rfl rfl⟩ ?_; (focus (have hq := (show (fun W' : World => W'.cell? ⟨b, 0, none⟩ = some (a.sL) ∧ W'.cell? ⟨b, 1, none⟩ = some (a.sN) ∧ W'.cell? ⟨b, 2, none⟩ = some (a.sK)) X6 from ⟨hT6.cell 3 rfl rfl, hT6.cell 3 rfl rfl, hT6.cell 3 rfl rfl⟩); have e187 : a14.eval (.tmp 187) = (.slice (some ⟨gC, 0, none⟩) a.K.length cC) := F14.ev 187 (by kernel_rfl); generalize a14.eval = ev at e187 ⊢; simp [go_sem, mkO, t27_14, e187]; done))
        refine F14.next 20 (.slice (some ⟨gC, 0, none⟩) a.K.length cC) fun a15 F15 => ?_
        clear F14 a14
        exact F15.out hQn hT6.keep ⟨gA, cA, cuA, gB, cB, cuB, gC, cC, cuC, (hT6.pick [1, 0, 2, 3, 4, 5, 6, 7, 8, 9] (by kernel_rfl) (by kernel_rfl) (by kernel_rfl)).again, hpA, hpB, hpC, hbw, (F15.fin [176, 177, 178, 179, 180, 181, 182, 183, 184, 185, 186, 187] (by kernel_rfl))⟩
    · have hT2 : Tr w W (X1.alloc (.cells #[] 3)) ((X1.heap.size, .cells #[] 3 (0, 0)) :: (zC, .cells #[] 50 (0, 0)) :: base27 a b ba bb m1 m2 bx bt gL gN cuL cuN v u) := hT1.alloc (.cells #[] 3)
      refine tr_make t27_4 (.slice (some ⟨X1.heap.size, 0, none⟩) 0 0) (X1.alloc (.cells #[] 3)) (by kernel_rfl) rfl rfl ?_ ⟨hT2.cell 2 rfl rfl, hT2.cell 2 rfl rfl, hT2.cell 2 rfl rfl⟩ ?_; (focus (simp [go_sem, mkO, t27_4, hu22]; done))
      replace hbw := hbw.alloc hbw.size (.cells #[] 3)
      obtain ⟨zB, hgzB⟩ : ∃ b, X1.heap.size = b := ⟨_, rfl⟩
      simp only [hgzB] at hT2 ⊢
      generalize X1.alloc (.cells #[] 3) = X2 at *
      clear hgzB hT1
      clear X1
      refine F7.next 180 (.slice (some ⟨zB, 0, none⟩) 0 0) fun a8 F8 => ?_
      clear F7 a7
      have hT3 : Tr w W (X2.alloc (.cells #[] 3)) ((X2.heap.size, .cells #[] 3 (0, 0)) :: (zB, .cells #[] 3 (0, 0)) :: (zC, .cells #[] 50 (0, 0)) :: base27 a b ba bb m1 m2 bx bt gL gN cuL cuN v u) := hT2.alloc (.cells #[] 3)
      refine tr_make t27_0 (.slice (some ⟨X2.heap.size, 0, none⟩) 0 0) (X2.alloc (.cells #[] 3)) (by kernel_rfl) rfl rfl ?_ ⟨hT3.cell 3 rfl rfl, hT3.cell 3 rfl rfl, hT3.cell 3 rfl rfl⟩ ?_; (focus (simp [go_sem, mkO, t27_0, hu22]; done))
      replace hbw := hbw.alloc hbw.size (.cells #[] 3)
      obtain ⟨zA, hgzA⟩ : ∃ b, X2.heap.size = b := ⟨_, rfl⟩
      simp only [hgzA] at hT3 ⊢
      generalize X2.alloc (.cells #[] 3) = X3 at *
      clear hgzA hT2
      clear X2
      refine F8.next 176 (.slice (some ⟨zA, 0, none⟩) 0 0) fun a9 F9 => ?_
      clear F8 a8
      obtain ⟨gA, cA, cuA, X4, hrun, hTa, hpA, hba⟩ := hT3.app_ints 0 rfl (A := a.AL) (L := a.L) (n := a.L.length) (c := a.cL) ((ha.below hT3.below).l) h1 rfl 22
      skip
      have hT4 : Tr w W X4 ((gA, .cells (cuA).toArray 3 (0, 0)) :: (zB, .cells #[] 3 (0, 0)) :: (zC, .cells #[] 50 (0, 0)) :: base27 a b ba bb m1 m2 bx bt gL gN cuL cuN v u) := hTa
      clear hTa
      refine tr_make t27_3 (.slice (some ⟨gA, 0, none⟩) a.L.length cA) X4 (by kernel_rfl) rfl rfl (exec_append _ _ 22 rfl (F9.ev 176 (by kernel_rfl)) (F9.ev 178 (by kernel_rfl)) hrun) ⟨hT4.cell 3 rfl rfl, hT4.cell 3 rfl rfl, hT4.cell 3 rfl rfl⟩ ?_
      replace hbw := hbw.trans (hba.mono hbw.size)
      clear hrun hba hT3
      clear X3
      refine F9.next 179 (.slice (some ⟨gA, 0, none⟩) a.L.length cA) fun a10 F10 => ?_
      clear F9 a9
      obtain ⟨gB, cB, cuB, X5, hrun, hTa, hpB, hba⟩ := hT4.app_ints 1 rfl (A := a.AN) (L := a.N) (n := a.N.length) (c := a.cN) ((ha.below hT4.below).n) h2 rfl 22
      skip
      have hT5 : Tr w W X5 ((gA, .cells (cuA).toArray 3 (0, 0)) :: (gB, .cells (cuB).toArray 3 (0, 0)) :: (zC, .cells #[] 50 (0, 0)) :: base27 a b ba bb m1 m2 bx bt gL gN cuL cuN v u) := hTa
      clear hTa
      refine tr_make t27_7 (.slice (some ⟨gB, 0, none⟩) a.N.length cB) X5 (by kernel_rfl) rfl rfl (exec_append _ _ 22 rfl (F10.ev 180 (by kernel_rfl)) (F10.ev 182 (by kernel_rfl)) hrun) ⟨hT5.cell 3 rfl rfl, hT5.cell 3 rfl rfl, hT5.cell 3 rfl rfl⟩ ?_
      replace hbw := hbw.trans (hba.mono hbw.size)
      clear hrun hba hT4
      clear X4
      refine F10.next 183 (.slice (some ⟨gB, 0, none⟩) a.N.length cB) fun a11 F11 => ?_
      clear F10 a10
      obtain ⟨gC, cC, cuC, X6, hrun, hTa, hpC, hba⟩ := hT5.app_kin 2 rfl (A := a.AK) (n := a.K.length) (c := a.cK) (rowK_of hf (ha.below hT5.below)) h3 (s3_kin_len a).symm 23
      replace hpC := hpC.1
      have hT6 : Tr w W X6 ((gA, .cells (cuA).toArray 3 (0, 0)) :: (gB, .cells (cuB).toArray 3 (0, 0)) :: (gC, .cells (cuC).toArray 50 (0, 0)) :: base27 a b ba bb m1 m2 bx bt gL gN cuL cuN v u) := hTa
      clear hTa
      refine tr_make t27_11 (.slice (some ⟨gC, 0, none⟩) a.K.length cC) X6 (by kernel_rfl) rfl rfl (exec_append _ _ 23 rfl (F11.ev 184 (by kernel_rfl)) (F11.ev 186 (by kernel_rfl)) hrun) ⟨hT6.cell 3 rfl rfl, hT6.cell 3 rfl rfl, hT6.cell 3 rfl rfl⟩ ?_
      replace hbw := hbw.trans (hba.mono hbw.size)
      clear hrun hba hT5
      clear X5
      refine F11.next 187 (.slice (some ⟨gC, 0, none⟩) a.K.length cC) fun a12 F12 => ?_
      clear F11 a11
      refine tr_make t27_12 (.slice (some ⟨gA, 0, none⟩) a.L.length cA) _ (by kernel_rfl) rfl rfl ?_ ⟨hT6.cell 3 rfl rfl, hT6.cell 3 rfl rfl, hT6.cell 3 rfl rfl⟩ ?_; (focus (have hq := (show (fun W' : World => W'.cell? ⟨b, 0, none⟩ = some (a.sL) ∧ W'.cell? ⟨b, 1, none⟩ = some (a.sN) ∧ W'.cell? ⟨b, 2, none⟩ = some (a.sK)) X6 from ⟨hT6.cell 3 rfl rfl, hT6.cell 3 rfl rfl, hT6.cell 3 rfl rfl⟩); have e179 : a12.eval (.tmp 179) = (.slice (some ⟨gA, 0, none⟩) a.L.length cA) := F12.ev 179 (by kernel_rfl); generalize a12.eval = ev at e179 ⊢; simp [go_sem, mkO, t27_12, e179]; done))
      refine F12.next 18 (.slice (some ⟨gA, 0, none⟩) a.L.length cA) fun a13 F13 => ?_
      clear F12 a12
      refine tr_make t27_13 (.slice (some ⟨gB, 0, none⟩) a.N.length cB) _ (by kernel_rfl) rfl rfl ?_ ⟨hT6.cell 3 rfl rfl, hT6.cell 3 rfl rfl, hT6.cell 3 rfl rfl⟩ ?_; (focus (have hq := (show (fun W' : World => W'.cell? ⟨b, 0, none⟩ = some (a.sL) ∧ W'.cell? ⟨b, 1, none⟩ = some (a.sN) ∧ W'.cell? ⟨b, 2, none⟩ = some (a.sK)) X6 from ⟨hT6.cell 3 rfl rfl, hT6.cell 3 rfl rfl, hT6.cell 3 rfl rfl⟩); have e183 : a13.eval (.tmp 183) = (.slice (some ⟨gB, 0, none⟩) a.N.length cB) := F13.ev 183 (by kernel_rfl); generalize a13.eval = ev at e183 ⊢; simp [go_sem, mkO, t27_13, e183]; done))
      refine F13.next 19 (.slice (some ⟨gB, 0, none⟩) a.N.length cB) fun a14 F14 => ?_
      clear F13 a13
      refine tr_make t27_14 (.slice (some ⟨gC, 0, none⟩) a.K.length cC) _ (by kernel_rfl) rfl rfl ?_ ⟨hT6.cell 3 rfl rfl, hT6.cell 3 rfl rfl, hT6.cell 3 rfl rfl⟩ ?_; (focus (have hq := (show (fun W' : World => W'.cell? ⟨b, 0, none⟩ = some (a.sL) ∧ W'.cell? ⟨b, 1, none⟩ = some (a.sN) ∧ W'.cell? ⟨b, 2, none⟩ = some (a.sK)) X6 from ⟨hT6.cell 3 rfl rfl, hT6.cell 3 rfl rfl, hT6.cell 3 rfl rfl⟩); have e187 : a14.eval (.tmp 187) = (.slice (some ⟨gC, 0, none⟩) a.K.length cC) := F14.ev 187 (by kernel_rfl); generalize a14.eval = ev at e187 ⊢; simp [go_sem, mkO, t27_14, e187]; done))
      refine F14.next 20 (.slice (some ⟨gC, 0, none⟩) a.K.length cC) fun a15 F15 => ?_
      clear F14 a14
      exact F15.out hQn hT6.keep ⟨gA, cA, cuA, gB, cB, cuB, gC, cC, cuC, hT6.again, hpA, hpB, hpC, hbw, (F15.fin [176, 177, 178, 179, 180, 181, 182, 183, 184, 185, 186, 187] (by kernel_rfl))⟩
end Go.Proofs.Ytbdmmikflkpmpaa
end

section
namespace Go.Proofs.Ytbdmmikflkpmpaa
open Go.RowKit Go.TL Go.Shelf Go.Pn
def TuM (w : World) (a : XP) (ba bb m1 m2 bx bt gL gN B : Nat) (v : Value) (t' : Array Value) (W : World) : Prop := ∃ (u : Value) (K4 : List (Nat × Nat)), Tr w W W [(w.heap.size, .cells #[a.sL, a.sN, a.sK] 25 (0, 0)), (ba, .cells #[.int .u8 (m1 : Int)] 5 (0, 0)), (bb, .cells #[.int .u8 (m2 : Int)] 5 (0, 0)), (bx, .cells #[.slice (some ⟨gL, 0, none⟩) a.L.length a.L.length, .slice (some ⟨gN, 0, none⟩) a.N.length a.N.length, v] 25 (0, 0)), (bt, .cells #[a.sL, a.sN, u] 25 (0, 0)), (gL, .cells ((List.map vi (rotTo a.L (fun j => (j + m1) % a.L.length) a.L.length))).toArray 3 (0, 0)), (gN, .cells ((List.map vi (rotTo a.N (fun j => (j + m2) % a.N.length) a.N.length))).toArray 3 (0, 0))] ∧ W.ownsRow w.heap.size 50 2 u K4.length (flatV K4) ∧ W.ownsRow B 50 2 v a.K.length (flatV (kinTo a.s3.2.2 (fun j => (j + m1) % a.L.length) (fun j => (j + m2) % a.N.length) a.K.length)) ∧ K4.length ≤ 10 ∧ (∀ k, k ∈ K4 ↔ k ∈ a.s3.2.2) ∧ Slots (none :: none :: none :: some (.pointer (some ⟨w.heap.size, 0, none⟩)) :: some (.pointer (some ⟨ba, 0, none⟩)) :: some (.pointer (some ⟨bb, 0, none⟩)) :: some (.bool false) :: some (.func (.func 48) #[] #[.pointer (some ⟨ba, 0, none⟩), .pointer (some ⟨w.heap.size, 0, none⟩)]) :: some (.func (.func 49) #[] #[.pointer (some ⟨bb, 0, none⟩), .pointer (some ⟨w.heap.size, 0, none⟩)]) :: some (.pointer (some ⟨bx, 0, none⟩)) :: some (.pointer (some ⟨bt, 0, none⟩)) :: none :: none :: none :: o4 (o4 (o16 (o16 (o64 (o64 (o64 (o64 (o64 (o64 [])))))))))) t'
theorem heavy_k {a : XP} (hq : a.isP = true) (h : heavyB a 5 5 9 = false) : a.K.length ≤ 9 := by
  unfold heavyB XP.big at h
  rw [hq] at h
  simp at h
  omega
set_option maxRecDepth 100000 in
set_option maxHeartbeats 8000000 in
theorem turned_law (a : XP) (m1 m2 : Nat) (w : World) (h : a.Row w) (hm1 : m1 < 256) (hm2 : m2 < 256) : Calls Try.prog 12 #[a.val, .int .u8 (m1 : Int), .int .u8 (m2 : Int)] w fun e w' => e = .returned (.bool true) ∧ Below w.heap.size w w' := by
  have hu25 := Try.underlying25
  have hu22 := Try.underlying22
  have hu23 := Try.underlying23
  have hmf : ∀ fn first cap w, (Instr.makeFunc fn first cap).run Try.prog w = .ok (.func fn first cap) w := fun _ _ _ _ => rfl
  refine calls_of_exec Try.func12 rfl ?_
  simp only [Try.ntmps12, List.size_toArray, List.length_cons, List.length_nil, Nat.reduceAdd, Nat.reduceSub, Array.replicate_succ, Array.replicate_zero, List.push_toArray, List.append_toArray, List.nil_append, List.cons_append]
  simp only [XP.val]
  have hTa := (((Tr.start (Below.refl w.heap.size w)).alloc (.cells #[a.sL, a.sN, a.sK] 25)).alloc (.cells #[.int .u8 (m1 : Int)] 5)).alloc (.cells #[.int .u8 (m2 : Int)] 5)
  have hKa := hTa.keep
  replace hTa := hTa.again
  simp only [World.size_alloc] at hTa
  refine exec_seq (exec_region_o fun ds => ?_)
  gi_wp2
  refine eq_mk hKa ?_
  show Exec _ _ (Code.seq _ _) _ _ _
  clear hKa
  generalize ((w.alloc (.cells #[a.sL, a.sN, a.sK] 25)).alloc (.cells #[.int .u8 (m1 : Int)] 5)).alloc (.cells #[.int .u8 (m2 : Int)] 5) = W0 at *
  generalize w.heap.size + 1 + 1 = bb at *
  generalize w.heap.size + 1 = ba at *
  have hT0 : Tr w W0 W0 [(w.heap.size, .cells #[a.sL, a.sN, a.sK] 25 (0, 0)), (ba, .cells #[.int .u8 (m1 : Int)] 5 (0, 0)), (bb, .cells #[.int .u8 (m2 : Int)] 5 (0, 0))] := hTa.pick [2, 1, 0] (by kernel_rfl) (by kernel_rfl) (by kernel_rfl)
  clear hTa
  have hR := h.below hT0.below
  have c0 := hT0.cell 0 rfl (j := 0) rfl
  have c1 := hT0.cell 0 rfl (j := 1) rfl
  have c2 := hT0.cell 0 rfl (j := 2) rfl
  obtain ⟨hv, hhv⟩ : ∃ b, heavyB a 5 5 9 = b := ⟨_, rfl⟩
  have hvy : Calls Try.prog 13 #[.agg #[a.sL, a.sN, a.sK], .int .i64 5, .int .i64 5, .int .i64 9] W0 fun e w' => e = .returned (.bool (heavyB a 5 5 9)) ∧ Below W0.heap.size W0 w' := heavy13 a 5 5 9 W0 hR
  rw [hhv] at hvy
  refine exec_seq (exec_seq (exec_region_o fun ds => ?_))
  gi_wp2_with fail
  refine ⟨trivial, rfl, (callsIn_wide.2 hvy).mono ?_⟩
  rintro e W1 ⟨rfl, hx⟩
  have hT1 := hT0.step hx
  have hRX := hR.below hx
  have hK := hT1.keep
  replace hT1 := hT1.again
  clear hx hvy c0 c1 c2 hR hT0
  have HR := Lib.hid h
  clear h
  cases hv with
  | true =>
    gi_wp2
    first | refine ⟨trivial, ?_⟩ | refine ⟨fun f h => (by cases h), ?_⟩ | skip
    first | (rename_i hKK; refine hKK _ _ ?_) | (rename_i hKK _; refine hKK _ _ ?_) | (rename_i hKK _ _; refine hKK _ _ ?_) | (rename_i hKK _ _ _; refine hKK _ _ ?_) | (rename_i hKK _ _ _ _; refine hKK _ _ ?_)
    gi_wp2
    refine eq_mk hK ?_
    show Exec _ _ (Code.cond _ _ _) _ _ _
    refine exec_cond (b := true) rfl (fun _ => ?_) (fun h => by cases h)
    have hBX := hT1.below
    refine exec_seq (exec_region_o fun ds => ?_)
    gi_wp2_with fail
    refine ⟨trivial, rfl, (callsIn_wide.2 (alive14 W1)).mono ?_⟩
    rintro e Y ⟨rfl, hy⟩
    have hBY := hBX.trans (hy.mono hBX.size)
    gi_wp2
    refine eq_mk (Keep.of_below hy) ?_
    show Exec _ _ _ _ _ _
    exact exec_ret ⟨.inr rfl, fun W' hG => ⟨.bool true, by simp [results, Try.f12, go_sem], rfl, hBY.trans (hG.below (Nat.le_refl _) hBY.size)⟩⟩
  | false =>
    have hsm : a.small = true := by
      cases hs : a.small with
      | true => rfl
      | false => rw [heavyB, hs] at hhv; cases hhv
    have h3 : (a.L.length ≤ 40 ∧ a.N.length ≤ 40) ∧ a.K.length ≤ 40 := by simpa [XP.small] using hsm
    have ha : a.At w := HR.out.at_ h3.1.1 h3.1.2 h3.2
    have HV := Lib.hid hhv
    clear hsm h3 hRX HR hhv
    have c0 := hT1.cell 0 rfl (j := 0) rfl
    have c1 := hT1.cell 0 rfl (j := 1) rfl
    have c2 := hT1.cell 0 rfl (j := 2) rfl
    have hp := panels22 a W1 (ha.below hT1.below)
    cases hq : a.isP with
    | false =>
      rw [hq] at hp
      clear hq
      gi_wp2_with fail
      refine ⟨trivial, rfl, (callsIn_wide.2 hp).mono ?_⟩
      rintro e W2 ⟨rfl, hx1⟩
      have hT2 := hT1.step hx1
      have hK1 := hK.trans hT2.keep
      have hBX := hT2.below
      clear hx1 c0 c1 c2 hp ha hT1 hT2
      gi_wp2
      refine eq_mk hK1 ?_
      show Exec _ _ (Code.cond _ _ _) _ _ _
      refine exec_cond (b := true) rfl (fun _ => ?_) (fun h => by cases h)
      refine exec_seq (exec_region_o fun ds => ?_)
      gi_wp2_with fail
      refine ⟨trivial, rfl, (callsIn_wide.2 (alive14 W2)).mono ?_⟩
      rintro e Y ⟨rfl, hy⟩
      have hBY := hBX.trans (hy.mono hBX.size)
      gi_wp2
      refine eq_mk (Keep.of_below hy) ?_
      show Exec _ _ _ _ _ _
      exact exec_ret ⟨.inr rfl, fun W' hG => ⟨.bool true, by simp [results, Try.f12, go_sem], rfl, hBY.trans (hG.below (Nat.le_refl _) hBY.size)⟩⟩
    | true =>
      have hf := a.fine hq
      have hk9 := heavy_k hq HV.out
      rw [hq] at hp
      gi_wp2_with fail
      refine ⟨trivial, rfl, (callsIn_wide.2 hp).mono ?_⟩
      rintro e W2 ⟨rfl, hx1⟩
      have hT2 := hT1.step hx1
      have hK1 := hK.trans hT2.keep
      replace hT2 := hT2.again
      clear hx1 c0 c1 c2 hp hT1 hK
      have c0 := hT2.cell 0 rfl (j := 0) rfl
      have c1 := hT2.cell 0 rfl (j := 1) rfl
      simp only [XP.sL] at c0
      simp only [XP.sN] at c1
      by_cases hJ : a.L.length = 0
      · rw [hJ] at c0
        have hBX := hT2.below
        clear hq hf hk9 HV
        gi_wp2
        refine eq_mk hK1 ?_
        show Exec _ _ (Code.cond _ _ _) _ _ _
        refine exec_cond (b := true) rfl (fun _ => ?_) (fun h => by cases h)
        refine exec_seq (exec_region_o fun ds => ?_)
        gi_wp2_with fail
        refine ⟨trivial, rfl, (callsIn_wide.2 (alive14 W2)).mono ?_⟩
        rintro e Y ⟨rfl, hy⟩
        have hBY := hBX.trans (hy.mono hBX.size)
        gi_wp2
        refine eq_mk (Keep.of_below hy) ?_
        show Exec _ _ _ _ _ _
        exact exec_ret ⟨.inr rfl, fun W' hG => ⟨.bool true, by simp [results, Try.f12, go_sem], rfl, hBY.trans (hG.below (Nat.le_refl _) hBY.size)⟩⟩
      · by_cases hN : a.N.length = 0
        · rw [hN] at c1
          have hBX := hT2.below
          clear hq hf hk9 HV
          gi_wp2
          refine eq_mk hK1 ?_
          show Exec _ _ (Code.cond _ _ _) _ _ _
          refine exec_cond (b := true) rfl (fun _ => ?_) (fun h => by cases h)
          refine exec_seq (exec_region_o fun ds => ?_)
          gi_wp2_with fail
          refine ⟨trivial, rfl, (callsIn_wide.2 (alive14 W2)).mono ?_⟩
          rintro e Y ⟨rfl, hy⟩
          have hBY := hBX.trans (hy.mono hBX.size)
          gi_wp2
          refine eq_mk (Keep.of_below hy) ?_
          show Exec _ _ _ _ _ _
          exact exec_ret ⟨.inr rfl, fun W' hG => ⟨.bool true, by simp [results, Try.f12, go_sem], rfl, hBY.trans (hG.below (Nat.le_refl _) hBY.size)⟩⟩
        · have hJp : 0 < a.L.length := by omega
          have hNp : 0 < a.N.length := by omega
          gi_wp2
          refine eq_mk hK1 ?_
          show Exec _ _ (Code.cond _ _ _) _ _ _
          clear c0 c1 hK1 hJ hN HV
          clear W0 W1
          refine exec_cond (b := false) (by first | rfl | (show Value.bool _ = _; congr 1; first | exact decide_eq_false (by omega) | (simp only [Bool.or_eq_false_iff, Bool.and_eq_false_iff, beq_eq_false_iff_ne, decide_eq_false_iff_not, ne_eq]; omega))) (fun h => by cases h) (fun _ => exec_skip ?_)
          show Exec _ _ (Code.seq _ (Code.seq _ _)) _ _ _
          refine exec_seq (exec_region_o fun ds => ?_)
          gi_wp2
          refine eq_mk (Keep.refl _) ?_
          show Exec _ _ (Code.seq _ _) _ _ _
          refine exec_seq (exec_region_o fun ds => ?_)
          gi_wp2
          refine eq_mk (Keep.refl _) ?_
          show Exec _ _ (Code.seq (sub (Try.f12.body.getD .skip) [1, 1, 1, 1, 0]) (Code.seq (sub (Try.f12.body.getD .skip) [1, 1, 1, 1, 1, 0]) (Code.seq (sub (Try.f12.body.getD .skip) [1, 1, 1, 1, 1, 1, 0]) (Code.seq (sub (Try.f12.body.getD .skip) [1, 1, 1, 1, 1, 1, 1, 0]) (Code.seq (sub (Try.f12.body.getD .skip) [1, 1, 1, 1, 1, 1, 1, 1, 0]) (Code.seq (sub (Try.f12.body.getD .skip) [1, 1, 1, 1, 1, 1, 1, 1, 1, 0]) (Code.seq (Code.seq _ (Code.seq _ (Code.cond _ (sub (Try.f12.body.getD .skip) [1, 1, 1, 1, 1, 1, 1, 1, 1, 1, 0, 1, 1, 0]) _))) (Code.seq (sub (Try.f12.body.getD .skip) [1, 1, 1, 1, 1, 1, 1, 1, 1, 1, 1, 0]) (sub (Try.f12.body.getD .skip) [1, 1, 1, 1, 1, 1, 1, 1, 1, 1, 1, 1]))))))))) _ _ _
          refine exec_seq ((tu_r5 hT2 (by simp [Slots, Fits])).mono ?_)
          intro e t W3 hh
          obtain ⟨rfl, bx, bt, hT3, hSl⟩ := only_normal hh
          clear hh hT2
          clear W2
          refine exec_seq ((tu_r6 ha hT3 hSl).mono ?_)
          clear hSl
          clear t
          intro e t W4 hh
          obtain ⟨rfl, gL, gN, hT4, hSl⟩ := only_normal hh
          clear hh hT3
          clear W3
          refine exec_seq ((tu_loads hf ha hm1 hT4 hSl).mono ?_)
          clear hSl
          clear t
          intro e t W5 hh
          obtain ⟨rfl, hT5, hSl⟩ := only_normal hh
          clear hh hT4
          clear W4
          refine exec_seq ((tu_needs hf ha hm2 hT5 hSl).mono ?_)
          clear hSl
          clear t
          intro e t W6 hh
          obtain ⟨rfl, hT6, hSl⟩ := only_normal hh
          clear hh hT5
          clear W5
          have hbt6 := hT6.lt _ (List.mem_of_getElem? (i := 4) rfl)
          refine exec_seq ((tu_kin hf ha hm1 hm2 hT6 hSl).mono ?_)
          clear hSl
          clear t
          intro e t W7 hh
          obtain ⟨rfl, v, hT7, ho7, hSl⟩ := only_normal hh
          clear hh hT6
          obtain ⟨B, hB⟩ : ∃ B, W6.heap.size = B := ⟨_, rfl⟩
          rw [hB] at hbt6 ho7
          clear hB
          clear W6
          refine exec_seq ((tu_r23 hf ha hbt6 ho7 hT7 hSl).mono ?_)
          clear hSl
          clear t
          intro e t W8 hh
          obtain ⟨rfl, gT, cT, cuT, hT8, ho8, hu8, hvT, hSl⟩ := only_normal hh
          clear hh hT7 ho7
          clear W7
          have c2 := hT8.cell 0 rfl (j := 2) rfl
          simp only [XP.sK] at c2
          have hKl := s3_kin_len a
          obtain ⟨x, hx⟩ := Slots.open_ hSl; simp only [fill, Nat.reduceAdd] at hx; subst hx; clear hSl
          refine exec_cut (TuM w a ba bb m1 m2 bx bt gL gN B v) ?_ ?_
          · show Exec _ _ (Code.seq _ _) _ _ _
            refine exec_seq (exec_region_o fun ds => ?_)
            gi_wp2
            refine eq_mk (Keep.refl _) ?_
            show Exec _ _ (Code.seq _ _) _ _ _
            refine exec_seq (exec_region_o fun ds => ?_)
            gi_wp2
            refine eq_mk (Keep.refl _) ?_
            show Exec _ _ (Code.cond _ _ _) _ _ _
            clear c2
            refine exec_cond (b := decide (0 < a.K.length)) (by first | rfl | (show Value.bool _ = _; congr 1; exact decide_eq_decide.2 (by omega))) (fun hp => ?_) (fun hp => exec_skip ?_)
            · have hp1 : 0 < a.K.length := of_decide_eq_true hp
              have hrl : m1 % a.K.length < a.K.length := Nat.mod_lt _ hp1
              obtain ⟨q, hq4⟩ : ∃ q, a.s3.2.2[m1 % a.K.length]? = some q := ⟨_, List.getElem?_eq_getElem (by omega)⟩
              obtain ⟨ad, hA, _⟩ := rowK_of hf ha _ q hq4
              have hqm := List.mem_of_getElem? hq4
              refine (tu_r26 hf ha hA hm1 hp1 rfl hq4 hbt6 ho8 hvT hu8 hT8 (by simp [Slots, Fits])).mono ?_
              clear x
              intro e t W9 hh
              obtain ⟨rfl, g2, c2, hT9, hu9, ho9, hSl⟩ := only_normal hh
              clear hh
              obtain ⟨x, hx⟩ := Slots.open_ hSl; simp only [fill, Nat.reduceAdd] at hx; subst hx; clear hSl
              refine ⟨_, a.s3.2.2 ++ [q], hT9, ?_, ho9, ?_, fun k => ?_, by simp [Slots, Fits]⟩
              · rw [List.length_append, hKl]
                exact hu9
              · rw [List.length_append, hKl]
                simp only [List.length_cons, List.length_nil]
                omega
              · rw [List.mem_append, List.mem_singleton]
                exact ⟨fun h => h.elim id (fun e => e ▸ hqm), fun h => .inl h⟩
            · have hp0 := of_decide_eq_false hp
              exact ⟨_, a.s3.2.2, hT8.drop (List.sublist_append_left ([(w.heap.size, .cells #[a.sL, a.sN, a.sK] 25 (0, 0)), (ba, .cells #[.int .u8 (m1 : Int)] 5 (0, 0)), (bb, .cells #[.int .u8 (m2 : Int)] 5 (0, 0)), (bx, .cells #[.slice (some ⟨gL, 0, none⟩) a.L.length a.L.length, .slice (some ⟨gN, 0, none⟩) a.N.length a.N.length, v] 25 (0, 0)), (bt, .cells #[a.sL, a.sN, .slice (some ⟨gT, 0, none⟩) a.K.length cT] 25 (0, 0)), (gL, .cells ((List.map vi (rotTo a.L (fun j => (j + m1) % a.L.length) a.L.length))).toArray 3 (0, 0)), (gN, .cells ((List.map vi (rotTo a.N (fun j => (j + m2) % a.N.length) a.N.length))).toArray 3 (0, 0))] : List (Nat × Obj)) [_]), by rw [hKl]; exact hu8, ho8, by omega, fun k => Iff.rfl, by simp [Slots, Fits]⟩
          · clear c2 hT8 ho8 hu8 hvT x
            clear W8
            rintro t W8 ⟨u, K4, hT8, hu8, ho8, hK4, hm4, hSl⟩
            refine exec_seq ((tu_r27 hf ha hT8 hSl).mono ?_)
            clear hSl
            clear t
            intro e t W9 hh
            obtain ⟨rfl, gA, cA, cuA, gB, cB, cuB, gC, cC, cuC, hT9, hpA, hpB, hpC, hbw, hSl⟩ := only_normal hh
            have ho9 := own_grow ho8 (Grow.of_below (B := 0) hbw)
            have hu9 := own_grow hu8 (Grow.of_below (B := 0) hbw)
            clear hh hbw hT8 ho8 hu8
            clear W8
            obtain ⟨A, c, rfl, hrk, _⟩ := row_own_pairs ho9 (kinTo_len _ _ _ _).symm
            obtain ⟨A4, c4, rfl, hrk4, _⟩ := row_own_pairs hu9 rfl
            have hs := Ren.rot a.L.length m1
            have ht := Ren.rot a.N.length m2
            have haW := ha.below hT9.below
            have gLh := hT9.get 8 rfl
            have gNh := hT9.get 9 rfl
            have hxf := turn_fine (gL := gL) (gN := gN) (A := A) (c := c) hf hs ht
            have htf := twice_fine (A := A4) (c := c4) hf hK4 fun k h => (hm4 k).1 h
            have hF := tu_facts hf hxf (turn_tn hf hs ht) (turn_krev hf)
            have hc3 := twice_count (A := A4) (c := c4) hf hK4 hm4
            have hxa : (a.turn gL gN A c (fun j => (j + m1) % a.L.length) (fun j => (j + m2) % a.N.length)).At W9 := by
              refine ⟨rowV_pre gLh fun _ _ h => h, rowV_pre gNh fun _ _ h => h, rowKI_of hrk, ?_, ?_, ?_⟩
              · show (rotTo _ _ _).length ≤ 40
                rw [rotTo_len]
                exact ha.l4
              · show (rotTo _ _ _).length ≤ 40
                rw [rotTo_len]
                exact ha.n4
              · show ((kinTo _ _ _ _).map _).length ≤ 40
                rw [List.length_map, kinTo_len]
                exact ha.k4
            have hta : (a.twice A4 c4 K4).At W9 := ⟨haW.l, haW.n, rowKI_of hrk4, ha.l4, ha.n4, by show (K4.map _).length ≤ 40; rw [List.length_map]; omega⟩
            have x1 : Value.slice (some ⟨gL, 0, none⟩) a.L.length a.L.length = (a.turn gL gN A c (fun j => (j + m1) % a.L.length) (fun j => (j + m2) % a.N.length)).sL := by
              show _ = Value.slice _ (rotTo _ _ _).length _
              rw [rotTo_len]
              rfl
            have x2 : Value.slice (some ⟨gN, 0, none⟩) a.N.length a.N.length = (a.turn gL gN A c (fun j => (j + m1) % a.L.length) (fun j => (j + m2) % a.N.length)).sN := by
              show _ = Value.slice _ (rotTo _ _ _).length _
              rw [rotTo_len]
              rfl
            have x3 : Value.slice A (kinTo a.s3.2.2 (fun j => (j + m1) % a.L.length) (fun j => (j + m2) % a.N.length) a.K.length).length c = (a.turn gL gN A c (fun j => (j + m1) % a.L.length) (fun j => (j + m2) % a.N.length)).sK := by
              show _ = Value.slice A ((kinTo _ _ _ _).map _).length c
              rw [List.length_map]
            have x4 : Value.slice A4 K4.length c4 = (a.twice A4 c4 K4).sK := by
              show _ = Value.slice A4 (K4.map _).length c4
              rw [List.length_map]
            obtain ⟨n, se, bu, be, s0, s1, es, u0, u1, eh, w0, w1, ew, hV⟩ := tu_vals hf hxf htf (rotTo_len _ _ _) (rotTo_len _ _ _) hs ht hF hc3
            simp only [base27] at hT9
            rw [x1, x2, x3, x4] at hT9
            generalize hxx : a.turn gL gN A c (fun j => (j + m1) % a.L.length) (fun j => (j + m2) % a.N.length) = xx at *
            generalize htt : a.twice A4 c4 K4 = tw at *
            have t1 : a.sL = tw.sL := by rw [← htt]; rfl
            have t2 : a.sN = tw.sN := by rw [← htt]; rfl
            have hTd := hT9.drop (List.sublist_append_left ([(gA, .cells (cuA).toArray 3 (0, 0)), (gB, .cells (cuB).toArray 3 (0, 0)), (gC, .cells (cuC).toArray 50 (0, 0)), (w.heap.size, .cells #[a.sL, a.sN, a.sK] 25 (0, 0)), (ba, .cells #[.int .u8 (m1 : Int)] 5 (0, 0)), (bb, .cells #[.int .u8 (m2 : Int)] 5 (0, 0)), (bx, .cells #[xx.sL, xx.sN, xx.sK] 25 (0, 0)), (bt, .cells #[a.sL, a.sN, tw.sK] 25 (0, 0))] : List (Nat × Obj)) [_, _])
            have hTe : Tr w W9 W9 [(w.heap.size, .cells #[a.sL, a.sN, a.sK] 25 (0, 0)), (ba, .cells #[.int .u8 (m1 : Int)] 5 (0, 0)), (bb, .cells #[.int .u8 (m2 : Int)] 5 (0, 0)), (bx, .cells #[xx.sL, xx.sN, xx.sK] 25 (0, 0)), (gA, .cells (cuA).toArray 3 (0, 0)), (gB, .cells (cuB).toArray 3 (0, 0)), (gC, .cells (cuC).toArray 50 (0, 0)), (bt, .cells #[tw.sL, tw.sN, tw.sK] 25 (0, 0))] := by
              have h0 : Tr w W9 W9 [(w.heap.size, .cells #[a.sL, a.sN, a.sK] 25 (0, 0)), (ba, .cells #[.int .u8 (m1 : Int)] 5 (0, 0)), (bb, .cells #[.int .u8 (m2 : Int)] 5 (0, 0)), (bx, .cells #[xx.sL, xx.sN, xx.sK] 25 (0, 0)), (gA, .cells (cuA).toArray 3 (0, 0)), (gB, .cells (cuB).toArray 3 (0, 0)), (gC, .cells (cuC).toArray 50 (0, 0)), (bt, .cells #[a.sL, a.sN, tw.sK] 25 (0, 0))] := hTd.pick [3, 4, 5, 6, 0, 1, 2, 7] (by kernel_rfl) (by kernel_rfl) (by kernel_rfl)
              rw [t1, t2] at h0
              rw [t1, t2]
              exact h0
            refine tu_rest hf ha hm1 hm2 hpA hpB hpC hV hTe hxa hta hSl fun Z t hB hS => ?_
            obtain ⟨y, hy⟩ := Slots.open_ hS; simp only [fill, Nat.reduceAdd] at hy; subst hy; clear hS
            exact ⟨.inr rfl, fun W' hG => ⟨.bool true, by simp [results, Try.f12, go_sem], rfl, hB.trans (hG.below (Nat.le_refl _) hB.size)⟩⟩
end Go.Proofs.Ytbdmmikflkpmpaa
end

section
namespace Go.Proofs.Ytbdmmikflkpmpaa
open Go.ChangeShapes Go.WideShapes Go.ChangeAt Go.RowKit Go.Joins Go.Deep
section
variable {H : Type} {enc : TypeId × Value → H} {w : World}
theorem row_ints {n : Nat} {v : Value} {y : DataW H × List MemPlace} (h : DataW.trod enc Try.prog w 0 (fun _ => true) true n 22 [v] = some y) : ∃ A c l, v = .slice A (l : List Int).length c ∧ RowV w A (l.map vi) := by
  rcases open_ints Try.underlying22 Try.underlying3 (by kernel_rfl) h with ⟨hcs, _⟩ | ⟨x, l, c, zs, hcs, _, hl, hm, hz, _, hcell, hwz⟩
  · simp only [List.cons.injEq, and_true] at hcs
    exact ⟨none, 0, [], hcs, fun i v hv => by simp at hv⟩
  · simp only [List.cons.injEq, and_true] at hcs
    have hz' : zs.length = c := by simpa using hz
    have htl : (zs.take l).length = l := by rw [List.length_take]; omega
    refine ⟨some x, c, zs.take l, by rw [htl]; exact hcs, fun i v hv => ⟨x, rfl, ?_⟩⟩
    rw [List.getElem?_map] at hv
    obtain ⟨u, hu, rfl⟩ := Option.map_eq_some_iff.1 hv
    have hi : i < l := by
      have := (List.getElem?_eq_some_iff.1 hu).1
      omega
    rw [List.getElem?_take_of_lt hi] at hu
    have := hcell i (by omega)
    rw [this, List.getD_eq_getElem?_getD, hu]
    rfl
theorem row_pairs {n : Nat} {v : Value} {y : DataW H × List MemPlace} (h : DataW.trod enc Try.prog w 0 (fun _ => true) true n 23 [v] = some y) : ∃ A c l, v = .slice A (l : List (Int × Int)).length c ∧ RowKI w A l := by
  rcases open_slice_pairs Try.underlying23 Try.underlying50 (by kernel_rfl) rfl rfl (by kernel_rfl) (by kernel_rfl) h with ⟨hcs, _⟩ | ⟨a, len, cap, m, n', V0, V1, D0, D1, P0, P1, hcs, _, hl, hm, hmm, _, hi⟩
  · simp only [List.cons.injEq, and_true] at hcs
    exact ⟨none, 0, [], hcs, fun i k hk => by simp at hk⟩
  · simp only [List.cons.injEq, and_true] at hcs
    have hlm : len ≤ m := by rw [hmm]; split <;> omega
    have each : ∀ i, i < len → ∃ x : Int × Int, w.cell? (a.add (i * 2)) = some (.int .i64 x.1) ∧ w.cell? (a.add (i * 2 + 1)) = some (.int .i64 x.2) := by
      intro i hi'
      obtain ⟨c0, c1, t0, t1⟩ := hi i (by omega)
      obtain ⟨x, e0, _, _⟩ := DataW.trod_int Try.underlying3 t0
      obtain ⟨z, e1, _, _⟩ := DataW.trod_int Try.underlying3 t1
      simp only [List.cons.injEq, and_true] at e0 e1
      exact ⟨⟨x, z⟩, by rw [c0, e0], by rw [c1, e1]⟩
    have hex : ∀ k, k ≤ len → ∃ l : List (Int × Int), l.length = k ∧ ∀ i p, l[i]? = some p → w.cell? (a.add (i * 2)) = some (.int .i64 p.1) ∧ w.cell? (a.add (i * 2 + 1)) = some (.int .i64 p.2) := by
      intro k
      induction k with
      | zero => exact fun _ => ⟨[], rfl, fun i p hp => by simp at hp⟩
      | succ k ih =>
        intro hk
        obtain ⟨l, hl1, hl2⟩ := ih (by omega)
        obtain ⟨x, h1, h2⟩ := each k (by omega)
        refine ⟨l ++ [x], by simp [hl1], fun i p hp => ?_⟩
        rcases Nat.lt_or_ge i l.length with hlt | hge
        · rw [List.getElem?_append_left hlt] at hp
          exact hl2 i p hp
        · rw [List.getElem?_append_right hge] at hp
          have hi0 : i - l.length = 0 := by
            rcases Nat.eq_zero_or_pos (i - l.length) with h0 | h0
            · exact h0
            · obtain ⟨q, hq⟩ : ∃ q, i - l.length = q + 1 := ⟨i - l.length - 1, by omega⟩
              rw [hq] at hp
              simp at hp
          rw [hi0] at hp
          simp only [List.getElem?_cons_zero, Option.some.injEq] at hp
          subst hp
          obtain rfl : i = k := by omega
          exact ⟨h1, h2⟩
    obtain ⟨l, hl1, hl2⟩ := hex len (Nat.le_refl _)
    refine ⟨some a, cap, l, by rw [hcs, hl1], fun i p hp => ⟨a, rfl, ?_⟩⟩
    obtain ⟨h1, h2⟩ := hl2 i p hp
    refine ⟨h1, ?_⟩
    rw [← h2]
    congr 1
    unfold Addr.add
    split <;> (try rfl) <;> simp_all <;> omega
set_option maxRecDepth 100000 in
theorem xp_open {r : Reach} {b0 : Nat} {v : Value} {d : DataW H} {p : List MemPlace} (hv : Value.okWide Try.prog w r b0 25 v) (h : DataW.Trod enc Try.prog w 0 (fun _ => true) true 25 v d p) : ∃ F : XP, v = F.val ∧ F.Row w := by
  obtain ⟨v0, v1, v2, y0, y1, y2, n, rfl, _, _, h0, h1, h2⟩ := open_agg3 Try.underlying25 (by kernel_rfl) (by kernel_rfl) hv h
  obtain ⟨A0, c0, l0, rfl, r0⟩ := row_ints h0
  obtain ⟨A1, c1, l1, rfl, r1⟩ := row_ints h1
  obtain ⟨A2, c2, l2, rfl, r2⟩ := row_pairs h2
  exact ⟨⟨A0, c0, l0, A1, c1, l1, A2, c2, l2⟩, rfl, ⟨r0, r1, r2⟩⟩
end
end Go.Proofs.Ytbdmmikflkpmpaa
end

section
namespace Go.Proofs.Ytbdmmikflkpmpaa
open Go.RowKit
theorem bounds_u8 {n : Int} (h : (Lit.int .u8 n).wf = true) : 0 ≤ n ∧ n < 256 := by
  have h2 : IntKind.u8.min ≤ n ∧ n ≤ IntKind.u8.max := by simpa [Lit.wf] using h
  have h3 : IntKind.u8.min = 0 := rfl
  have h4 : IntKind.u8.max + 1 = 256 := rfl
  omega
theorem turned_row (a : XP) (n k : Int) (w : World) (h : a.Row w) (hn : (Lit.int .u8 n).wf = true) (hk : (Lit.int .u8 k).wf = true) : Calls Try.prog 12 #[a.val, .int .u8 n, .int .u8 k] w fun e w' => e = .returned (.bool true) ∧ Below w.heap.size w w' := by
  have hb := bounds_u8 hn
  have hc := bounds_u8 hk
  obtain ⟨m, rfl⟩ : ∃ m : Nat, n = m := ⟨n.toNat, by omega⟩
  obtain ⟨l, rfl⟩ : ∃ l : Nat, k = l := ⟨k.toNat, by omega⟩
  exact turned_law a m l w h (by omega) (by omega)
end Go.Proofs.Ytbdmmikflkpmpaa
namespace Go.Proofs.Ytbdmmikflkpmpaa.panelTurned
open Go.ChangeShapes Go.WideShapes Go.ChangeAt Go.RowKit
open Go.ChangeMaps (open_string shut_string)
theorem own : ownKnob Try.prog.godebug = none := by kernel_rfl
theorem laidOut : laidOutB Try.prog = true := by kernel_rfl
set_option maxRecDepth 100000 in
theorem lifted (os : Os) (started : os.Started) (H : Type) (enc : TypeId × Value → H) :
    ReturnsInHanded {} Try.checked os 12 .any (Rows.panelTurnedSpec.pre6 enc Try.prog Try.f12 Rows.panelTurnedRow.domain false) (Rows.panelTurnedSpec.post enc Try.prog Try.f12 false true false false) := by
  refine returnsInHanded_of_change_sized (C := Try.checked) own started (by kernel_rfl) Try.func12
    (ChangeSpec.witness6 (enc := enc) (C := Try.checked) false ⟨#[], #[.agg #[.slice none 0 0, .slice none 0 0, .slice none 0 0], .int .u8 0, .int .u8 0], []⟩ 8 (by kernel_rfl) (by kernel_rfl) (by kernel_rfl) (by kernel_rfl)) ?_
  intro W base args ds gs before hval0 hW hcnd hsz0 _
  have hsz : (DataW.weightsEach Try.prog (Try.f12.params.toList ++ Rows.panelTurnedSpec.plain.varTypes Try.prog) (ds ++ gs)).all (· ≤ reachBytes) = true := hsz0
  have hval : ∀ (j : Nat) t v, Try.f12.params[j]? = some t → args[j]? = some v → Value.okWide Try.prog W .any base t v := hval0
  have hW' := hW
  obtain ⟨p, q, hA0, hV, rfl, hfz, hnd⟩ := hW
  have hA : DataW.TrodAll enc Try.prog W 0 (fun _ => true) true Try.f12.params.toList args.toList ds p := hA0
  rw [Try.params12] at hA hval hsz
  obtain ⟨v0, vs0, d0, ds0, p0, q0, hargs, rfl, rfl, h0, r0⟩ := trodAll_cons hA
  obtain ⟨v1, vs1, d1, ds1, p1, q1, rfl, rfl, rfl, h1, r1⟩ := trodAll_cons r0
  obtain ⟨v2, vs2, d2, ds2, p2, q2, rfl, rfl, rfl, h2, r2⟩ := trodAll_cons r1
  obtain ⟨rfl, rfl, rfl⟩ := trodAll_nil r2
  obtain rfl : args = #[v0, v1, v2] := by cases args; simp_all
  obtain ⟨rfl, rfl⟩ := trodVars_none hV
  have k0 := h0
  have lt0 : ∀ x ∈ p0, x.block < W.heap.size := by obtain ⟨m, hm⟩ := k0; exact DataW.trod_lt m _ _ _ hm
  obtain ⟨F0, rfl, hF0⟩ := xp_open (hval 0 25 v0 rfl rfl) h0
  obtain ⟨a1, rfl, rfl, rfl, w1⟩ := open_int Try.underlying5 (hval 1 5 v1 rfl rfl) h1
  obtain ⟨a2, rfl, rfl, rfl, w2⟩ := open_int Try.underlying5 (hval 2 5 v2 rfl rfl) h2
  clear hA0 hval0 hsz0 hsz
  refine (turned_row F0 a1 a2 W hF0 w1 w2).mono fun e W' ⟨he, bel⟩ => ?_
  subst he
  exact ⟨_, rfl, _, _, _, [], _, [], hW', trodAll_mk1 (shut_bool Try.underlying4 _), (trodAll_cons_mk (Below.trod laidOut (by kernel_rfl) (of_decide_eq_true (by kernel_rfl)) k0 bel lt0) (trodAll_cons_mk (shut_int Try.underlying5 w1) (trodAll_cons_mk (shut_int Try.underlying5 w2) trodAll_mk0))), rfl, bel.frame _, fun h => by cases h⟩
theorem over : Rows.panelTurnedRow.holds Try.pinned (OpenSpec.ofChange Rows.panelTurnedSpec) :=
  OpenClaim.holds_of_wide 12 Try.f12 rfl rfl rfl rfl rfl rfl rfl ⟨rfl, rfl, rfl, rfl, rfl⟩ rfl rfl rfl rfl rfl (by kernel_rfl) Try.func12 (by kernel_rfl)
    (of_decide_eq_true (by kernel_rfl)) (by unfold Func.isWrapper; first | (rw [if_pos (by decide +kernel)]; kernel_rfl) | (rw [if_neg (by decide +kernel)]; exact ⟨rfl, rfl⟩))
    (fun os started H enc _ => lifted os started H enc)
theorem proved : Rows.PanelTurnedSaid := over
#print axioms proved
end Go.Proofs.Ytbdmmikflkpmpaa.panelTurned
namespace Go.Proofs.Ytbdmmikflkpmpaa
theorem panelTurned_holds : Rows.PanelTurnedSaid := panelTurned.proved
end Go.Proofs.Ytbdmmikflkpmpaa
end
