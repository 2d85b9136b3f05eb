/- Proved: FurrowNames returns true, in whatever order Go evaluates what it leaves open; no condition. -/
import Derived.Test.YtafmgmaelnpehaaC3
import Derived.Test.YtafmgmaelnpehaaRows
import Derived.WalkKit
import Derived.ProofKit
import Derived.OpenShut
import Derived.ShutString
import Derived.ChangeOld
import Derived.Below
import Derived.SizedLaws
section
set_option linter.unusedVariables false
set_option linter.unusedSimpArgs false
namespace Go.Proofs.Ytafmgmaelnpehaa
open Go.RowKit Go.TL Go.Shelf Go.Fu
attribute [local go_sem] Oper.semAt_some
noncomputable def rg5_7 : List It := itemsOf (regOps (sub (Try.f5.body.getD .skip) [1, 1, 1, 1, 1, 1, 1, 0])) [(0, false), (1, false), (2, false), (3, false), (4, true), (5, false), (6, false), (7, false), (8, false), (9, false), (10, false), (11, false), (12, false), (13, true), (14, false), (15, false), (16, false), (17, false), (18, false), (19, false), (20, false), (21, false), (22, false), (23, false), (24, false), (25, false), (26, false), (27, false), (28, false), (29, false), (30, false), (31, false), (32, false), (33, false), (34, false), (35, false), (36, false), (37, false), (38, false), (39, false), (40, false), (41, false), (42, false), (43, false), (44, false), (45, false), (46, false), (47, false), (48, false), (49, false)]

open PFurrowAsks Go.Proofs.YtafmgmaelnpehaaW.PrintWords
set_option maxRecDepth 100000 in
set_option maxHeartbeats 1000000 in
theorem names_any (w : World) : Calls Try.prog 5 #[] w fun e w' => e = .returned (.bool true) ∧ Below w.heap.size w w' := by
  refine calls_of_exec Try.func5 rfl ?_
  simp only [Try.ntmps5, List.size_toArray, List.length_cons, List.length_nil, Nat.reduceAdd, Nat.reduceSub, Array.replicate_succ, Array.replicate_zero, List.push_toArray, List.append_toArray, List.nil_append, List.cons_append]
  refine exec_seq (exec_region_o fun ds => ?_)
  gi_wp2
  refine eq_mk (Keep.refl _) ?_
  show Exec _ _ _ _ _ _
  have hB0 := Below.refl w.heap.size w
  refine exec_seq (exec_region_o fun ds => ?_)
  gi_wp2_with fail
  refine ⟨trivial, rfl, (callsIn_wide.2 (sample_c w)).mono ?_⟩
  rintro e X ⟨⟨F, hF, rfl, e0, e1, e2⟩, hx⟩
  gi_wp2_with fail
  have hv := smp_va e0 e1 e2
  have hp := smp_pl e0
  have hl : F.l0.length ≤ 40 := by rw [e0]; decide
  have hc := At_c F 1 X hF hl
  rw [hv, hp, show atV true pF 1 = ((3, 6), 0) from by unfold atV; rw [if_pos rfl]; rw [if_pos (by decide)]; exact congrArg (·, (0 : Int)) at_F1] at hc
  refine ⟨trivial, rfl, (callsIn_wide.2 hc).mono ?_⟩
  rintro e Y ⟨rfl, hy⟩
  have hxy := hx.trans (hy.mono hx.size)
  have hB1 := hB0.trans (hxy.mono hB0.size)
  clear hx hy hv hp hl hc hF e0 e1 e2
  have hK := Keep.of_below hxy
  clear hxy
  simp only
  generalize F.val = fv at *
  clear F X
  gi_wp2
  refine eq_mk (hK.alloc _) ?_
  show Exec _ _ _ _ _ _
  have gr := Grow.alloc Y.heap.size Y (.cells #[.int .i64 3, .int .i64 6] 28)
  replace hB1 := hB1.alloc hB1.size (.cells #[.int .i64 3, .int .i64 6] 28)
  have q1 := Box2.new Y 28 3 6
  generalize Y.alloc (.cells #[.int .i64 3, .int .i64 6] 28) = W1 at *
  clear gr hK hB0
  generalize Y.heap.size = b1 at *
  clear Y
  refine exec_seq (exec_region_o fun ds => ?_)
  gi_wp2_with fail
  refine ⟨trivial, rfl, (callsIn_wide.2 (sample_c W1)).mono ?_⟩
  rintro e X ⟨⟨F, hF, rfl, e0, e1, e2⟩, hx⟩
  gi_wp2_with fail
  have hv := smp_va e0 e1 e2
  have hp := smp_pl e0
  have hl : F.l0.length ≤ 40 := by rw [e0]; decide
  have hc := At_c F 3 X hF hl
  rw [hv, hp, show atV true pF 3 = ((3, 4), 0) from by unfold atV; rw [if_pos rfl]; rw [if_pos (by decide)]; exact congrArg (·, (0 : Int)) at_F3] at hc
  refine ⟨trivial, rfl, (callsIn_wide.2 hc).mono ?_⟩
  rintro e Y ⟨rfl, hy⟩
  have hxy := hx.trans (hy.mono hx.size)
  have hB2 := hB1.trans (hxy.mono hB1.size)
  replace q1 := box2_below hxy q1
  clear hx hy hv hp hl hc hF e0 e1 e2
  have hK := Keep.of_below hxy
  clear hxy
  simp only
  generalize F.val = fv at *
  clear F X
  gi_wp2
  refine eq_mk (hK.alloc _) ?_
  show Exec _ _ _ _ _ _
  have gr := Grow.alloc Y.heap.size Y (.cells #[.int .i64 3, .int .i64 4] 28)
  replace hB2 := hB2.alloc hB2.size (.cells #[.int .i64 3, .int .i64 4] 28)
  replace q1 := gr.box2 q1
  have q3 := Box2.new Y 28 3 4
  generalize Y.alloc (.cells #[.int .i64 3, .int .i64 4] 28) = W2 at *
  clear gr hK hB1
  generalize Y.heap.size = b3 at *
  clear Y
  clear W1
  refine exec_seq (exec_region_o fun ds => ?_)
  gi_wp2_with fail
  refine ⟨trivial, rfl, (callsIn_wide.2 (sample_c W2)).mono ?_⟩
  rintro e X ⟨⟨F, hF, rfl, e0, e1, e2⟩, hx⟩
  gi_wp2_with fail
  have hv := smp_va e0 e1 e2
  have hp := smp_pl e0
  have hl : F.l0.length ≤ 40 := by rw [e0]; decide
  have hc := At_c F 0 X hF hl
  rw [hv, hp, show atV true pF 0 = ((0, 0), 2) from by unfold atV; rw [if_pos rfl]; rw [if_neg (by decide)]] at hc
  refine ⟨trivial, rfl, (callsIn_wide.2 hc).mono ?_⟩
  rintro e Y ⟨rfl, hy⟩
  have hxy := hx.trans (hy.mono hx.size)
  have hB3 := hB2.trans (hxy.mono hB2.size)
  replace q1 := box2_below hxy q1
  replace q3 := box2_below hxy q3
  clear hx hy hv hp hl hc hF e0 e1 e2
  have hK := Keep.of_below hxy
  clear hxy
  simp only
  generalize F.val = fv at *
  clear F X
  gi_wp2
  refine eq_mk (hK.alloc _) ?_
  show Exec _ _ _ _ _ _
  have gr := Grow.alloc Y.heap.size Y (.cells #[.int .i64 0, .int .i64 0] 28)
  replace hB3 := hB3.alloc hB3.size (.cells #[.int .i64 0, .int .i64 0] 28)
  replace q1 := gr.box2 q1
  replace q3 := gr.box2 q3
  have q5 := Box2.new Y 28 0 0
  generalize Y.alloc (.cells #[.int .i64 0, .int .i64 0] 28) = W3 at *
  clear gr hK hB2
  generalize Y.heap.size = b5 at *
  clear Y
  clear W2
  refine exec_seq (exec_region_o fun ds => ?_)
  gi_wp2_with fail
  refine ⟨trivial, rfl, (callsIn_wide.2 (sample_c W3)).mono ?_⟩
  rintro e X ⟨⟨F, hF, rfl, e0, e1, e2⟩, hx⟩
  gi_wp2_with fail
  have hv := smp_va e0 e1 e2
  have hp := smp_pl e0
  have hl : F.l0.length ≤ 40 := by rw [e0]; decide
  have hc := At_c F 4 X hF hl
  rw [hv, hp, show atV true pF 4 = ((0, 0), 2) from by unfold atV; rw [if_pos rfl]; rw [if_neg (by decide)]] at hc
  refine ⟨trivial, rfl, (callsIn_wide.2 hc).mono ?_⟩
  rintro e Y ⟨rfl, hy⟩
  have hxy := hx.trans (hy.mono hx.size)
  have hB4 := hB3.trans (hxy.mono hB3.size)
  replace q1 := box2_below hxy q1
  replace q3 := box2_below hxy q3
  replace q5 := box2_below hxy q5
  clear hx hy hv hp hl hc hF e0 e1 e2
  have hK := Keep.of_below hxy
  clear hxy
  simp only
  generalize F.val = fv at *
  clear F X
  gi_wp2
  refine eq_mk (hK.alloc _) ?_
  show Exec _ _ _ _ _ _
  have gr := Grow.alloc Y.heap.size Y (.cells #[.int .i64 0, .int .i64 0] 28)
  replace hB4 := hB4.alloc hB4.size (.cells #[.int .i64 0, .int .i64 0] 28)
  replace q1 := gr.box2 q1
  replace q3 := gr.box2 q3
  replace q5 := gr.box2 q5
  have q7 := Box2.new Y 28 0 0
  generalize Y.alloc (.cells #[.int .i64 0, .int .i64 0] 28) = W4 at *
  clear gr hK hB3
  generalize Y.heap.size = b7 at *
  clear Y
  clear W3
  refine exec_seq (exec_region_o fun ds => ?_)
  gi_wp2_with fail
  refine ⟨trivial, rfl, (callsIn_wide.2 (sample_c W4)).mono ?_⟩
  rintro e X ⟨⟨F, hF, rfl, e0, e1, e2⟩, hx⟩
  gi_wp2_with fail
  have hv := smp_va e0 e1 e2
  have hp := smp_pl e0
  have hl : F.l0.length ≤ 40 := by rw [e0]; decide
  have hc := Wrong_c F 3 X hF
  rw [hv, hp] at hc
  refine ⟨trivial, rfl, (callsIn_wide.2 hc).mono ?_⟩
  rintro e Y ⟨⟨rfl, _⟩, hy⟩
  have hwr : wrongV true 3 pF = (0, 0) := by unfold wrongV; rw [if_pos rfl, if_pos (by decide), wrongN_eq wrong_F3]; rfl
  rw [hwr]
  clear hwr
  have hxy := hx.trans (hy.mono hx.size)
  have hB5 := hB4.trans (hxy.mono hB4.size)
  replace q1 := box2_below hxy q1
  replace q3 := box2_below hxy q3
  replace q5 := box2_below hxy q5
  replace q7 := box2_below hxy q7
  clear hx hy hv hp hl hc hF e0 e1 e2
  have hK := Keep.of_below hxy
  clear hxy
  simp only
  generalize F.val = fv at *
  clear F X
  gi_wp2
  refine eq_mk hK ?_
  show Exec _ _ _ _ _ _
  clear hK hB4
  obtain ⟨W5, rfl⟩ : ∃ Z, Z = Y := ⟨_, rfl⟩
  clear W4
  refine exec_seq (exec_region_o fun ds => ?_)
  gi_wp2_with fail
  refine ⟨trivial, rfl, (callsIn_wide.2 (sample_c W5)).mono ?_⟩
  rintro e X ⟨⟨F, hF, rfl, e0, e1, e2⟩, hx⟩
  gi_wp2_with fail
  have hv := smp_va e0 e1 e2
  have hp := smp_pl e0
  have hl : F.l0.length ≤ 40 := by rw [e0]; decide
  have hc := Shallow_c F 0 X hF
  rw [hv, (smp_sh F e1 e2).2.1] at hc
  refine ⟨trivial, rfl, (callsIn_wide.2 hc).mono ?_⟩
  rintro e Y ⟨rfl, hy⟩
  have hxy := hx.trans (hy.mono hx.size)
  have hB6 := hB5.trans (hxy.mono hB5.size)
  replace q1 := box2_below hxy q1
  replace q3 := box2_below hxy q3
  replace q5 := box2_below hxy q5
  replace q7 := box2_below hxy q7
  clear hx hy hv hp hl hc hF e0 e1 e2
  have hK := Keep.of_below hxy
  clear hxy
  simp only
  generalize F.val = fv at *
  clear F X
  gi_wp2
  refine eq_mk hK ?_
  show Exec _ _ _ _ _ _
  clear hK hB5
  obtain ⟨W6, rfl⟩ : ∃ Z, Z = Y := ⟨_, rfl⟩
  clear W5
  refine exec_seq (region_sched (c := sub (Try.f5.body.getD .skip) [1, 1, 1, 1, 1, 1, 1, 0]) (id := 7) [(0, false), (1, false), (2, false), (3, false), (4, true), (5, false), (6, false), (7, false), (8, false), (9, false), (10, false), (11, false), (12, false), (13, true), (14, false), (15, false), (16, false), (17, false), (18, false), (19, false), (20, false), (21, false), (22, false), (23, false), (24, false), (25, false), (26, false), (27, false), (28, false), (29, false), (30, false), (31, false), (32, false), (33, false), (34, false), (35, false), (36, false), (37, false), (38, false), (39, false), (40, false), (41, false), (42, false), (43, false), (44, false), (45, false), (46, false), (47, false), (48, false), (49, false)] rg5_7 rfl (by kernel_rfl) (by kernel_rfl) (by kernel_rfl) (by kernel_rfl) (by kernel_rfl) [0, 1, 3, 6, 8, 8, 56, 72, 160, 256, 768, 1280, 2304, 4096, 4096, 28672, 36864, 81920, 131072, 393216, 655360, 1179648, 2097152, 6291456, 10485760, 18874368, 33554432, 100663296, 167772160, 301989888, 536870912, 1610612736, 2684354560, 4831838208, 8589934592, 25769803776, 42949672960, 77309411328, 137438953472, 412316860416, 687194767360, 1236950581248, 2199023255552, 6597069766656, 10995116277760, 19791209299968, 35184372088832, 105553116266496, 175921860444160, 562949953421311] (by kernel_rfl) (by kernel_rfl) (fun W' => Below W6.heap.size W6 W') (fun _ _ _ => False) (fun _ _ _ h => h.elim) (fun _ _ _ _ _ _ h => h.elim) fun ds Q' hQn hQp => ?_)
  have hS : Below W6.heap.size W6 W6.drew := (Below.refl _ W6).drew
  have f1 : ∀ W', Below W6.heap.size W6 W' → W'.cell? ⟨b1, 0, none⟩ = some (.int .i64 3) ∧ W'.cell? ⟨b1, 1, none⟩ = some (.int .i64 6) := fun W' h => ⟨(h.cell q1.lt).trans q1.cell0, (h.cell q1.lt).trans q1.cell1⟩
  have f3 : ∀ W', Below W6.heap.size W6 W' → W'.cell? ⟨b3, 0, none⟩ = some (.int .i64 3) ∧ W'.cell? ⟨b3, 1, none⟩ = some (.int .i64 4) := fun W' h => ⟨(h.cell q3.lt).trans q3.cell0, (h.cell q3.lt).trans q3.cell1⟩
  refine sq_make 0 ⟨(Op.move (Operand.const (Value.bool true))), some 45, 4, false, none⟩ (.bool true) _ (by kernel_rfl) rfl (by first | exact rfl | trivial) ?_ hS ?_; (focus (exact rfl)); simp only [Act.put, Array.getInternal_eq_getElem, List.getElem_toArray, List.getElem_cons_succ, List.getElem_cons_zero, List.setIfInBounds_toArray, List.set_cons_succ, List.set_cons_zero]
  refine sq_call 1 ⟨(Op.call { callee := (Callee.value (Operand.func 14)), args := #[], argTypes := #[] }), some 46, 4, false, some (45, true)⟩ (f := 14) (args := #[]) (by kernel_rfl) rfl (by first | exact rfl | trivial) (by simp [go_sem, mkO]) ?_
  refine (alive_any _).mono ?_
  rintro e Z1 ⟨rfl, hz⟩
  replace hS := hS.trans (hz.mono hS.size)
  refine .inl ⟨_, rfl, hS, ?_⟩
  simp only [Act.put, Array.getInternal_eq_getElem, List.getElem_toArray, List.getElem_cons_succ, List.getElem_cons_zero, List.setIfInBounds_toArray, List.set_cons_succ, List.set_cons_zero]
  clear hz
  refine sq_make 2 ⟨(Op.pick (Operand.tmp 45) (Operand.tmp 46) (Operand.const (Value.bool false))), some 47, 4, false, none⟩ (.bool true) _ (by kernel_rfl) rfl (by first | exact rfl | trivial) ?_ hS ?_; (focus (simp [go_sem, mkO]; done)); simp only [Act.put, Array.getInternal_eq_getElem, List.getElem_toArray, List.getElem_cons_succ, List.getElem_cons_zero, List.setIfInBounds_toArray, List.set_cons_succ, List.set_cons_zero]
  refine sq_make 3 ⟨(Op.move (Operand.tmp 47)), some 48, 4, false, none⟩ (.bool true) _ (by kernel_rfl) rfl (by first | exact rfl | trivial) ?_ hS ?_; (focus (exact rfl)); simp only [Act.put, Array.getInternal_eq_getElem, List.getElem_toArray, List.getElem_cons_succ, List.getElem_cons_zero, List.setIfInBounds_toArray, List.set_cons_succ, List.set_cons_zero]
  refine sq_take 4 ⟨(Op.load 28 (Operand.tmp 1)), some 49, 28, true, some (48, true)⟩ (.agg #[.int .i64 3, .int .i64 6]) (by kernel_rfl) rfl (by first | exact rfl | trivial) (fun wq hq => ?_) hS ?_; (focus (simp [go_sem, mkO, (f1 wq hq).1, (f1 wq hq).2]; done)); simp only [Act.put, Array.getInternal_eq_getElem, List.getElem_toArray, List.getElem_cons_succ, List.getElem_cons_zero, List.setIfInBounds_toArray, List.set_cons_succ, List.set_cons_zero]
  refine sq_call 5 ⟨(Op.call { callee := (Callee.value (Operand.func 31)), args := #[(Operand.const (Value.int IntKind.i64 3)), (Operand.const (Value.int IntKind.i64 6))], argTypes := #[3, 3] }), some 50, 28, false, some (48, true)⟩ (f := 31) (args := #[.int .i64 3, .int .i64 6]) (by kernel_rfl) rfl (by first | exact rfl | trivial) (by simp [go_sem, mkO]) ?_
  refine (span_c 3 6 _).mono ?_
  rintro e Z2 ⟨rfl, hz⟩
  replace hS := hS.trans (hz.mono hS.size)
  refine .inl ⟨_, rfl, hS, ?_⟩
  simp only [Act.put, Array.getInternal_eq_getElem, List.getElem_toArray, List.getElem_cons_succ, List.getElem_cons_zero, List.setIfInBounds_toArray, List.set_cons_succ, List.set_cons_zero]
  clear hz
  refine sq_make 6 ⟨(Op.binOp BinOp.eql 28 (Operand.tmp 49) (Operand.tmp 50) 28), some 51, 4, false, some (48, true)⟩ (.bool true) _ (by kernel_rfl) rfl (by first | exact rfl | trivial) ?_ hS ?_; (focus (simp [go_sem, mkO]; done)); simp only [Act.put, Array.getInternal_eq_getElem, List.getElem_toArray, List.getElem_cons_succ, List.getElem_cons_zero, List.setIfInBounds_toArray, List.set_cons_succ, List.set_cons_zero]
  refine sq_make 7 ⟨(Op.pick (Operand.tmp 48) (Operand.tmp 51) (Operand.const (Value.bool false))), some 52, 4, false, none⟩ (.bool true) _ (by kernel_rfl) rfl (by first | exact rfl | trivial) ?_ hS ?_; (focus (simp [go_sem, mkO]; done)); simp only [Act.put, Array.getInternal_eq_getElem, List.getElem_toArray, List.getElem_cons_succ, List.getElem_cons_zero, List.setIfInBounds_toArray, List.set_cons_succ, List.set_cons_zero]
  refine sq_make 8 ⟨(Op.move (Operand.tmp 52)), some 53, 4, false, none⟩ (.bool true) _ (by kernel_rfl) rfl (by first | exact rfl | trivial) ?_ hS ?_; (focus (exact rfl)); simp only [Act.put, Array.getInternal_eq_getElem, List.getElem_toArray, List.getElem_cons_succ, List.getElem_cons_zero, List.setIfInBounds_toArray, List.set_cons_succ, List.set_cons_zero]
  refine sq_make 9 ⟨(Op.move (Operand.tmp 2)), some 54, 29, false, some (53, true)⟩ (.int .i64 0) _ (by kernel_rfl) rfl (by first | exact rfl | trivial) ?_ hS ?_; (focus (exact rfl)); simp only [Act.put, Array.getInternal_eq_getElem, List.getElem_toArray, List.getElem_cons_succ, List.getElem_cons_zero, List.setIfInBounds_toArray, List.set_cons_succ, List.set_cons_zero]
  refine sq_make 10 ⟨(Op.binOp BinOp.eql 29 (Operand.tmp 54) (Operand.const (Value.int IntKind.i64 0)) 29), some 55, 4, false, some (53, true)⟩ (.bool true) _ (by kernel_rfl) rfl (by first | exact rfl | trivial) ?_ hS ?_; (focus (simp [go_sem, mkO]; done)); simp only [Act.put, Array.getInternal_eq_getElem, List.getElem_toArray, List.getElem_cons_succ, List.getElem_cons_zero, List.setIfInBounds_toArray, List.set_cons_succ, List.set_cons_zero]
  refine sq_make 11 ⟨(Op.pick (Operand.tmp 53) (Operand.tmp 55) (Operand.const (Value.bool false))), some 56, 4, false, none⟩ (.bool true) _ (by kernel_rfl) rfl (by first | exact rfl | trivial) ?_ hS ?_; (focus (simp [go_sem, mkO]; done)); simp only [Act.put, Array.getInternal_eq_getElem, List.getElem_toArray, List.getElem_cons_succ, List.getElem_cons_zero, List.setIfInBounds_toArray, List.set_cons_succ, List.set_cons_zero]
  refine sq_make 12 ⟨(Op.move (Operand.tmp 56)), some 57, 4, false, none⟩ (.bool true) _ (by kernel_rfl) rfl (by first | exact rfl | trivial) ?_ hS ?_; (focus (exact rfl)); simp only [Act.put, Array.getInternal_eq_getElem, List.getElem_toArray, List.getElem_cons_succ, List.getElem_cons_zero, List.setIfInBounds_toArray, List.set_cons_succ, List.set_cons_zero]
  refine sq_take 13 ⟨(Op.load 28 (Operand.tmp 3)), some 58, 28, true, some (57, true)⟩ (.agg #[.int .i64 3, .int .i64 4]) (by kernel_rfl) rfl (by first | exact rfl | trivial) (fun wq hq => ?_) hS ?_; (focus (simp [go_sem, mkO, (f3 wq hq).1, (f3 wq hq).2]; done)); simp only [Act.put, Array.getInternal_eq_getElem, List.getElem_toArray, List.getElem_cons_succ, List.getElem_cons_zero, List.setIfInBounds_toArray, List.set_cons_succ, List.set_cons_zero]
  refine sq_call 14 ⟨(Op.call { callee := (Callee.value (Operand.func 31)), args := #[(Operand.const (Value.int IntKind.i64 3)), (Operand.const (Value.int IntKind.i64 4))], argTypes := #[3, 3] }), some 59, 28, false, some (57, true)⟩ (f := 31) (args := #[.int .i64 3, .int .i64 4]) (by kernel_rfl) rfl (by first | exact rfl | trivial) (by simp [go_sem, mkO]) ?_
  refine (span_c 3 4 _).mono ?_
  rintro e Z3 ⟨rfl, hz⟩
  replace hS := hS.trans (hz.mono hS.size)
  refine .inl ⟨_, rfl, hS, ?_⟩
  simp only [Act.put, Array.getInternal_eq_getElem, List.getElem_toArray, List.getElem_cons_succ, List.getElem_cons_zero, List.setIfInBounds_toArray, List.set_cons_succ, List.set_cons_zero]
  clear hz
  refine sq_make 15 ⟨(Op.binOp BinOp.eql 28 (Operand.tmp 58) (Operand.tmp 59) 28), some 60, 4, false, some (57, true)⟩ (.bool true) _ (by kernel_rfl) rfl (by first | exact rfl | trivial) ?_ hS ?_; (focus (simp [go_sem, mkO]; done)); simp only [Act.put, Array.getInternal_eq_getElem, List.getElem_toArray, List.getElem_cons_succ, List.getElem_cons_zero, List.setIfInBounds_toArray, List.set_cons_succ, List.set_cons_zero]
  refine sq_make 16 ⟨(Op.pick (Operand.tmp 57) (Operand.tmp 60) (Operand.const (Value.bool false))), some 61, 4, false, none⟩ (.bool true) _ (by kernel_rfl) rfl (by first | exact rfl | trivial) ?_ hS ?_; (focus (simp [go_sem, mkO]; done)); simp only [Act.put, Array.getInternal_eq_getElem, List.getElem_toArray, List.getElem_cons_succ, List.getElem_cons_zero, List.setIfInBounds_toArray, List.set_cons_succ, List.set_cons_zero]
  refine sq_make 17 ⟨(Op.move (Operand.tmp 61)), some 62, 4, false, none⟩ (.bool true) _ (by kernel_rfl) rfl (by first | exact rfl | trivial) ?_ hS ?_; (focus (exact rfl)); simp only [Act.put, Array.getInternal_eq_getElem, List.getElem_toArray, List.getElem_cons_succ, List.getElem_cons_zero, List.setIfInBounds_toArray, List.set_cons_succ, List.set_cons_zero]
  refine sq_make 18 ⟨(Op.move (Operand.tmp 4)), some 63, 29, false, some (62, true)⟩ (.int .i64 0) _ (by kernel_rfl) rfl (by first | exact rfl | trivial) ?_ hS ?_; (focus (exact rfl)); simp only [Act.put, Array.getInternal_eq_getElem, List.getElem_toArray, List.getElem_cons_succ, List.getElem_cons_zero, List.setIfInBounds_toArray, List.set_cons_succ, List.set_cons_zero]
  refine sq_make 19 ⟨(Op.binOp BinOp.eql 29 (Operand.tmp 63) (Operand.const (Value.int IntKind.i64 0)) 29), some 64, 4, false, some (62, true)⟩ (.bool true) _ (by kernel_rfl) rfl (by first | exact rfl | trivial) ?_ hS ?_; (focus (simp [go_sem, mkO]; done)); simp only [Act.put, Array.getInternal_eq_getElem, List.getElem_toArray, List.getElem_cons_succ, List.getElem_cons_zero, List.setIfInBounds_toArray, List.set_cons_succ, List.set_cons_zero]
  refine sq_make 20 ⟨(Op.pick (Operand.tmp 62) (Operand.tmp 64) (Operand.const (Value.bool false))), some 65, 4, false, none⟩ (.bool true) _ (by kernel_rfl) rfl (by first | exact rfl | trivial) ?_ hS ?_; (focus (simp [go_sem, mkO]; done)); simp only [Act.put, Array.getInternal_eq_getElem, List.getElem_toArray, List.getElem_cons_succ, List.getElem_cons_zero, List.setIfInBounds_toArray, List.set_cons_succ, List.set_cons_zero]
  refine sq_make 21 ⟨(Op.move (Operand.tmp 65)), some 66, 4, false, none⟩ (.bool true) _ (by kernel_rfl) rfl (by first | exact rfl | trivial) ?_ hS ?_; (focus (exact rfl)); simp only [Act.put, Array.getInternal_eq_getElem, List.getElem_toArray, List.getElem_cons_succ, List.getElem_cons_zero, List.setIfInBounds_toArray, List.set_cons_succ, List.set_cons_zero]
  refine sq_make 22 ⟨(Op.move (Operand.tmp 6)), some 67, 29, false, some (66, true)⟩ (.int .i64 2) _ (by kernel_rfl) rfl (by first | exact rfl | trivial) ?_ hS ?_; (focus (exact rfl)); simp only [Act.put, Array.getInternal_eq_getElem, List.getElem_toArray, List.getElem_cons_succ, List.getElem_cons_zero, List.setIfInBounds_toArray, List.set_cons_succ, List.set_cons_zero]
  refine sq_make 23 ⟨(Op.binOp BinOp.eql 29 (Operand.tmp 67) (Operand.const (Value.int IntKind.i64 2)) 29), some 68, 4, false, some (66, true)⟩ (.bool true) _ (by kernel_rfl) rfl (by first | exact rfl | trivial) ?_ hS ?_; (focus (simp [go_sem, mkO]; done)); simp only [Act.put, Array.getInternal_eq_getElem, List.getElem_toArray, List.getElem_cons_succ, List.getElem_cons_zero, List.setIfInBounds_toArray, List.set_cons_succ, List.set_cons_zero]
  refine sq_make 24 ⟨(Op.pick (Operand.tmp 66) (Operand.tmp 68) (Operand.const (Value.bool false))), some 69, 4, false, none⟩ (.bool true) _ (by kernel_rfl) rfl (by first | exact rfl | trivial) ?_ hS ?_; (focus (simp [go_sem, mkO]; done)); simp only [Act.put, Array.getInternal_eq_getElem, List.getElem_toArray, List.getElem_cons_succ, List.getElem_cons_zero, List.setIfInBounds_toArray, List.set_cons_succ, List.set_cons_zero]
  refine sq_make 25 ⟨(Op.move (Operand.tmp 69)), some 70, 4, false, none⟩ (.bool true) _ (by kernel_rfl) rfl (by first | exact rfl | trivial) ?_ hS ?_; (focus (exact rfl)); simp only [Act.put, Array.getInternal_eq_getElem, List.getElem_toArray, List.getElem_cons_succ, List.getElem_cons_zero, List.setIfInBounds_toArray, List.set_cons_succ, List.set_cons_zero]
  refine sq_make 26 ⟨(Op.move (Operand.tmp 8)), some 71, 29, false, some (70, true)⟩ (.int .i64 2) _ (by kernel_rfl) rfl (by first | exact rfl | trivial) ?_ hS ?_; (focus (exact rfl)); simp only [Act.put, Array.getInternal_eq_getElem, List.getElem_toArray, List.getElem_cons_succ, List.getElem_cons_zero, List.setIfInBounds_toArray, List.set_cons_succ, List.set_cons_zero]
  refine sq_make 27 ⟨(Op.binOp BinOp.eql 29 (Operand.tmp 71) (Operand.const (Value.int IntKind.i64 2)) 29), some 72, 4, false, some (70, true)⟩ (.bool true) _ (by kernel_rfl) rfl (by first | exact rfl | trivial) ?_ hS ?_; (focus (simp [go_sem, mkO]; done)); simp only [Act.put, Array.getInternal_eq_getElem, List.getElem_toArray, List.getElem_cons_succ, List.getElem_cons_zero, List.setIfInBounds_toArray, List.set_cons_succ, List.set_cons_zero]
  refine sq_make 28 ⟨(Op.pick (Operand.tmp 70) (Operand.tmp 72) (Operand.const (Value.bool false))), some 73, 4, false, none⟩ (.bool true) _ (by kernel_rfl) rfl (by first | exact rfl | trivial) ?_ hS ?_; (focus (simp [go_sem, mkO]; done)); simp only [Act.put, Array.getInternal_eq_getElem, List.getElem_toArray, List.getElem_cons_succ, List.getElem_cons_zero, List.setIfInBounds_toArray, List.set_cons_succ, List.set_cons_zero]
  refine sq_make 29 ⟨(Op.move (Operand.tmp 73)), some 74, 4, false, none⟩ (.bool true) _ (by kernel_rfl) rfl (by first | exact rfl | trivial) ?_ hS ?_; (focus (exact rfl)); simp only [Act.put, Array.getInternal_eq_getElem, List.getElem_toArray, List.getElem_cons_succ, List.getElem_cons_zero, List.setIfInBounds_toArray, List.set_cons_succ, List.set_cons_zero]
  refine sq_make 30 ⟨(Op.move (Operand.tmp 9)), some 75, 3, false, some (74, true)⟩ (.int .i64 0) _ (by kernel_rfl) rfl (by first | exact rfl | trivial) ?_ hS ?_; (focus (exact rfl)); simp only [Act.put, Array.getInternal_eq_getElem, List.getElem_toArray, List.getElem_cons_succ, List.getElem_cons_zero, List.setIfInBounds_toArray, List.set_cons_succ, List.set_cons_zero]
  refine sq_make 31 ⟨(Op.binOp BinOp.eql 3 (Operand.tmp 75) (Operand.const (Value.int IntKind.i64 0)) 3), some 76, 4, false, some (74, true)⟩ (.bool true) _ (by kernel_rfl) rfl (by first | exact rfl | trivial) ?_ hS ?_; (focus (simp [go_sem, mkO]; done)); simp only [Act.put, Array.getInternal_eq_getElem, List.getElem_toArray, List.getElem_cons_succ, List.getElem_cons_zero, List.setIfInBounds_toArray, List.set_cons_succ, List.set_cons_zero]
  refine sq_make 32 ⟨(Op.pick (Operand.tmp 74) (Operand.tmp 76) (Operand.const (Value.bool false))), some 77, 4, false, none⟩ (.bool true) _ (by kernel_rfl) rfl (by first | exact rfl | trivial) ?_ hS ?_; (focus (simp [go_sem, mkO]; done)); simp only [Act.put, Array.getInternal_eq_getElem, List.getElem_toArray, List.getElem_cons_succ, List.getElem_cons_zero, List.setIfInBounds_toArray, List.set_cons_succ, List.set_cons_zero]
  refine sq_make 33 ⟨(Op.move (Operand.tmp 77)), some 78, 4, false, none⟩ (.bool true) _ (by kernel_rfl) rfl (by first | exact rfl | trivial) ?_ hS ?_; (focus (exact rfl)); simp only [Act.put, Array.getInternal_eq_getElem, List.getElem_toArray, List.getElem_cons_succ, List.getElem_cons_zero, List.setIfInBounds_toArray, List.set_cons_succ, List.set_cons_zero]
  refine sq_make 34 ⟨(Op.move (Operand.tmp 10)), some 79, 29, false, some (78, true)⟩ (.int .i64 0) _ (by kernel_rfl) rfl (by first | exact rfl | trivial) ?_ hS ?_; (focus (exact rfl)); simp only [Act.put, Array.getInternal_eq_getElem, List.getElem_toArray, List.getElem_cons_succ, List.getElem_cons_zero, List.setIfInBounds_toArray, List.set_cons_succ, List.set_cons_zero]
  refine sq_make 35 ⟨(Op.binOp BinOp.eql 29 (Operand.tmp 79) (Operand.const (Value.int IntKind.i64 0)) 29), some 80, 4, false, some (78, true)⟩ (.bool true) _ (by kernel_rfl) rfl (by first | exact rfl | trivial) ?_ hS ?_; (focus (simp [go_sem, mkO]; done)); simp only [Act.put, Array.getInternal_eq_getElem, List.getElem_toArray, List.getElem_cons_succ, List.getElem_cons_zero, List.setIfInBounds_toArray, List.set_cons_succ, List.set_cons_zero]
  refine sq_make 36 ⟨(Op.pick (Operand.tmp 78) (Operand.tmp 80) (Operand.const (Value.bool false))), some 81, 4, false, none⟩ (.bool true) _ (by kernel_rfl) rfl (by first | exact rfl | trivial) ?_ hS ?_; (focus (simp [go_sem, mkO]; done)); simp only [Act.put, Array.getInternal_eq_getElem, List.getElem_toArray, List.getElem_cons_succ, List.getElem_cons_zero, List.setIfInBounds_toArray, List.set_cons_succ, List.set_cons_zero]
  refine sq_make 37 ⟨(Op.move (Operand.tmp 81)), some 82, 4, false, none⟩ (.bool true) _ (by kernel_rfl) rfl (by first | exact rfl | trivial) ?_ hS ?_; (focus (exact rfl)); simp only [Act.put, Array.getInternal_eq_getElem, List.getElem_toArray, List.getElem_cons_succ, List.getElem_cons_zero, List.setIfInBounds_toArray, List.set_cons_succ, List.set_cons_zero]
  refine sq_make 38 ⟨(Op.move (Operand.tmp 11)), some 83, 3, false, some (82, true)⟩ (.int .i64 0) _ (by kernel_rfl) rfl (by first | exact rfl | trivial) ?_ hS ?_; (focus (exact rfl)); simp only [Act.put, Array.getInternal_eq_getElem, List.getElem_toArray, List.getElem_cons_succ, List.getElem_cons_zero, List.setIfInBounds_toArray, List.set_cons_succ, List.set_cons_zero]
  refine sq_make 39 ⟨(Op.binOp BinOp.eql 3 (Operand.tmp 83) (Operand.const (Value.int IntKind.i64 0)) 3), some 84, 4, false, some (82, true)⟩ (.bool true) _ (by kernel_rfl) rfl (by first | exact rfl | trivial) ?_ hS ?_; (focus (simp [go_sem, mkO]; done)); simp only [Act.put, Array.getInternal_eq_getElem, List.getElem_toArray, List.getElem_cons_succ, List.getElem_cons_zero, List.setIfInBounds_toArray, List.set_cons_succ, List.set_cons_zero]
  refine sq_make 40 ⟨(Op.pick (Operand.tmp 82) (Operand.tmp 84) (Operand.const (Value.bool false))), some 85, 4, false, none⟩ (.bool true) _ (by kernel_rfl) rfl (by first | exact rfl | trivial) ?_ hS ?_; (focus (simp [go_sem, mkO]; done)); simp only [Act.put, Array.getInternal_eq_getElem, List.getElem_toArray, List.getElem_cons_succ, List.getElem_cons_zero, List.setIfInBounds_toArray, List.set_cons_succ, List.set_cons_zero]
  refine sq_make 41 ⟨(Op.move (Operand.tmp 85)), some 86, 4, false, none⟩ (.bool true) _ (by kernel_rfl) rfl (by first | exact rfl | trivial) ?_ hS ?_; (focus (exact rfl)); simp only [Act.put, Array.getInternal_eq_getElem, List.getElem_toArray, List.getElem_cons_succ, List.getElem_cons_zero, List.setIfInBounds_toArray, List.set_cons_succ, List.set_cons_zero]
  refine sq_make 42 ⟨(Op.move (Operand.tmp 12)), some 87, 3, false, some (86, true)⟩ (.int .i64 0) _ (by kernel_rfl) rfl (by first | exact rfl | trivial) ?_ hS ?_; (focus (exact rfl)); simp only [Act.put, Array.getInternal_eq_getElem, List.getElem_toArray, List.getElem_cons_succ, List.getElem_cons_zero, List.setIfInBounds_toArray, List.set_cons_succ, List.set_cons_zero]
  refine sq_make 43 ⟨(Op.binOp BinOp.eql 3 (Operand.tmp 87) (Operand.const (Value.int IntKind.i64 0)) 3), some 88, 4, false, some (86, true)⟩ (.bool true) _ (by kernel_rfl) rfl (by first | exact rfl | trivial) ?_ hS ?_; (focus (simp [go_sem, mkO]; done)); simp only [Act.put, Array.getInternal_eq_getElem, List.getElem_toArray, List.getElem_cons_succ, List.getElem_cons_zero, List.setIfInBounds_toArray, List.set_cons_succ, List.set_cons_zero]
  refine sq_make 44 ⟨(Op.pick (Operand.tmp 86) (Operand.tmp 88) (Operand.const (Value.bool false))), some 89, 4, false, none⟩ (.bool true) _ (by kernel_rfl) rfl (by first | exact rfl | trivial) ?_ hS ?_; (focus (simp [go_sem, mkO]; done)); simp only [Act.put, Array.getInternal_eq_getElem, List.getElem_toArray, List.getElem_cons_succ, List.getElem_cons_zero, List.setIfInBounds_toArray, List.set_cons_succ, List.set_cons_zero]
  refine sq_make 45 ⟨(Op.move (Operand.tmp 89)), some 90, 4, false, none⟩ (.bool true) _ (by kernel_rfl) rfl (by first | exact rfl | trivial) ?_ hS ?_; (focus (exact rfl)); simp only [Act.put, Array.getInternal_eq_getElem, List.getElem_toArray, List.getElem_cons_succ, List.getElem_cons_zero, List.setIfInBounds_toArray, List.set_cons_succ, List.set_cons_zero]
  refine sq_make 46 ⟨(Op.move (Operand.tmp 13)), some 91, 29, false, some (90, true)⟩ (.int .i64 0) _ (by kernel_rfl) rfl (by first | exact rfl | trivial) ?_ hS ?_; (focus (exact rfl)); simp only [Act.put, Array.getInternal_eq_getElem, List.getElem_toArray, List.getElem_cons_succ, List.getElem_cons_zero, List.setIfInBounds_toArray, List.set_cons_succ, List.set_cons_zero]
  refine sq_make 47 ⟨(Op.binOp BinOp.eql 29 (Operand.tmp 91) (Operand.const (Value.int IntKind.i64 0)) 29), some 92, 4, false, some (90, true)⟩ (.bool true) _ (by kernel_rfl) rfl (by first | exact rfl | trivial) ?_ hS ?_; (focus (simp [go_sem, mkO]; done)); simp only [Act.put, Array.getInternal_eq_getElem, List.getElem_toArray, List.getElem_cons_succ, List.getElem_cons_zero, List.setIfInBounds_toArray, List.set_cons_succ, List.set_cons_zero]
  refine sq_make 48 ⟨(Op.pick (Operand.tmp 90) (Operand.tmp 92) (Operand.const (Value.bool false))), some 93, 4, false, none⟩ (.bool true) _ (by kernel_rfl) rfl (by first | exact rfl | trivial) ?_ hS ?_; (focus (simp [go_sem, mkO]; done)); simp only [Act.put, Array.getInternal_eq_getElem, List.getElem_toArray, List.getElem_cons_succ, List.getElem_cons_zero, List.setIfInBounds_toArray, List.set_cons_succ, List.set_cons_zero]
  refine sq_make 49 ⟨(Op.assign (Operand.tmp 93)), some 0, 4, false, none⟩ (.bool true) _ (by kernel_rfl) rfl (by first | exact rfl | trivial) ?_ hS ?_; (focus (exact rfl)); simp only [Act.put, Array.getInternal_eq_getElem, List.getElem_toArray, List.getElem_cons_succ, List.getElem_cons_zero, List.setIfInBounds_toArray, List.set_cons_succ, List.set_cons_zero]
  refine sq_done 50 (by decide) (hQn _ _ (Keep.of_below hS) ?_)
  show Exec _ _ _ _ _ _
  refine exec_ret ⟨.inr rfl, fun W' hG => ⟨.bool true, by simp [results, Try.f5, go_sem], rfl, (hB6.trans (hS.mono hB6.size)).trans (hG.below (Nat.le_refl _) (hB6.trans (hS.mono hB6.size)).size)⟩⟩
end Go.Proofs.Ytafmgmaelnpehaa
end

section
namespace Go.Proofs.Ytafmgmaelnpehaa.Names
open Go.ChangeShapes Go.WideShapes Go.ChangeAt Go.RowKit
open Go.ChangeMaps (open_string shut_string)
set_option linter.unusedVariables false
theorem own : ownKnob Try.prog.godebug = none := by kernel_rfl
set_option maxRecDepth 100000 in
theorem lifted (os : Os) (started : os.Started) (H : Type) (enc : TypeId × Value → H) :
    ReturnsInHanded {} Try.checked os 5 .any (Rows.furrowNamesSpec.pre6 enc Try.prog Try.f5 Rows.furrowNamesRow.domain false) (Rows.furrowNamesSpec.post enc Try.prog Try.f5 false true false false) := by
  refine returnsInHanded_of_change_sized (C := Try.checked) own started (by kernel_rfl) Try.func5
    (ChangeSpec.witness6 (enc := enc) (C := Try.checked) false ⟨#[], #[], []⟩ 8 (by kernel_rfl) (by kernel_rfl) (by kernel_rfl) (by kernel_rfl)) ?_
  intro W base args ds gs before hval0 hW hcnd hsz0 _
  have hsz : (DataW.weightsEach Try.prog (Try.f5.params.toList ++ Rows.furrowNamesSpec.plain.varTypes Try.prog) (ds ++ gs)).all (· ≤ reachBytes) = true := hsz0
  have hval : ∀ (j : Nat) t v, Try.f5.params[j]? = some t → args[j]? = some v → Value.okWide Try.prog W .any base t v := hval0
  have hW' := hW
  obtain ⟨p, q, hA0, hV, rfl, hfz, hnd⟩ := hW
  have hA : DataW.TrodAll enc Try.prog W 0 (fun _ => true) true Try.f5.params.toList args.toList ds p := hA0
  rw [Try.params5] at hA hval hsz
  obtain ⟨rfl, rfl, rfl⟩ := trodAll_none hA
  obtain ⟨rfl, rfl⟩ := trodVars_none hV
  clear hA0 hval0 hsz0 hsz
  refine (names_any W).mono fun e W' ⟨he, bel⟩ => ?_
  subst he
  exact ⟨_, rfl, _, _, _, [], _, [], hW', trodAll_mk1 (shut_bool Try.underlying4 _), trodAll_mk0, rfl, bel.frame _, fun h => by cases h⟩
theorem over : Rows.furrowNamesRow.holds Try.pinned (OpenSpec.ofChange Rows.furrowNamesSpec) :=
  OpenClaim.holds_of_wide 5 Try.f5 rfl rfl rfl rfl rfl rfl rfl ⟨rfl, rfl, rfl, rfl, rfl⟩ rfl rfl rfl rfl rfl (by kernel_rfl) Try.func5 (by kernel_rfl)
    (of_decide_eq_true (by kernel_rfl)) (by unfold Func.isWrapper; first | (rw [if_pos (by decide +kernel)]; kernel_rfl) | (rw [if_neg (by decide +kernel)]; exact ⟨rfl, rfl⟩))
    (fun os started H enc _ => lifted os started H enc)
theorem proved : Rows.FurrowNamesSaid := over
#print axioms proved
end Go.Proofs.Ytafmgmaelnpehaa.Names
namespace Go.Proofs.Ytafmgmaelnpehaa
/-- The row, under a short name, for the claim. -/
theorem furrowNames_holds : Rows.FurrowNamesSaid := Names.proved
end Go.Proofs.Ytafmgmaelnpehaa
end
