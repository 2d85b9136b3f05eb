/-
  No cell of these rows narrows 'for every input' (looked for: loops, veiled, ifaces, maps, wideKeys, modest, calm, conditions, laid).
  DERIVED. THE GIVEN ROWS OF THIS SEAT. 10 by the template 'for every input the law returns true; each argument reads behind the call as it read before'; 0 by the template 'total and deterministic' (their statements: YtafmgmaelnpehaaTotals.lean).
  GIVEN WITH THE SEED: the statements are not yours to turn. If you find one false, say at which input.
  Laid BY PROGRAM, IN A SANDBOX (cutbox-rows.mjs): the forced cells as the released guide's own fill.sh prints them over the translation baf28cdad777ccd1… (all of the seat's roots in one cut). By AI agents, Wed Nov 11 2026. No macro, syntax, notation, axiom, sorry.
-/
import Derived.Test.YtafmgmaelnpehaaChecked
import GoSem.Claim
import GoSem.ClaimJoined
import GoSem.ClaimMapViews
import Derived.JoinedTies
import Derived.KernelRfl
namespace Go.Proofs.Ytafmgmaelnpehaa
/- THE CELL 'sum', in the pinned program and in every row, IS THE sha256 OF THE DUMP (.gsa) THAT YtafmgmaelnpehaaProg.lean LOADS. Nothing in Lean hashes anything: it is a label: what it is worth is what the hold of that sum in a sandbox is worth. -/
noncomputable def Try.pinned : Pinned := { name := "ytafmgmaelnpehaa", sum := "baf28cdad777ccd138d843d943d836eaeb4c1c3196d60a34bb612a15d2f0269f", checked := Try.checked }
namespace Rows
def none {H : Type} : Left H := { results := [], args := [] }

/-- 'furrowworkslaw04.FurrowBends': WHATEVER THE INPUT: true; the input reads as it did. -/
def furrowBendsSpec : ChangeSpec := { name := "furrowBends", fn := fun _ => fun
  | [d1, d2] => { results := [.lit (.bool true)], args := [d1, d2] }
  | _ => none }
def furrowBendsRow : OpenClaim := { program := "ytafmgmaelnpehaa", sum := "baf28cdad777ccd138d843d943d836eaeb4c1c3196d60a34bb612a15d2f0269f", func := "furrowworks/furrowworkslaw04.FurrowBends", spec := "furrowBends", unfollowed := true, recurses := true, plainKeys := false, apart := false }
def FurrowBendsSaid : Prop := furrowBendsRow.holds Try.pinned (OpenSpec.ofChange furrowBendsSpec)

/-- ITS FALSE NEIGHBOUR: 'it returns false'. Refute it at one input. -/
def furrowBendsWrong : ChangeSpec := { name := "furrowBends", fn := fun _ => fun
  | [d1, d2] => { results := [.lit (.bool false)], args := [d1, d2] }
  | _ => none }
def FurrowBendsWrongFalsely : Prop := furrowBendsRow.holds Try.pinned (OpenSpec.ofChange furrowBendsWrong)

/-- 'furrowworkslaw04.FurrowAsks': WHATEVER THE INPUT: true; the input reads as it did. -/
def furrowAsksSpec : ChangeSpec := { name := "furrowAsks", fn := fun _ => fun
  | [d1, d2, d3] => { results := [.lit (.bool true)], args := [d1, d2, d3] }
  | _ => none }
def furrowAsksRow : OpenClaim := { program := "ytafmgmaelnpehaa", sum := "baf28cdad777ccd138d843d943d836eaeb4c1c3196d60a34bb612a15d2f0269f", func := "furrowworks/furrowworkslaw04.FurrowAsks", spec := "furrowAsks", unfollowed := true, recurses := true, plainKeys := false, apart := false }
def FurrowAsksSaid : Prop := furrowAsksRow.holds Try.pinned (OpenSpec.ofChange furrowAsksSpec)

/-- ITS FALSE NEIGHBOUR: 'it returns false'. Refute it at one input. -/
def furrowAsksWrong : ChangeSpec := { name := "furrowAsks", fn := fun _ => fun
  | [d1, d2, d3] => { results := [.lit (.bool false)], args := [d1, d2, d3] }
  | _ => none }
def FurrowAsksWrongFalsely : Prop := furrowAsksRow.holds Try.pinned (OpenSpec.ofChange furrowAsksWrong)

/-- 'furrowworkslaw04.FurrowNames': WHATEVER THE INPUT: true; the input reads as it did. -/
def furrowNamesSpec : ChangeSpec := { name := "furrowNames", fn := fun _ => fun
  | [] => { results := [.lit (.bool true)], args := [] }
  | _ => none }
def furrowNamesRow : OpenClaim := { program := "ytafmgmaelnpehaa", sum := "baf28cdad777ccd138d843d943d836eaeb4c1c3196d60a34bb612a15d2f0269f", func := "furrowworks/furrowworkslaw04.FurrowNames", spec := "furrowNames", unfollowed := true, recurses := true, plainKeys := false, apart := false }
def FurrowNamesSaid : Prop := furrowNamesRow.holds Try.pinned (OpenSpec.ofChange furrowNamesSpec)

/-- ITS FALSE NEIGHBOUR: 'it returns false'. Refute it at one input. -/
def furrowNamesWrong : ChangeSpec := { name := "furrowNames", fn := fun _ => fun
  | [] => { results := [.lit (.bool false)], args := [] }
  | _ => none }
def FurrowNamesWrongFalsely : Prop := furrowNamesRow.holds Try.pinned (OpenSpec.ofChange furrowNamesWrong)

/-- 'furrowworkslaw04.FurrowTrue': WHATEVER THE INPUT: true; the input reads as it did. -/
def furrowTrueSpec : ChangeSpec := { name := "furrowTrue", fn := fun _ => fun
  | [d] => { results := [.lit (.bool true)], args := [d] }
  | _ => none }
def furrowTrueRow : OpenClaim := { program := "ytafmgmaelnpehaa", sum := "baf28cdad777ccd138d843d943d836eaeb4c1c3196d60a34bb612a15d2f0269f", func := "furrowworks/furrowworkslaw04.FurrowTrue", spec := "furrowTrue", unfollowed := true, recurses := true, plainKeys := false, apart := false }
def FurrowTrueSaid : Prop := furrowTrueRow.holds Try.pinned (OpenSpec.ofChange furrowTrueSpec)

/-- ITS FALSE NEIGHBOUR: 'it returns false'. Refute it at one input. -/
def furrowTrueWrong : ChangeSpec := { name := "furrowTrue", fn := fun _ => fun
  | [d] => { results := [.lit (.bool false)], args := [d] }
  | _ => none }
def FurrowTrueWrongFalsely : Prop := furrowTrueRow.holds Try.pinned (OpenSpec.ofChange furrowTrueWrong)

/-- 'furrowworkslaw04.FurrowStraight': WHATEVER THE INPUT: true; the input reads as it did. -/
def furrowStraightSpec : ChangeSpec := { name := "furrowStraight", fn := fun _ => fun
  | [d1, d2] => { results := [.lit (.bool true)], args := [d1, d2] }
  | _ => none }
def furrowStraightRow : OpenClaim := { program := "ytafmgmaelnpehaa", sum := "baf28cdad777ccd138d843d943d836eaeb4c1c3196d60a34bb612a15d2f0269f", func := "furrowworks/furrowworkslaw04.FurrowStraight", spec := "furrowStraight", unfollowed := true, recurses := true, plainKeys := false, apart := false }
def FurrowStraightSaid : Prop := furrowStraightRow.holds Try.pinned (OpenSpec.ofChange furrowStraightSpec)

/-- ITS FALSE NEIGHBOUR: 'it returns false'. Refute it at one input. -/
def furrowStraightWrong : ChangeSpec := { name := "furrowStraight", fn := fun _ => fun
  | [d1, d2] => { results := [.lit (.bool false)], args := [d1, d2] }
  | _ => none }
def FurrowStraightWrongFalsely : Prop := furrowStraightRow.holds Try.pinned (OpenSpec.ofChange furrowStraightWrong)

/-- 'furrowworkslaw04.FurrowWrong': WHATEVER THE INPUT: true; the input reads as it did. -/
def furrowWrongSpec : ChangeSpec := { name := "furrowWrong", fn := fun _ => fun
  | [d1, d2, d3, d4] => { results := [.lit (.bool true)], args := [d1, d2, d3, d4] }
  | _ => none }
def furrowWrongRow : OpenClaim := { program := "ytafmgmaelnpehaa", sum := "baf28cdad777ccd138d843d943d836eaeb4c1c3196d60a34bb612a15d2f0269f", func := "furrowworks/furrowworkslaw04.FurrowWrong", spec := "furrowWrong", unfollowed := true, recurses := true, plainKeys := false, apart := false }
def FurrowWrongSaid : Prop := furrowWrongRow.holds Try.pinned (OpenSpec.ofChange furrowWrongSpec)

/-- ITS FALSE NEIGHBOUR: 'it returns false'. Refute it at one input. -/
def furrowWrongWrong : ChangeSpec := { name := "furrowWrong", fn := fun _ => fun
  | [d1, d2, d3, d4] => { results := [.lit (.bool false)], args := [d1, d2, d3, d4] }
  | _ => none }
def FurrowWrongWrongFalsely : Prop := furrowWrongRow.holds Try.pinned (OpenSpec.ofChange furrowWrongWrong)

/-- 'furrowworkslaw04.FurrowWorst': WHATEVER THE INPUT: true; the input reads as it did. -/
def furrowWorstSpec : ChangeSpec := { name := "furrowWorst", fn := fun _ => fun
  | [d1, d2] => { results := [.lit (.bool true)], args := [d1, d2] }
  | _ => none }
def furrowWorstRow : OpenClaim := { program := "ytafmgmaelnpehaa", sum := "baf28cdad777ccd138d843d943d836eaeb4c1c3196d60a34bb612a15d2f0269f", func := "furrowworks/furrowworkslaw04.FurrowWorst", spec := "furrowWorst", unfollowed := true, recurses := true, plainKeys := false, apart := false }
def FurrowWorstSaid : Prop := furrowWorstRow.holds Try.pinned (OpenSpec.ofChange furrowWorstSpec)

/-- ITS FALSE NEIGHBOUR: 'it returns false'. Refute it at one input. -/
def furrowWorstWrong : ChangeSpec := { name := "furrowWorst", fn := fun _ => fun
  | [d1, d2] => { results := [.lit (.bool false)], args := [d1, d2] }
  | _ => none }
def FurrowWorstWrongFalsely : Prop := furrowWorstRow.holds Try.pinned (OpenSpec.ofChange furrowWorstWrong)

/-- 'furrowworkslaw04.FurrowMore': WHATEVER THE INPUT: true; the input reads as it did. -/
def furrowMoreSpec : ChangeSpec := { name := "furrowMore", fn := fun _ => fun
  | [d1, d2, d3, d4] => { results := [.lit (.bool true)], args := [d1, d2, d3, d4] }
  | _ => none }
def furrowMoreRow : OpenClaim := { program := "ytafmgmaelnpehaa", sum := "baf28cdad777ccd138d843d943d836eaeb4c1c3196d60a34bb612a15d2f0269f", func := "furrowworks/furrowworkslaw04.FurrowMore", spec := "furrowMore", unfollowed := true, recurses := true, plainKeys := false, apart := false }
def FurrowMoreSaid : Prop := furrowMoreRow.holds Try.pinned (OpenSpec.ofChange furrowMoreSpec)

/-- ITS FALSE NEIGHBOUR: 'it returns false'. Refute it at one input. -/
def furrowMoreWrong : ChangeSpec := { name := "furrowMore", fn := fun _ => fun
  | [d1, d2, d3, d4] => { results := [.lit (.bool false)], args := [d1, d2, d3, d4] }
  | _ => none }
def FurrowMoreWrongFalsely : Prop := furrowMoreRow.holds Try.pinned (OpenSpec.ofChange furrowMoreWrong)

/-- 'furrowworkslaw04.FurrowTurned': WHATEVER THE INPUT: true; the input reads as it did. -/
def furrowTurnedSpec : ChangeSpec := { name := "furrowTurned", fn := fun _ => fun
  | [d1, d2, d3, d4] => { results := [.lit (.bool true)], args := [d1, d2, d3, d4] }
  | _ => none }
def furrowTurnedRow : OpenClaim := { program := "ytafmgmaelnpehaa", sum := "baf28cdad777ccd138d843d943d836eaeb4c1c3196d60a34bb612a15d2f0269f", func := "furrowworks/furrowworkslaw04.FurrowTurned", spec := "furrowTurned", unfollowed := true, recurses := true, plainKeys := false, apart := false }
def FurrowTurnedSaid : Prop := furrowTurnedRow.holds Try.pinned (OpenSpec.ofChange furrowTurnedSpec)

/-- ITS FALSE NEIGHBOUR: 'it returns false'. Refute it at one input. -/
def furrowTurnedWrong : ChangeSpec := { name := "furrowTurned", fn := fun _ => fun
  | [d1, d2, d3, d4] => { results := [.lit (.bool false)], args := [d1, d2, d3, d4] }
  | _ => none }
def FurrowTurnedWrongFalsely : Prop := furrowTurnedRow.holds Try.pinned (OpenSpec.ofChange furrowTurnedWrong)

/-- 'furrowworkstop.TopStakes': WHATEVER THE INPUT: true; the input reads as it did. -/
def topStakesSpec : ChangeSpec := { name := "topStakes", fn := fun _ => fun
  | [d1, d2, d3] => { results := [.lit (.bool true)], args := [d1, d2, d3] }
  | _ => none }
def topStakesRow : OpenClaim := { program := "ytafmgmaelnpehaa", sum := "baf28cdad777ccd138d843d943d836eaeb4c1c3196d60a34bb612a15d2f0269f", func := "furrowworks/furrowworkstop.TopStakes", spec := "topStakes", unfollowed := true, recurses := true, plainKeys := false, apart := false }
def TopStakesSaid : Prop := topStakesRow.holds Try.pinned (OpenSpec.ofChange topStakesSpec)

/-- ITS FALSE NEIGHBOUR: 'it returns false'. Refute it at one input. -/
def topStakesWrong : ChangeSpec := { name := "topStakes", fn := fun _ => fun
  | [d1, d2, d3] => { results := [.lit (.bool false)], args := [d1, d2, d3] }
  | _ => none }
def TopStakesWrongFalsely : Prop := topStakesRow.holds Try.pinned (OpenSpec.ofChange topStakesWrong)

/- THE SECOND FORM. 'bulk': how many values and letters a reading holds, each counted each time it is reached (what is shared counts as often as it is met; a slice's spare places count too). A statement '..UptoSaid' is the law's where the arguments, and the package variables that the reading takes, are together of bulk at most 1048576: NARROWER than '..Said'. Prove '..Said' where nothing that the law and all that it calls make is longer than what came in: it says more and counts as full. Else prove '..UptoSaid'. A law counts once. -/
mutual
def uptoBulk {H : Type} : DataW H → Nat
  | .lit (.string bytes) => bytes.length + 1
  | .lit _ => 1
  | .nil => 1
  | .ptr d => uptoBulk d + 1
  | .slice elems spare => uptoBulkAll elems + uptoBulkAll spare + 1
  | .agg parts => uptoBulkAll parts + 1
  | .iface _ d => uptoBulk d + 1
  | .map entries => uptoBulkEntries entries + 1
  | .held _ => 1
def uptoBulkAll {H : Type} : List (DataW H) → Nat
  | [] => 0
  | d :: r => uptoBulk d + uptoBulkAll r
def uptoBulkEntries {H : Type} : List (Lit × DataW H) → Nat
  | [] => 0
  | x :: r => uptoBulkEntry x + uptoBulkEntries r
def uptoBulkEntry {H : Type} : Lit × DataW H → Nat
  | (.string bytes, d) => bytes.length + uptoBulk d + 1
  | (_, d) => uptoBulk d + 1
 end
def uptoSmall : (H : Type) → List (DataW H) → Bool := fun _ ds => decide (uptoBulkAll ds ≤ 1048576)
def OpenSpec.upto (s : _root_.Go.ChangeSpec) : _root_.Go.OpenSpec := { _root_.Go.OpenSpec.ofChange s with cond := some uptoSmall }

/-- 'furrowworkslaw04.FurrowBends', WHERE WHAT IT READS IS OF BULK AT MOST 1048576: true; the input reads as it did. -/
def furrowBendsUptoRow : OpenClaim := { program := "ytafmgmaelnpehaa", sum := "baf28cdad777ccd138d843d943d836eaeb4c1c3196d60a34bb612a15d2f0269f", func := "furrowworks/furrowworkslaw04.FurrowBends", spec := "furrowBends", unfollowed := true, recurses := true, plainKeys := false, apart := false, narrowed := true }
def FurrowBendsUptoSaid : Prop := furrowBendsUptoRow.holds Try.pinned (OpenSpec.upto furrowBendsSpec)

/-- 'furrowworkslaw04.FurrowAsks', WHERE WHAT IT READS IS OF BULK AT MOST 1048576: true; the input reads as it did. -/
def furrowAsksUptoRow : OpenClaim := { program := "ytafmgmaelnpehaa", sum := "baf28cdad777ccd138d843d943d836eaeb4c1c3196d60a34bb612a15d2f0269f", func := "furrowworks/furrowworkslaw04.FurrowAsks", spec := "furrowAsks", unfollowed := true, recurses := true, plainKeys := false, apart := false, narrowed := true }
def FurrowAsksUptoSaid : Prop := furrowAsksUptoRow.holds Try.pinned (OpenSpec.upto furrowAsksSpec)

/-- 'furrowworkslaw04.FurrowNames', WHERE WHAT IT READS IS OF BULK AT MOST 1048576: true; the input reads as it did. -/
def furrowNamesUptoRow : OpenClaim := { program := "ytafmgmaelnpehaa", sum := "baf28cdad777ccd138d843d943d836eaeb4c1c3196d60a34bb612a15d2f0269f", func := "furrowworks/furrowworkslaw04.FurrowNames", spec := "furrowNames", unfollowed := true, recurses := true, plainKeys := false, apart := false, narrowed := true }
def FurrowNamesUptoSaid : Prop := furrowNamesUptoRow.holds Try.pinned (OpenSpec.upto furrowNamesSpec)

/-- 'furrowworkslaw04.FurrowTrue', WHERE WHAT IT READS IS OF BULK AT MOST 1048576: true; the input reads as it did. -/
def furrowTrueUptoRow : OpenClaim := { program := "ytafmgmaelnpehaa", sum := "baf28cdad777ccd138d843d943d836eaeb4c1c3196d60a34bb612a15d2f0269f", func := "furrowworks/furrowworkslaw04.FurrowTrue", spec := "furrowTrue", unfollowed := true, recurses := true, plainKeys := false, apart := false, narrowed := true }
def FurrowTrueUptoSaid : Prop := furrowTrueUptoRow.holds Try.pinned (OpenSpec.upto furrowTrueSpec)

/-- 'furrowworkslaw04.FurrowStraight', WHERE WHAT IT READS IS OF BULK AT MOST 1048576: true; the input reads as it did. -/
def furrowStraightUptoRow : OpenClaim := { program := "ytafmgmaelnpehaa", sum := "baf28cdad777ccd138d843d943d836eaeb4c1c3196d60a34bb612a15d2f0269f", func := "furrowworks/furrowworkslaw04.FurrowStraight", spec := "furrowStraight", unfollowed := true, recurses := true, plainKeys := false, apart := false, narrowed := true }
def FurrowStraightUptoSaid : Prop := furrowStraightUptoRow.holds Try.pinned (OpenSpec.upto furrowStraightSpec)

/-- 'furrowworkslaw04.FurrowWrong', WHERE WHAT IT READS IS OF BULK AT MOST 1048576: true; the input reads as it did. -/
def furrowWrongUptoRow : OpenClaim := { program := "ytafmgmaelnpehaa", sum := "baf28cdad777ccd138d843d943d836eaeb4c1c3196d60a34bb612a15d2f0269f", func := "furrowworks/furrowworkslaw04.FurrowWrong", spec := "furrowWrong", unfollowed := true, recurses := true, plainKeys := false, apart := false, narrowed := true }
def FurrowWrongUptoSaid : Prop := furrowWrongUptoRow.holds Try.pinned (OpenSpec.upto furrowWrongSpec)

/-- 'furrowworkslaw04.FurrowWorst', WHERE WHAT IT READS IS OF BULK AT MOST 1048576: true; the input reads as it did. -/
def furrowWorstUptoRow : OpenClaim := { program := "ytafmgmaelnpehaa", sum := "baf28cdad777ccd138d843d943d836eaeb4c1c3196d60a34bb612a15d2f0269f", func := "furrowworks/furrowworkslaw04.FurrowWorst", spec := "furrowWorst", unfollowed := true, recurses := true, plainKeys := false, apart := false, narrowed := true }
def FurrowWorstUptoSaid : Prop := furrowWorstUptoRow.holds Try.pinned (OpenSpec.upto furrowWorstSpec)

/-- 'furrowworkslaw04.FurrowMore', WHERE WHAT IT READS IS OF BULK AT MOST 1048576: true; the input reads as it did. -/
def furrowMoreUptoRow : OpenClaim := { program := "ytafmgmaelnpehaa", sum := "baf28cdad777ccd138d843d943d836eaeb4c1c3196d60a34bb612a15d2f0269f", func := "furrowworks/furrowworkslaw04.FurrowMore", spec := "furrowMore", unfollowed := true, recurses := true, plainKeys := false, apart := false, narrowed := true }
def FurrowMoreUptoSaid : Prop := furrowMoreUptoRow.holds Try.pinned (OpenSpec.upto furrowMoreSpec)

/-- 'furrowworkslaw04.FurrowTurned', WHERE WHAT IT READS IS OF BULK AT MOST 1048576: true; the input reads as it did. -/
def furrowTurnedUptoRow : OpenClaim := { program := "ytafmgmaelnpehaa", sum := "baf28cdad777ccd138d843d943d836eaeb4c1c3196d60a34bb612a15d2f0269f", func := "furrowworks/furrowworkslaw04.FurrowTurned", spec := "furrowTurned", unfollowed := true, recurses := true, plainKeys := false, apart := false, narrowed := true }
def FurrowTurnedUptoSaid : Prop := furrowTurnedUptoRow.holds Try.pinned (OpenSpec.upto furrowTurnedSpec)

/-- 'furrowworkstop.TopStakes', WHERE WHAT IT READS IS OF BULK AT MOST 1048576: true; the input reads as it did. -/
def topStakesUptoRow : OpenClaim := { program := "ytafmgmaelnpehaa", sum := "baf28cdad777ccd138d843d943d836eaeb4c1c3196d60a34bb612a15d2f0269f", func := "furrowworks/furrowworkstop.TopStakes", spec := "topStakes", unfollowed := true, recurses := true, plainKeys := false, apart := false, narrowed := true }
def TopStakesUptoSaid : Prop := topStakesUptoRow.holds Try.pinned (OpenSpec.upto topStakesSpec)

end Rows
end Go.Proofs.Ytafmgmaelnpehaa
