/-
  No cell of these rows narrows 'for every input' (looked for: loops, veiled, ifaces, maps, wideKeys, modest, calm, conditions, laid).
  DERIVED. THE GIVEN ROWS OF THIS SEAT. 10 by the template 'for every input the law returns true; each argument reads behind the call as it read before'; 0 by the template 'total and deterministic' (their statements: YtbdmmikflkpmpaaTotals.lean).
  GIVEN WITH THE SEED: the statements are not yours to turn. If you find one false, say at which input.
  Laid BY PROGRAM, IN A SANDBOX (cutbox-rows.mjs): the forced cells as the released guide's own fill.sh prints them over the translation 2eb685cd2de0348b… (all of the seat's roots in one cut). By AI agents, Wed Nov 11 2026. No macro, syntax, notation, axiom, sorry.
-/
import Derived.Test.YtbdmmikflkpmpaaChecked
import GoSem.Claim
import GoSem.ClaimJoined
import GoSem.ClaimMapViews
import Derived.JoinedTies
import Derived.KernelRfl
namespace Go.Proofs.Ytbdmmikflkpmpaa
/- THE CELL 'sum', in the pinned program and in every row, IS THE sha256 OF THE DUMP (.gsa) THAT YtbdmmikflkpmpaaProg.lean LOADS. Nothing in Lean hashes anything: it is a label: what it is worth is what the hold of that sum in a sandbox is worth. -/
noncomputable def Try.pinned : Pinned := { name := "ytbdmmikflkpmpaa", sum := "2eb685cd2de0348b8b78fffa6a03876b160818f04d87857798cfd79e383f0d04", checked := Try.checked }
namespace Rows
def none {H : Type} : Left H := { results := [], args := [] }

/-- 'furrowworkslaw09.PanelSits': WHATEVER THE INPUT: true; the input reads as it did. -/
def panelSitsSpec : ChangeSpec := { name := "panelSits", fn := fun _ => fun
  | [d1, d2, d3] => { results := [.lit (.bool true)], args := [d1, d2, d3] }
  | _ => none }
def panelSitsRow : OpenClaim := { program := "ytbdmmikflkpmpaa", sum := "2eb685cd2de0348b8b78fffa6a03876b160818f04d87857798cfd79e383f0d04", func := "furrowworks/furrowworkslaw09.PanelSits", spec := "panelSits", unfollowed := true, recurses := true, plainKeys := false, apart := false }
def PanelSitsSaid : Prop := panelSitsRow.holds Try.pinned (OpenSpec.ofChange panelSitsSpec)

/-- ITS FALSE NEIGHBOUR: 'it returns false'. Refute it at one input. -/
def panelSitsWrong : ChangeSpec := { name := "panelSits", fn := fun _ => fun
  | [d1, d2, d3] => { results := [.lit (.bool false)], args := [d1, d2, d3] }
  | _ => none }
def PanelSitsWrongFalsely : Prop := panelSitsRow.holds Try.pinned (OpenSpec.ofChange panelSitsWrong)

/-- 'furrowworkslaw09.PanelSeating': WHATEVER THE INPUT: true; the input reads as it did. -/
def panelSeatingSpec : ChangeSpec := { name := "panelSeating", fn := fun _ => fun
  | [d1, d2] => { results := [.lit (.bool true)], args := [d1, d2] }
  | _ => none }
def panelSeatingRow : OpenClaim := { program := "ytbdmmikflkpmpaa", sum := "2eb685cd2de0348b8b78fffa6a03876b160818f04d87857798cfd79e383f0d04", func := "furrowworks/furrowworkslaw09.PanelSeating", spec := "panelSeating", unfollowed := true, recurses := true, plainKeys := false, apart := false }
def PanelSeatingSaid : Prop := panelSeatingRow.holds Try.pinned (OpenSpec.ofChange panelSeatingSpec)

/-- ITS FALSE NEIGHBOUR: 'it returns false'. Refute it at one input. -/
def panelSeatingWrong : ChangeSpec := { name := "panelSeating", fn := fun _ => fun
  | [d1, d2] => { results := [.lit (.bool false)], args := [d1, d2] }
  | _ => none }
def PanelSeatingWrongFalsely : Prop := panelSeatingRow.holds Try.pinned (OpenSpec.ofChange panelSeatingWrong)

/-- 'furrowworkslaw09.PanelShort': WHATEVER THE INPUT: true; the input reads as it did. -/
def panelShortSpec : ChangeSpec := { name := "panelShort", fn := fun _ => fun
  | [d1, d2] => { results := [.lit (.bool true)], args := [d1, d2] }
  | _ => none }
def panelShortRow : OpenClaim := { program := "ytbdmmikflkpmpaa", sum := "2eb685cd2de0348b8b78fffa6a03876b160818f04d87857798cfd79e383f0d04", func := "furrowworks/furrowworkslaw09.PanelShort", spec := "panelShort", unfollowed := true, recurses := true, plainKeys := false, apart := false }
def PanelShortSaid : Prop := panelShortRow.holds Try.pinned (OpenSpec.ofChange panelShortSpec)

/-- ITS FALSE NEIGHBOUR: 'it returns false'. Refute it at one input. -/
def panelShortWrong : ChangeSpec := { name := "panelShort", fn := fun _ => fun
  | [d1, d2] => { results := [.lit (.bool false)], args := [d1, d2] }
  | _ => none }
def PanelShortWrongFalsely : Prop := panelShortRow.holds Try.pinned (OpenSpec.ofChange panelShortWrong)

/-- 'furrowworkstop.TopKin': WHATEVER THE INPUT: true; the input reads as it did. -/
def topKinSpec : ChangeSpec := { name := "topKin", fn := fun _ => fun
  | [d1, d2, d3] => { results := [.lit (.bool true)], args := [d1, d2, d3] }
  | _ => none }
def topKinRow : OpenClaim := { program := "ytbdmmikflkpmpaa", sum := "2eb685cd2de0348b8b78fffa6a03876b160818f04d87857798cfd79e383f0d04", func := "furrowworks/furrowworkstop.TopKin", spec := "topKin", unfollowed := true, recurses := true, plainKeys := false, apart := false }
def TopKinSaid : Prop := topKinRow.holds Try.pinned (OpenSpec.ofChange topKinSpec)

/-- ITS FALSE NEIGHBOUR: 'it returns false'. Refute it at one input. -/
def topKinWrong : ChangeSpec := { name := "topKin", fn := fun _ => fun
  | [d1, d2, d3] => { results := [.lit (.bool false)], args := [d1, d2, d3] }
  | _ => none }
def TopKinWrongFalsely : Prop := topKinRow.holds Try.pinned (OpenSpec.ofChange topKinWrong)

/-- 'furrowworkslaw09.PanelWaive': WHATEVER THE INPUT: true; the input reads as it did. -/
def panelWaiveSpec : ChangeSpec := { name := "panelWaive", fn := fun _ => fun
  | [d1, d2] => { results := [.lit (.bool true)], args := [d1, d2] }
  | _ => none }
def panelWaiveRow : OpenClaim := { program := "ytbdmmikflkpmpaa", sum := "2eb685cd2de0348b8b78fffa6a03876b160818f04d87857798cfd79e383f0d04", func := "furrowworks/furrowworkslaw09.PanelWaive", spec := "panelWaive", unfollowed := true, recurses := true, plainKeys := false, apart := false }
def PanelWaiveSaid : Prop := panelWaiveRow.holds Try.pinned (OpenSpec.ofChange panelWaiveSpec)

/-- ITS FALSE NEIGHBOUR: 'it returns false'. Refute it at one input. -/
def panelWaiveWrong : ChangeSpec := { name := "panelWaive", fn := fun _ => fun
  | [d1, d2] => { results := [.lit (.bool false)], args := [d1, d2] }
  | _ => none }
def PanelWaiveWrongFalsely : Prop := panelWaiveRow.holds Try.pinned (OpenSpec.ofChange panelWaiveWrong)

/-- 'furrowworkslaw09.PanelMore': WHATEVER THE INPUT: true; the input reads as it did. -/
def panelMoreSpec : ChangeSpec := { name := "panelMore", fn := fun _ => fun
  | [d1, d2] => { results := [.lit (.bool true)], args := [d1, d2] }
  | _ => none }
def panelMoreRow : OpenClaim := { program := "ytbdmmikflkpmpaa", sum := "2eb685cd2de0348b8b78fffa6a03876b160818f04d87857798cfd79e383f0d04", func := "furrowworks/furrowworkslaw09.PanelMore", spec := "panelMore", unfollowed := true, recurses := true, plainKeys := false, apart := false }
def PanelMoreSaid : Prop := panelMoreRow.holds Try.pinned (OpenSpec.ofChange panelMoreSpec)

/-- ITS FALSE NEIGHBOUR: 'it returns false'. Refute it at one input. -/
def panelMoreWrong : ChangeSpec := { name := "panelMore", fn := fun _ => fun
  | [d1, d2] => { results := [.lit (.bool false)], args := [d1, d2] }
  | _ => none }
def PanelMoreWrongFalsely : Prop := panelMoreRow.holds Try.pinned (OpenSpec.ofChange panelMoreWrong)

/-- 'furrowworkslaw09.PanelFills': WHATEVER THE INPUT: true; the input reads as it did. -/
def panelFillsSpec : ChangeSpec := { name := "panelFills", fn := fun _ => fun
  | [d] => { results := [.lit (.bool true)], args := [d] }
  | _ => none }
def panelFillsRow : OpenClaim := { program := "ytbdmmikflkpmpaa", sum := "2eb685cd2de0348b8b78fffa6a03876b160818f04d87857798cfd79e383f0d04", func := "furrowworks/furrowworkslaw09.PanelFills", spec := "panelFills", unfollowed := true, recurses := true, plainKeys := false, apart := false }
def PanelFillsSaid : Prop := panelFillsRow.holds Try.pinned (OpenSpec.ofChange panelFillsSpec)

/-- ITS FALSE NEIGHBOUR: 'it returns false'. Refute it at one input. -/
def panelFillsWrong : ChangeSpec := { name := "panelFills", fn := fun _ => fun
  | [d] => { results := [.lit (.bool false)], args := [d] }
  | _ => none }
def PanelFillsWrongFalsely : Prop := panelFillsRow.holds Try.pinned (OpenSpec.ofChange panelFillsWrong)

/-- 'furrowworkslaw09.PanelNames': WHATEVER THE INPUT: true; the input reads as it did. -/
def panelNamesSpec : ChangeSpec := { name := "panelNames", fn := fun _ => fun
  | [] => { results := [.lit (.bool true)], args := [] }
  | _ => none }
def panelNamesRow : OpenClaim := { program := "ytbdmmikflkpmpaa", sum := "2eb685cd2de0348b8b78fffa6a03876b160818f04d87857798cfd79e383f0d04", func := "furrowworks/furrowworkslaw09.PanelNames", spec := "panelNames", unfollowed := true, recurses := true, plainKeys := false, apart := false }
def PanelNamesSaid : Prop := panelNamesRow.holds Try.pinned (OpenSpec.ofChange panelNamesSpec)

/-- ITS FALSE NEIGHBOUR: 'it returns false'. Refute it at one input. -/
def panelNamesWrong : ChangeSpec := { name := "panelNames", fn := fun _ => fun
  | [] => { results := [.lit (.bool false)], args := [] }
  | _ => none }
def PanelNamesWrongFalsely : Prop := panelNamesRow.holds Try.pinned (OpenSpec.ofChange panelNamesWrong)

/-- 'furrowworkslaw09.PanelSpare': WHATEVER THE INPUT: true; the input reads as it did. -/
def panelSpareSpec : ChangeSpec := { name := "panelSpare", fn := fun _ => fun
  | [d] => { results := [.lit (.bool true)], args := [d] }
  | _ => none }
def panelSpareRow : OpenClaim := { program := "ytbdmmikflkpmpaa", sum := "2eb685cd2de0348b8b78fffa6a03876b160818f04d87857798cfd79e383f0d04", func := "furrowworks/furrowworkslaw09.PanelSpare", spec := "panelSpare", unfollowed := true, recurses := true, plainKeys := false, apart := false }
def PanelSpareSaid : Prop := panelSpareRow.holds Try.pinned (OpenSpec.ofChange panelSpareSpec)

/-- ITS FALSE NEIGHBOUR: 'it returns false'. Refute it at one input. -/
def panelSpareWrong : ChangeSpec := { name := "panelSpare", fn := fun _ => fun
  | [d] => { results := [.lit (.bool false)], args := [d] }
  | _ => none }
def PanelSpareWrongFalsely : Prop := panelSpareRow.holds Try.pinned (OpenSpec.ofChange panelSpareWrong)

/-- 'furrowworkslaw09.PanelTurned': WHATEVER THE INPUT: true; the input reads as it did. -/
def panelTurnedSpec : ChangeSpec := { name := "panelTurned", fn := fun _ => fun
  | [d1, d2, d3] => { results := [.lit (.bool true)], args := [d1, d2, d3] }
  | _ => none }
def panelTurnedRow : OpenClaim := { program := "ytbdmmikflkpmpaa", sum := "2eb685cd2de0348b8b78fffa6a03876b160818f04d87857798cfd79e383f0d04", func := "furrowworks/furrowworkslaw09.PanelTurned", spec := "panelTurned", unfollowed := true, recurses := true, plainKeys := false, apart := false }
def PanelTurnedSaid : Prop := panelTurnedRow.holds Try.pinned (OpenSpec.ofChange panelTurnedSpec)

/-- ITS FALSE NEIGHBOUR: 'it returns false'. Refute it at one input. -/
def panelTurnedWrong : ChangeSpec := { name := "panelTurned", fn := fun _ => fun
  | [d1, d2, d3] => { results := [.lit (.bool false)], args := [d1, d2, d3] }
  | _ => none }
def PanelTurnedWrongFalsely : Prop := panelTurnedRow.holds Try.pinned (OpenSpec.ofChange panelTurnedWrong)

/- THE SECOND FORM. 'bulk': how many values and letters a reading holds, each counted each time it is reached (what is shared counts as often as it is met; a slice's spare places count too). A statement '..UptoSaid' is the law's where the arguments, and the package variables that the reading takes, are together of bulk at most 1048576: NARROWER than '..Said'. Prove '..Said' where nothing that the law and all that it calls make is longer than what came in: it says more and counts as full. Else prove '..UptoSaid'. A law counts once. -/
mutual
def uptoBulk {H : Type} : DataW H → Nat
  | .lit (.string bytes) => bytes.length + 1
  | .lit _ => 1
  | .nil => 1
  | .ptr d => uptoBulk d + 1
  | .slice elems spare => uptoBulkAll elems + uptoBulkAll spare + 1
  | .agg parts => uptoBulkAll parts + 1
  | .iface _ d => uptoBulk d + 1
  | .map entries => uptoBulkEntries entries + 1
  | .held _ => 1
def uptoBulkAll {H : Type} : List (DataW H) → Nat
  | [] => 0
  | d :: r => uptoBulk d + uptoBulkAll r
def uptoBulkEntries {H : Type} : List (Lit × DataW H) → Nat
  | [] => 0
  | x :: r => uptoBulkEntry x + uptoBulkEntries r
def uptoBulkEntry {H : Type} : Lit × DataW H → Nat
  | (.string bytes, d) => bytes.length + uptoBulk d + 1
  | (_, d) => uptoBulk d + 1
 end
def uptoSmall : (H : Type) → List (DataW H) → Bool := fun _ ds => decide (uptoBulkAll ds ≤ 1048576)
def OpenSpec.upto (s : _root_.Go.ChangeSpec) : _root_.Go.OpenSpec := { _root_.Go.OpenSpec.ofChange s with cond := some uptoSmall }

/-- 'furrowworkslaw09.PanelSits', WHERE WHAT IT READS IS OF BULK AT MOST 1048576: true; the input reads as it did. -/
def panelSitsUptoRow : OpenClaim := { program := "ytbdmmikflkpmpaa", sum := "2eb685cd2de0348b8b78fffa6a03876b160818f04d87857798cfd79e383f0d04", func := "furrowworks/furrowworkslaw09.PanelSits", spec := "panelSits", unfollowed := true, recurses := true, plainKeys := false, apart := false, narrowed := true }
def PanelSitsUptoSaid : Prop := panelSitsUptoRow.holds Try.pinned (OpenSpec.upto panelSitsSpec)

/-- 'furrowworkslaw09.PanelSeating', WHERE WHAT IT READS IS OF BULK AT MOST 1048576: true; the input reads as it did. -/
def panelSeatingUptoRow : OpenClaim := { program := "ytbdmmikflkpmpaa", sum := "2eb685cd2de0348b8b78fffa6a03876b160818f04d87857798cfd79e383f0d04", func := "furrowworks/furrowworkslaw09.PanelSeating", spec := "panelSeating", unfollowed := true, recurses := true, plainKeys := false, apart := false, narrowed := true }
def PanelSeatingUptoSaid : Prop := panelSeatingUptoRow.holds Try.pinned (OpenSpec.upto panelSeatingSpec)

/-- 'furrowworkslaw09.PanelShort', WHERE WHAT IT READS IS OF BULK AT MOST 1048576: true; the input reads as it did. -/
def panelShortUptoRow : OpenClaim := { program := "ytbdmmikflkpmpaa", sum := "2eb685cd2de0348b8b78fffa6a03876b160818f04d87857798cfd79e383f0d04", func := "furrowworks/furrowworkslaw09.PanelShort", spec := "panelShort", unfollowed := true, recurses := true, plainKeys := false, apart := false, narrowed := true }
def PanelShortUptoSaid : Prop := panelShortUptoRow.holds Try.pinned (OpenSpec.upto panelShortSpec)

/-- 'furrowworkstop.TopKin', WHERE WHAT IT READS IS OF BULK AT MOST 1048576: true; the input reads as it did. -/
def topKinUptoRow : OpenClaim := { program := "ytbdmmikflkpmpaa", sum := "2eb685cd2de0348b8b78fffa6a03876b160818f04d87857798cfd79e383f0d04", func := "furrowworks/furrowworkstop.TopKin", spec := "topKin", unfollowed := true, recurses := true, plainKeys := false, apart := false, narrowed := true }
def TopKinUptoSaid : Prop := topKinUptoRow.holds Try.pinned (OpenSpec.upto topKinSpec)

/-- 'furrowworkslaw09.PanelWaive', WHERE WHAT IT READS IS OF BULK AT MOST 1048576: true; the input reads as it did. -/
def panelWaiveUptoRow : OpenClaim := { program := "ytbdmmikflkpmpaa", sum := "2eb685cd2de0348b8b78fffa6a03876b160818f04d87857798cfd79e383f0d04", func := "furrowworks/furrowworkslaw09.PanelWaive", spec := "panelWaive", unfollowed := true, recurses := true, plainKeys := false, apart := false, narrowed := true }
def PanelWaiveUptoSaid : Prop := panelWaiveUptoRow.holds Try.pinned (OpenSpec.upto panelWaiveSpec)

/-- 'furrowworkslaw09.PanelMore', WHERE WHAT IT READS IS OF BULK AT MOST 1048576: true; the input reads as it did. -/
def panelMoreUptoRow : OpenClaim := { program := "ytbdmmikflkpmpaa", sum := "2eb685cd2de0348b8b78fffa6a03876b160818f04d87857798cfd79e383f0d04", func := "furrowworks/furrowworkslaw09.PanelMore", spec := "panelMore", unfollowed := true, recurses := true, plainKeys := false, apart := false, narrowed := true }
def PanelMoreUptoSaid : Prop := panelMoreUptoRow.holds Try.pinned (OpenSpec.upto panelMoreSpec)

/-- 'furrowworkslaw09.PanelFills', WHERE WHAT IT READS IS OF BULK AT MOST 1048576: true; the input reads as it did. -/
def panelFillsUptoRow : OpenClaim := { program := "ytbdmmikflkpmpaa", sum := "2eb685cd2de0348b8b78fffa6a03876b160818f04d87857798cfd79e383f0d04", func := "furrowworks/furrowworkslaw09.PanelFills", spec := "panelFills", unfollowed := true, recurses := true, plainKeys := false, apart := false, narrowed := true }
def PanelFillsUptoSaid : Prop := panelFillsUptoRow.holds Try.pinned (OpenSpec.upto panelFillsSpec)

/-- 'furrowworkslaw09.PanelNames', WHERE WHAT IT READS IS OF BULK AT MOST 1048576: true; the input reads as it did. -/
def panelNamesUptoRow : OpenClaim := { program := "ytbdmmikflkpmpaa", sum := "2eb685cd2de0348b8b78fffa6a03876b160818f04d87857798cfd79e383f0d04", func := "furrowworks/furrowworkslaw09.PanelNames", spec := "panelNames", unfollowed := true, recurses := true, plainKeys := false, apart := false, narrowed := true }
def PanelNamesUptoSaid : Prop := panelNamesUptoRow.holds Try.pinned (OpenSpec.upto panelNamesSpec)

/-- 'furrowworkslaw09.PanelSpare', WHERE WHAT IT READS IS OF BULK AT MOST 1048576: true; the input reads as it did. -/
def panelSpareUptoRow : OpenClaim := { program := "ytbdmmikflkpmpaa", sum := "2eb685cd2de0348b8b78fffa6a03876b160818f04d87857798cfd79e383f0d04", func := "furrowworks/furrowworkslaw09.PanelSpare", spec := "panelSpare", unfollowed := true, recurses := true, plainKeys := false, apart := false, narrowed := true }
def PanelSpareUptoSaid : Prop := panelSpareUptoRow.holds Try.pinned (OpenSpec.upto panelSpareSpec)

/-- 'furrowworkslaw09.PanelTurned', WHERE WHAT IT READS IS OF BULK AT MOST 1048576: true; the input reads as it did. -/
def panelTurnedUptoRow : OpenClaim := { program := "ytbdmmikflkpmpaa", sum := "2eb685cd2de0348b8b78fffa6a03876b160818f04d87857798cfd79e383f0d04", func := "furrowworks/furrowworkslaw09.PanelTurned", spec := "panelTurned", unfollowed := true, recurses := true, plainKeys := false, apart := false, narrowed := true }
def PanelTurnedUptoSaid : Prop := panelTurnedUptoRow.holds Try.pinned (OpenSpec.upto panelTurnedSpec)

end Rows
end Go.Proofs.Ytbdmmikflkpmpaa
