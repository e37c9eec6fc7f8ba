/-
  No cell of these rows narrows 'for every input' (looked for: loops, veiled, ifaces, maps, wideKeys, modest, calm, conditions, laid).
  DERIVED. THE GIVEN ROWS OF THIS SEAT. 6 by the template 'for every input the law returns true; each argument reads behind the call as it read before'; 0 by the template 'total and deterministic' (their statements: YtgagnoijnhhegaaTotals.lean).
  GIVEN WITH THE SEED: the statements are not yours to turn. If you find one false, say at which input.
  Laid BY PROGRAM, IN A SANDBOX (cutbox-rows.mjs): the forced cells as the released guide's own fill.sh prints them over the translation 4ea532d054f47ad7… (all of the seat's roots in one cut). By AI agents, Wed Nov 11 2026. No macro, syntax, notation, axiom, sorry.
-/
import Derived.Test.YtgagnoijnhhegaaChecked
import GoSem.Claim
import GoSem.ClaimJoined
import GoSem.ClaimMapViews
import Derived.JoinedTies
import Derived.KernelRfl
namespace Go.Proofs.Ytgagnoijnhhegaa
/- THE CELL 'sum', in the pinned program and in every row, IS THE sha256 OF THE DUMP (.gsa) THAT YtgagnoijnhhegaaProg.lean LOADS. Nothing in Lean hashes anything: it is a label: what it is worth is what the hold of that sum in a sandbox is worth. -/
noncomputable def Try.pinned : Pinned := { name := "ytgagnoijnhhegaa", sum := "4ea532d054f47ad74dfe465e3175c5c99d9f456cadfa03e1fe6f85bdfc898529", checked := Try.checked }
namespace Rows
def none {H : Type} : Left H := { results := [], args := [] }

/-- 'observatorylaw15.DetectorMatchesReference': WHATEVER THE INPUT: true; the input reads as it did. -/
def detectorMatchesReferenceSpec : ChangeSpec := { name := "detectorMatchesReference", fn := fun _ => fun
  | [d1, d2, d3, d4, d5, d6] => { results := [.lit (.bool true)], args := [d1, d2, d3, d4, d5, d6] }
  | _ => none }
def detectorMatchesReferenceRow : OpenClaim := { program := "ytgagnoijnhhegaa", sum := "4ea532d054f47ad74dfe465e3175c5c99d9f456cadfa03e1fe6f85bdfc898529", func := "observatory/observatorylaw15.DetectorMatchesReference", spec := "detectorMatchesReference", unfollowed := true, recurses := true, apart := false }
def DetectorMatchesReferenceSaid : Prop := detectorMatchesReferenceRow.holds Try.pinned (OpenSpec.ofChange detectorMatchesReferenceSpec)

/-- ITS FALSE NEIGHBOUR: 'it returns false'. Refute it at one input. -/
def detectorMatchesReferenceWrong : ChangeSpec := { name := "detectorMatchesReference", fn := fun _ => fun
  | [d1, d2, d3, d4, d5, d6] => { results := [.lit (.bool false)], args := [d1, d2, d3, d4, d5, d6] }
  | _ => none }
def DetectorMatchesReferenceWrongFalsely : Prop := detectorMatchesReferenceRow.holds Try.pinned (OpenSpec.ofChange detectorMatchesReferenceWrong)

/-- 'observatorylaw15.DetectorResults': WHATEVER THE INPUT: true; the input reads as it did. -/
def detectorResultsSpec : ChangeSpec := { name := "detectorResults", fn := fun _ => fun
  | [d1, d2, d3, d4, d5] => { results := [.lit (.bool true)], args := [d1, d2, d3, d4, d5] }
  | _ => none }
def detectorResultsRow : OpenClaim := { program := "ytgagnoijnhhegaa", sum := "4ea532d054f47ad74dfe465e3175c5c99d9f456cadfa03e1fe6f85bdfc898529", func := "observatory/observatorylaw15.DetectorResults", spec := "detectorResults", unfollowed := true, recurses := true, apart := false }
def DetectorResultsSaid : Prop := detectorResultsRow.holds Try.pinned (OpenSpec.ofChange detectorResultsSpec)

/-- ITS FALSE NEIGHBOUR: 'it returns false'. Refute it at one input. -/
def detectorResultsWrong : ChangeSpec := { name := "detectorResults", fn := fun _ => fun
  | [d1, d2, d3, d4, d5] => { results := [.lit (.bool false)], args := [d1, d2, d3, d4, d5] }
  | _ => none }
def DetectorResultsWrongFalsely : Prop := detectorResultsRow.holds Try.pinned (OpenSpec.ofChange detectorResultsWrong)

/-- 'observatorylaw15.DetectorGrows': WHATEVER THE INPUT: true; the input reads as it did. -/
def detectorGrowsSpec : ChangeSpec := { name := "detectorGrows", fn := fun _ => fun
  | [d1, d2, d3, d4, d5, d6, d7, d8] => { results := [.lit (.bool true)], args := [d1, d2, d3, d4, d5, d6, d7, d8] }
  | _ => none }
def detectorGrowsRow : OpenClaim := { program := "ytgagnoijnhhegaa", sum := "4ea532d054f47ad74dfe465e3175c5c99d9f456cadfa03e1fe6f85bdfc898529", func := "observatory/observatorylaw15.DetectorGrows", spec := "detectorGrows", unfollowed := true, recurses := true, apart := false }
def DetectorGrowsSaid : Prop := detectorGrowsRow.holds Try.pinned (OpenSpec.ofChange detectorGrowsSpec)

/-- ITS FALSE NEIGHBOUR: 'it returns false'. Refute it at one input. -/
def detectorGrowsWrong : ChangeSpec := { name := "detectorGrows", fn := fun _ => fun
  | [d1, d2, d3, d4, d5, d6, d7, d8] => { results := [.lit (.bool false)], args := [d1, d2, d3, d4, d5, d6, d7, d8] }
  | _ => none }
def DetectorGrowsWrongFalsely : Prop := detectorGrowsRow.holds Try.pinned (OpenSpec.ofChange detectorGrowsWrong)

/-- 'observatorylaw15.DetectorCells': WHATEVER THE INPUT: true; the input reads as it did. -/
def detectorCellsSpec : ChangeSpec := { name := "detectorCells", fn := fun _ => fun
  | [d1, d2, d3, d4, d5, d6, d7, d8, d9] => { results := [.lit (.bool true)], args := [d1, d2, d3, d4, d5, d6, d7, d8, d9] }
  | _ => none }
def detectorCellsRow : OpenClaim := { program := "ytgagnoijnhhegaa", sum := "4ea532d054f47ad74dfe465e3175c5c99d9f456cadfa03e1fe6f85bdfc898529", func := "observatory/observatorylaw15.DetectorCells", spec := "detectorCells", unfollowed := true, recurses := true, apart := false }
def DetectorCellsSaid : Prop := detectorCellsRow.holds Try.pinned (OpenSpec.ofChange detectorCellsSpec)

/-- ITS FALSE NEIGHBOUR: 'it returns false'. Refute it at one input. -/
def detectorCellsWrong : ChangeSpec := { name := "detectorCells", fn := fun _ => fun
  | [d1, d2, d3, d4, d5, d6, d7, d8, d9] => { results := [.lit (.bool false)], args := [d1, d2, d3, d4, d5, d6, d7, d8, d9] }
  | _ => none }
def DetectorCellsWrongFalsely : Prop := detectorCellsRow.holds Try.pinned (OpenSpec.ofChange detectorCellsWrong)

/-- 'observatorylaw15.DetectorAccurate': WHATEVER THE INPUT: true; the input reads as it did. -/
def detectorAccurateSpec : ChangeSpec := { name := "detectorAccurate", fn := fun _ => fun
  | [d1, d2, d3] => { results := [.lit (.bool true)], args := [d1, d2, d3] }
  | _ => none }
def detectorAccurateRow : OpenClaim := { program := "ytgagnoijnhhegaa", sum := "4ea532d054f47ad74dfe465e3175c5c99d9f456cadfa03e1fe6f85bdfc898529", func := "observatory/observatorylaw15.DetectorAccurate", spec := "detectorAccurate", unfollowed := true, recurses := true, apart := false }
def DetectorAccurateSaid : Prop := detectorAccurateRow.holds Try.pinned (OpenSpec.ofChange detectorAccurateSpec)

/-- ITS FALSE NEIGHBOUR: 'it returns false'. Refute it at one input. -/
def detectorAccurateWrong : ChangeSpec := { name := "detectorAccurate", fn := fun _ => fun
  | [d1, d2, d3] => { results := [.lit (.bool false)], args := [d1, d2, d3] }
  | _ => none }
def DetectorAccurateWrongFalsely : Prop := detectorAccurateRow.holds Try.pinned (OpenSpec.ofChange detectorAccurateWrong)

/-- 'observatorylaw15.DetectorSaturates': WHATEVER THE INPUT: true; the input reads as it did. -/
def detectorSaturatesSpec : ChangeSpec := { name := "detectorSaturates", fn := fun _ => fun
  | [d1, d2, d3, d4] => { results := [.lit (.bool true)], args := [d1, d2, d3, d4] }
  | _ => none }
def detectorSaturatesRow : OpenClaim := { program := "ytgagnoijnhhegaa", sum := "4ea532d054f47ad74dfe465e3175c5c99d9f456cadfa03e1fe6f85bdfc898529", func := "observatory/observatorylaw15.DetectorSaturates", spec := "detectorSaturates", unfollowed := true, recurses := true, apart := false }
def DetectorSaturatesSaid : Prop := detectorSaturatesRow.holds Try.pinned (OpenSpec.ofChange detectorSaturatesSpec)

/-- ITS FALSE NEIGHBOUR: 'it returns false'. Refute it at one input. -/
def detectorSaturatesWrong : ChangeSpec := { name := "detectorSaturates", fn := fun _ => fun
  | [d1, d2, d3, d4] => { results := [.lit (.bool false)], args := [d1, d2, d3, d4] }
  | _ => none }
def DetectorSaturatesWrongFalsely : Prop := detectorSaturatesRow.holds Try.pinned (OpenSpec.ofChange detectorSaturatesWrong)

/- THE SECOND FORM. 'bulk': how many values and letters a reading holds, each counted each time it is reached (what is shared counts as often as it is met; a slice's spare places count too). A statement '..UptoSaid' is the law's where the arguments, and the package variables that the reading takes, are together of bulk at most 1048576: NARROWER than '..Said'. Prove '..Said' where nothing that the law and all that it calls make is longer than what came in: it says more and counts as full. Else prove '..UptoSaid'. A law counts once. -/
mutual
def uptoBulk {H : Type} : DataW H → Nat
  | .lit (.string bytes) => bytes.length + 1
  | .lit _ => 1
  | .nil => 1
  | .ptr d => uptoBulk d + 1
  | .slice elems spare => uptoBulkAll elems + uptoBulkAll spare + 1
  | .agg parts => uptoBulkAll parts + 1
  | .iface _ d => uptoBulk d + 1
  | .map entries => uptoBulkEntries entries + 1
  | .held _ => 1
def uptoBulkAll {H : Type} : List (DataW H) → Nat
  | [] => 0
  | d :: r => uptoBulk d + uptoBulkAll r
def uptoBulkEntries {H : Type} : List (Lit × DataW H) → Nat
  | [] => 0
  | x :: r => uptoBulkEntry x + uptoBulkEntries r
def uptoBulkEntry {H : Type} : Lit × DataW H → Nat
  | (.string bytes, d) => bytes.length + uptoBulk d + 1
  | (_, d) => uptoBulk d + 1
 end
def uptoSmall : (H : Type) → List (DataW H) → Bool := fun _ ds => decide (uptoBulkAll ds ≤ 1048576)
def OpenSpec.upto (s : _root_.Go.ChangeSpec) : _root_.Go.OpenSpec := { _root_.Go.OpenSpec.ofChange s with cond := some uptoSmall }

/-- 'observatorylaw15.DetectorMatchesReference', WHERE WHAT IT READS IS OF BULK AT MOST 1048576: true; the input reads as it did. -/
def detectorMatchesReferenceUptoRow : OpenClaim := { program := "ytgagnoijnhhegaa", sum := "4ea532d054f47ad74dfe465e3175c5c99d9f456cadfa03e1fe6f85bdfc898529", func := "observatory/observatorylaw15.DetectorMatchesReference", spec := "detectorMatchesReference", unfollowed := true, recurses := true, apart := false, narrowed := true }
def DetectorMatchesReferenceUptoSaid : Prop := detectorMatchesReferenceUptoRow.holds Try.pinned (OpenSpec.upto detectorMatchesReferenceSpec)

/-- 'observatorylaw15.DetectorResults', WHERE WHAT IT READS IS OF BULK AT MOST 1048576: true; the input reads as it did. -/
def detectorResultsUptoRow : OpenClaim := { program := "ytgagnoijnhhegaa", sum := "4ea532d054f47ad74dfe465e3175c5c99d9f456cadfa03e1fe6f85bdfc898529", func := "observatory/observatorylaw15.DetectorResults", spec := "detectorResults", unfollowed := true, recurses := true, apart := false, narrowed := true }
def DetectorResultsUptoSaid : Prop := detectorResultsUptoRow.holds Try.pinned (OpenSpec.upto detectorResultsSpec)

/-- 'observatorylaw15.DetectorGrows', WHERE WHAT IT READS IS OF BULK AT MOST 1048576: true; the input reads as it did. -/
def detectorGrowsUptoRow : OpenClaim := { program := "ytgagnoijnhhegaa", sum := "4ea532d054f47ad74dfe465e3175c5c99d9f456cadfa03e1fe6f85bdfc898529", func := "observatory/observatorylaw15.DetectorGrows", spec := "detectorGrows", unfollowed := true, recurses := true, apart := false, narrowed := true }
def DetectorGrowsUptoSaid : Prop := detectorGrowsUptoRow.holds Try.pinned (OpenSpec.upto detectorGrowsSpec)

/-- 'observatorylaw15.DetectorCells', WHERE WHAT IT READS IS OF BULK AT MOST 1048576: true; the input reads as it did. -/
def detectorCellsUptoRow : OpenClaim := { program := "ytgagnoijnhhegaa", sum := "4ea532d054f47ad74dfe465e3175c5c99d9f456cadfa03e1fe6f85bdfc898529", func := "observatory/observatorylaw15.DetectorCells", spec := "detectorCells", unfollowed := true, recurses := true, apart := false, narrowed := true }
def DetectorCellsUptoSaid : Prop := detectorCellsUptoRow.holds Try.pinned (OpenSpec.upto detectorCellsSpec)

/-- 'observatorylaw15.DetectorAccurate', WHERE WHAT IT READS IS OF BULK AT MOST 1048576: true; the input reads as it did. -/
def detectorAccurateUptoRow : OpenClaim := { program := "ytgagnoijnhhegaa", sum := "4ea532d054f47ad74dfe465e3175c5c99d9f456cadfa03e1fe6f85bdfc898529", func := "observatory/observatorylaw15.DetectorAccurate", spec := "detectorAccurate", unfollowed := true, recurses := true, apart := false, narrowed := true }
def DetectorAccurateUptoSaid : Prop := detectorAccurateUptoRow.holds Try.pinned (OpenSpec.upto detectorAccurateSpec)

/-- 'observatorylaw15.DetectorSaturates', WHERE WHAT IT READS IS OF BULK AT MOST 1048576: true; the input reads as it did. -/
def detectorSaturatesUptoRow : OpenClaim := { program := "ytgagnoijnhhegaa", sum := "4ea532d054f47ad74dfe465e3175c5c99d9f456cadfa03e1fe6f85bdfc898529", func := "observatory/observatorylaw15.DetectorSaturates", spec := "detectorSaturates", unfollowed := true, recurses := true, apart := false, narrowed := true }
def DetectorSaturatesUptoSaid : Prop := detectorSaturatesUptoRow.holds Try.pinned (OpenSpec.upto detectorSaturatesSpec)

end Rows
end Go.Proofs.Ytgagnoijnhhegaa
