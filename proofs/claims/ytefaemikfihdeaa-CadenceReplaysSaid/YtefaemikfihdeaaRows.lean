/-
  No cell of these rows narrows 'for every input' (looked for: loops, veiled, ifaces, maps, wideKeys, modest, calm, conditions, laid).
  DERIVED. THE GIVEN ROWS OF THIS SEAT. 6 by the template 'for every input the law returns true; each argument reads behind the call as it read before'; 0 by the template 'total and deterministic' (their statements: YtefaemikfihdeaaTotals.lean).
  GIVEN WITH THE SEED: the statements are not yours to turn. If you find one false, say at which input.
  Laid BY PROGRAM, IN A SANDBOX (cutbox-rows.mjs): the forced cells as the released guide's own fill.sh prints them over the translation 2809192eebc154a7… (all of the seat's roots in one cut). By AI agents, Wed Nov 11 2026. No macro, syntax, notation, axiom, sorry.
-/
import Derived.Test.YtefaemikfihdeaaChecked
import GoSem.Claim
import GoSem.ClaimJoined
import GoSem.ClaimMapViews
import Derived.JoinedTies
import Derived.KernelRfl
namespace Go.Proofs.Ytefaemikfihdeaa
/- THE CELL 'sum', in the pinned program and in every row, IS THE sha256 OF THE DUMP (.gsa) THAT YtefaemikfihdeaaProg.lean LOADS. Nothing in Lean hashes anything: it is a label: what it is worth is what the hold of that sum in a sandbox is worth. -/
noncomputable def Try.pinned : Pinned := { name := "ytefaemikfihdeaa", sum := "2809192eebc154a7910a73ec900e07e6fafbaf7d3ba59872241fe4054e783c6d", checked := Try.checked }
namespace Rows
def none {H : Type} : Left H := { results := [], args := [] }

/-- 'observatorylaw24.CadenceWider': WHATEVER THE INPUT: true; the input reads as it did. -/
def cadenceWiderSpec : ChangeSpec := { name := "cadenceWider", fn := fun _ => fun
  | [d1, d2, d3, d4, d5] => { results := [.lit (.bool true)], args := [d1, d2, d3, d4, d5] }
  | _ => none }
def cadenceWiderRow : OpenClaim := { program := "ytefaemikfihdeaa", sum := "2809192eebc154a7910a73ec900e07e6fafbaf7d3ba59872241fe4054e783c6d", func := "observatory/observatorylaw24.CadenceWider", spec := "cadenceWider", unfollowed := true, recurses := true, apart := false }
def CadenceWiderSaid : Prop := cadenceWiderRow.holds Try.pinned (OpenSpec.ofChange cadenceWiderSpec)

/-- ITS FALSE NEIGHBOUR: 'it returns false'. Refute it at one input. -/
def cadenceWiderWrong : ChangeSpec := { name := "cadenceWider", fn := fun _ => fun
  | [d1, d2, d3, d4, d5] => { results := [.lit (.bool false)], args := [d1, d2, d3, d4, d5] }
  | _ => none }
def CadenceWiderWrongFalsely : Prop := cadenceWiderRow.holds Try.pinned (OpenSpec.ofChange cadenceWiderWrong)

/-- 'observatorylaw24.CadenceLater': WHATEVER THE INPUT: true; the input reads as it did. -/
def cadenceLaterSpec : ChangeSpec := { name := "cadenceLater", fn := fun _ => fun
  | [d1, d2, d3] => { results := [.lit (.bool true)], args := [d1, d2, d3] }
  | _ => none }
def cadenceLaterRow : OpenClaim := { program := "ytefaemikfihdeaa", sum := "2809192eebc154a7910a73ec900e07e6fafbaf7d3ba59872241fe4054e783c6d", func := "observatory/observatorylaw24.CadenceLater", spec := "cadenceLater", unfollowed := true, recurses := true, apart := false }
def CadenceLaterSaid : Prop := cadenceLaterRow.holds Try.pinned (OpenSpec.ofChange cadenceLaterSpec)

/-- ITS FALSE NEIGHBOUR: 'it returns false'. Refute it at one input. -/
def cadenceLaterWrong : ChangeSpec := { name := "cadenceLater", fn := fun _ => fun
  | [d1, d2, d3] => { results := [.lit (.bool false)], args := [d1, d2, d3] }
  | _ => none }
def CadenceLaterWrongFalsely : Prop := cadenceLaterRow.holds Try.pinned (OpenSpec.ofChange cadenceLaterWrong)

/-- 'observatorylaw24.CadenceMatchesReference': WHATEVER THE INPUT: true; the input reads as it did. -/
def cadenceMatchesReferenceSpec : ChangeSpec := { name := "cadenceMatchesReference", fn := fun _ => fun
  | [d1, d2, d3, d4] => { results := [.lit (.bool true)], args := [d1, d2, d3, d4] }
  | _ => none }
def cadenceMatchesReferenceRow : OpenClaim := { program := "ytefaemikfihdeaa", sum := "2809192eebc154a7910a73ec900e07e6fafbaf7d3ba59872241fe4054e783c6d", func := "observatory/observatorylaw24.CadenceMatchesReference", spec := "cadenceMatchesReference", unfollowed := true, recurses := true, apart := false }
def CadenceMatchesReferenceSaid : Prop := cadenceMatchesReferenceRow.holds Try.pinned (OpenSpec.ofChange cadenceMatchesReferenceSpec)

/-- ITS FALSE NEIGHBOUR: 'it returns false'. Refute it at one input. -/
def cadenceMatchesReferenceWrong : ChangeSpec := { name := "cadenceMatchesReference", fn := fun _ => fun
  | [d1, d2, d3, d4] => { results := [.lit (.bool false)], args := [d1, d2, d3, d4] }
  | _ => none }
def CadenceMatchesReferenceWrongFalsely : Prop := cadenceMatchesReferenceRow.holds Try.pinned (OpenSpec.ofChange cadenceMatchesReferenceWrong)

/-- 'observatorylaw24.CadenceWindows': WHATEVER THE INPUT: true; the input reads as it did. -/
def cadenceWindowsSpec : ChangeSpec := { name := "cadenceWindows", fn := fun _ => fun
  | [d1, d2, d3] => { results := [.lit (.bool true)], args := [d1, d2, d3] }
  | _ => none }
def cadenceWindowsRow : OpenClaim := { program := "ytefaemikfihdeaa", sum := "2809192eebc154a7910a73ec900e07e6fafbaf7d3ba59872241fe4054e783c6d", func := "observatory/observatorylaw24.CadenceWindows", spec := "cadenceWindows", unfollowed := true, recurses := true, apart := false }
def CadenceWindowsSaid : Prop := cadenceWindowsRow.holds Try.pinned (OpenSpec.ofChange cadenceWindowsSpec)

/-- ITS FALSE NEIGHBOUR: 'it returns false'. Refute it at one input. -/
def cadenceWindowsWrong : ChangeSpec := { name := "cadenceWindows", fn := fun _ => fun
  | [d1, d2, d3] => { results := [.lit (.bool false)], args := [d1, d2, d3] }
  | _ => none }
def CadenceWindowsWrongFalsely : Prop := cadenceWindowsRow.holds Try.pinned (OpenSpec.ofChange cadenceWindowsWrong)

/-- 'observatorylaw24.CadenceAdvances': WHATEVER THE INPUT: true; the input reads as it did. -/
def cadenceAdvancesSpec : ChangeSpec := { name := "cadenceAdvances", fn := fun _ => fun
  | [d1, d2, d3] => { results := [.lit (.bool true)], args := [d1, d2, d3] }
  | _ => none }
def cadenceAdvancesRow : OpenClaim := { program := "ytefaemikfihdeaa", sum := "2809192eebc154a7910a73ec900e07e6fafbaf7d3ba59872241fe4054e783c6d", func := "observatory/observatorylaw24.CadenceAdvances", spec := "cadenceAdvances", unfollowed := true, recurses := true, apart := false }
def CadenceAdvancesSaid : Prop := cadenceAdvancesRow.holds Try.pinned (OpenSpec.ofChange cadenceAdvancesSpec)

/-- ITS FALSE NEIGHBOUR: 'it returns false'. Refute it at one input. -/
def cadenceAdvancesWrong : ChangeSpec := { name := "cadenceAdvances", fn := fun _ => fun
  | [d1, d2, d3] => { results := [.lit (.bool false)], args := [d1, d2, d3] }
  | _ => none }
def CadenceAdvancesWrongFalsely : Prop := cadenceAdvancesRow.holds Try.pinned (OpenSpec.ofChange cadenceAdvancesWrong)

/-- 'observatorylaw24.CadenceReplays': WHATEVER THE INPUT: true; the input reads as it did. -/
def cadenceReplaysSpec : ChangeSpec := { name := "cadenceReplays", fn := fun _ => fun
  | [d1, d2, d3, d4] => { results := [.lit (.bool true)], args := [d1, d2, d3, d4] }
  | _ => none }
def cadenceReplaysRow : OpenClaim := { program := "ytefaemikfihdeaa", sum := "2809192eebc154a7910a73ec900e07e6fafbaf7d3ba59872241fe4054e783c6d", func := "observatory/observatorylaw24.CadenceReplays", spec := "cadenceReplays", unfollowed := true, recurses := true, apart := false }
def CadenceReplaysSaid : Prop := cadenceReplaysRow.holds Try.pinned (OpenSpec.ofChange cadenceReplaysSpec)

/-- ITS FALSE NEIGHBOUR: 'it returns false'. Refute it at one input. -/
def cadenceReplaysWrong : ChangeSpec := { name := "cadenceReplays", fn := fun _ => fun
  | [d1, d2, d3, d4] => { results := [.lit (.bool false)], args := [d1, d2, d3, d4] }
  | _ => none }
def CadenceReplaysWrongFalsely : Prop := cadenceReplaysRow.holds Try.pinned (OpenSpec.ofChange cadenceReplaysWrong)

/- THE SECOND FORM. 'bulk': how many values and letters a reading holds, each counted each time it is reached (what is shared counts as often as it is met; a slice's spare places count too). A statement '..UptoSaid' is the law's where the arguments, and the package variables that the reading takes, are together of bulk at most 1048576: NARROWER than '..Said'. Prove '..Said' where nothing that the law and all that it calls make is longer than what came in: it says more and counts as full. Else prove '..UptoSaid'. A law counts once. -/
mutual
def uptoBulk {H : Type} : DataW H → Nat
  | .lit (.string bytes) => bytes.length + 1
  | .lit _ => 1
  | .nil => 1
  | .ptr d => uptoBulk d + 1
  | .slice elems spare => uptoBulkAll elems + uptoBulkAll spare + 1
  | .agg parts => uptoBulkAll parts + 1
  | .iface _ d => uptoBulk d + 1
  | .map entries => uptoBulkEntries entries + 1
  | .held _ => 1
def uptoBulkAll {H : Type} : List (DataW H) → Nat
  | [] => 0
  | d :: r => uptoBulk d + uptoBulkAll r
def uptoBulkEntries {H : Type} : List (Lit × DataW H) → Nat
  | [] => 0
  | x :: r => uptoBulkEntry x + uptoBulkEntries r
def uptoBulkEntry {H : Type} : Lit × DataW H → Nat
  | (.string bytes, d) => bytes.length + uptoBulk d + 1
  | (_, d) => uptoBulk d + 1
 end
def uptoSmall : (H : Type) → List (DataW H) → Bool := fun _ ds => decide (uptoBulkAll ds ≤ 1048576)
def OpenSpec.upto (s : _root_.Go.ChangeSpec) : _root_.Go.OpenSpec := { _root_.Go.OpenSpec.ofChange s with cond := some uptoSmall }

/-- 'observatorylaw24.CadenceWider', WHERE WHAT IT READS IS OF BULK AT MOST 1048576: true; the input reads as it did. -/
def cadenceWiderUptoRow : OpenClaim := { program := "ytefaemikfihdeaa", sum := "2809192eebc154a7910a73ec900e07e6fafbaf7d3ba59872241fe4054e783c6d", func := "observatory/observatorylaw24.CadenceWider", spec := "cadenceWider", unfollowed := true, recurses := true, apart := false, narrowed := true }
def CadenceWiderUptoSaid : Prop := cadenceWiderUptoRow.holds Try.pinned (OpenSpec.upto cadenceWiderSpec)

/-- 'observatorylaw24.CadenceLater', WHERE WHAT IT READS IS OF BULK AT MOST 1048576: true; the input reads as it did. -/
def cadenceLaterUptoRow : OpenClaim := { program := "ytefaemikfihdeaa", sum := "2809192eebc154a7910a73ec900e07e6fafbaf7d3ba59872241fe4054e783c6d", func := "observatory/observatorylaw24.CadenceLater", spec := "cadenceLater", unfollowed := true, recurses := true, apart := false, narrowed := true }
def CadenceLaterUptoSaid : Prop := cadenceLaterUptoRow.holds Try.pinned (OpenSpec.upto cadenceLaterSpec)

/-- 'observatorylaw24.CadenceMatchesReference', WHERE WHAT IT READS IS OF BULK AT MOST 1048576: true; the input reads as it did. -/
def cadenceMatchesReferenceUptoRow : OpenClaim := { program := "ytefaemikfihdeaa", sum := "2809192eebc154a7910a73ec900e07e6fafbaf7d3ba59872241fe4054e783c6d", func := "observatory/observatorylaw24.CadenceMatchesReference", spec := "cadenceMatchesReference", unfollowed := true, recurses := true, apart := false, narrowed := true }
def CadenceMatchesReferenceUptoSaid : Prop := cadenceMatchesReferenceUptoRow.holds Try.pinned (OpenSpec.upto cadenceMatchesReferenceSpec)

/-- 'observatorylaw24.CadenceWindows', WHERE WHAT IT READS IS OF BULK AT MOST 1048576: true; the input reads as it did. -/
def cadenceWindowsUptoRow : OpenClaim := { program := "ytefaemikfihdeaa", sum := "2809192eebc154a7910a73ec900e07e6fafbaf7d3ba59872241fe4054e783c6d", func := "observatory/observatorylaw24.CadenceWindows", spec := "cadenceWindows", unfollowed := true, recurses := true, apart := false, narrowed := true }
def CadenceWindowsUptoSaid : Prop := cadenceWindowsUptoRow.holds Try.pinned (OpenSpec.upto cadenceWindowsSpec)

/-- 'observatorylaw24.CadenceAdvances', WHERE WHAT IT READS IS OF BULK AT MOST 1048576: true; the input reads as it did. -/
def cadenceAdvancesUptoRow : OpenClaim := { program := "ytefaemikfihdeaa", sum := "2809192eebc154a7910a73ec900e07e6fafbaf7d3ba59872241fe4054e783c6d", func := "observatory/observatorylaw24.CadenceAdvances", spec := "cadenceAdvances", unfollowed := true, recurses := true, apart := false, narrowed := true }
def CadenceAdvancesUptoSaid : Prop := cadenceAdvancesUptoRow.holds Try.pinned (OpenSpec.upto cadenceAdvancesSpec)

/-- 'observatorylaw24.CadenceReplays', WHERE WHAT IT READS IS OF BULK AT MOST 1048576: true; the input reads as it did. -/
def cadenceReplaysUptoRow : OpenClaim := { program := "ytefaemikfihdeaa", sum := "2809192eebc154a7910a73ec900e07e6fafbaf7d3ba59872241fe4054e783c6d", func := "observatory/observatorylaw24.CadenceReplays", spec := "cadenceReplays", unfollowed := true, recurses := true, apart := false, narrowed := true }
def CadenceReplaysUptoSaid : Prop := cadenceReplaysUptoRow.holds Try.pinned (OpenSpec.upto cadenceReplaysSpec)

end Rows
end Go.Proofs.Ytefaemikfihdeaa
