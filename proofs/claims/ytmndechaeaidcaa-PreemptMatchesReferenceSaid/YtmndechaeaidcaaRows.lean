/-
  No cell of these rows narrows 'for every input' (looked for: loops, veiled, ifaces, maps, wideKeys, modest, calm, conditions, laid).
  DERIVED. THE GIVEN ROWS OF THIS SEAT. 6 by the template 'for every input the law returns true; each argument reads behind the call as it read before'; 0 by the template 'total and deterministic' (their statements: YtmndechaeaidcaaTotals.lean).
  GIVEN WITH THE SEED: the statements are not yours to turn. If you find one false, say at which input.
  Laid BY PROGRAM, IN A SANDBOX (cutbox-rows.mjs): the forced cells as the released guide's own fill.sh prints them over the translation c435512412d5b9c8… (all of the seat's roots in one cut). By AI agents, Wed Nov 11 2026. No macro, syntax, notation, axiom, sorry.
-/
import Derived.Test.YtmndechaeaidcaaChecked
import GoSem.Claim
import GoSem.ClaimJoined
import GoSem.ClaimMapViews
import Derived.JoinedTies
import Derived.KernelRfl
namespace Go.Proofs.Ytmndechaeaidcaa
/- THE CELL 'sum', in the pinned program and in every row, IS THE sha256 OF THE DUMP (.gsa) THAT YtmndechaeaidcaaProg.lean LOADS. Nothing in Lean hashes anything: it is a label: what it is worth is what the hold of that sum in a sandbox is worth. -/
noncomputable def Try.pinned : Pinned := { name := "ytmndechaeaidcaa", sum := "c435512412d5b9c84bcfb51904882036a6327a515455979349255007261df776", checked := Try.checked }
namespace Rows
def none {H : Type} : Left H := { results := [], args := [] }

/-- 'observatorylaw40.PreemptMatchesReference': WHATEVER THE INPUT: true; the input reads as it did. -/
def preemptMatchesReferenceSpec : ChangeSpec := { name := "preemptMatchesReference", fn := fun _ => fun
  | [d1, d2, d3, d4, d5] => { results := [.lit (.bool true)], args := [d1, d2, d3, d4, d5] }
  | _ => none }
def preemptMatchesReferenceRow : OpenClaim := { program := "ytmndechaeaidcaa", sum := "c435512412d5b9c84bcfb51904882036a6327a515455979349255007261df776", func := "observatory/observatorylaw40.PreemptMatchesReference", spec := "preemptMatchesReference", unfollowed := true, recurses := true, apart := false }
def PreemptMatchesReferenceSaid : Prop := preemptMatchesReferenceRow.holds Try.pinned (OpenSpec.ofChange preemptMatchesReferenceSpec)

/-- ITS FALSE NEIGHBOUR: 'it returns false'. Refute it at one input. -/
def preemptMatchesReferenceWrong : ChangeSpec := { name := "preemptMatchesReference", fn := fun _ => fun
  | [d1, d2, d3, d4, d5] => { results := [.lit (.bool false)], args := [d1, d2, d3, d4, d5] }
  | _ => none }
def PreemptMatchesReferenceWrongFalsely : Prop := preemptMatchesReferenceRow.holds Try.pinned (OpenSpec.ofChange preemptMatchesReferenceWrong)

/-- 'observatorylaw40.PreemptBounded': WHATEVER THE INPUT: true; the input reads as it did. -/
def preemptBoundedSpec : ChangeSpec := { name := "preemptBounded", fn := fun _ => fun
  | [d1, d2, d3, d4] => { results := [.lit (.bool true)], args := [d1, d2, d3, d4] }
  | _ => none }
def preemptBoundedRow : OpenClaim := { program := "ytmndechaeaidcaa", sum := "c435512412d5b9c84bcfb51904882036a6327a515455979349255007261df776", func := "observatory/observatorylaw40.PreemptBounded", spec := "preemptBounded", unfollowed := true, recurses := true, apart := false }
def PreemptBoundedSaid : Prop := preemptBoundedRow.holds Try.pinned (OpenSpec.ofChange preemptBoundedSpec)

/-- ITS FALSE NEIGHBOUR: 'it returns false'. Refute it at one input. -/
def preemptBoundedWrong : ChangeSpec := { name := "preemptBounded", fn := fun _ => fun
  | [d1, d2, d3, d4] => { results := [.lit (.bool false)], args := [d1, d2, d3, d4] }
  | _ => none }
def PreemptBoundedWrongFalsely : Prop := preemptBoundedRow.holds Try.pinned (OpenSpec.ofChange preemptBoundedWrong)

/-- 'observatorylaw40.PreemptMore': WHATEVER THE INPUT: true; the input reads as it did. -/
def preemptMoreSpec : ChangeSpec := { name := "preemptMore", fn := fun _ => fun
  | [d1, d2, d3, d4] => { results := [.lit (.bool true)], args := [d1, d2, d3, d4] }
  | _ => none }
def preemptMoreRow : OpenClaim := { program := "ytmndechaeaidcaa", sum := "c435512412d5b9c84bcfb51904882036a6327a515455979349255007261df776", func := "observatory/observatorylaw40.PreemptMore", spec := "preemptMore", unfollowed := true, recurses := true, apart := false }
def PreemptMoreSaid : Prop := preemptMoreRow.holds Try.pinned (OpenSpec.ofChange preemptMoreSpec)

/-- ITS FALSE NEIGHBOUR: 'it returns false'. Refute it at one input. -/
def preemptMoreWrong : ChangeSpec := { name := "preemptMore", fn := fun _ => fun
  | [d1, d2, d3, d4] => { results := [.lit (.bool false)], args := [d1, d2, d3, d4] }
  | _ => none }
def PreemptMoreWrongFalsely : Prop := preemptMoreRow.holds Try.pinned (OpenSpec.ofChange preemptMoreWrong)

/-- 'observatorylaw40.PreemptApart': WHATEVER THE INPUT: true; the input reads as it did. -/
def preemptApartSpec : ChangeSpec := { name := "preemptApart", fn := fun _ => fun
  | [d1, d2, d3, d4] => { results := [.lit (.bool true)], args := [d1, d2, d3, d4] }
  | _ => none }
def preemptApartRow : OpenClaim := { program := "ytmndechaeaidcaa", sum := "c435512412d5b9c84bcfb51904882036a6327a515455979349255007261df776", func := "observatory/observatorylaw40.PreemptApart", spec := "preemptApart", unfollowed := true, recurses := true, apart := false }
def PreemptApartSaid : Prop := preemptApartRow.holds Try.pinned (OpenSpec.ofChange preemptApartSpec)

/-- ITS FALSE NEIGHBOUR: 'it returns false'. Refute it at one input. -/
def preemptApartWrong : ChangeSpec := { name := "preemptApart", fn := fun _ => fun
  | [d1, d2, d3, d4] => { results := [.lit (.bool false)], args := [d1, d2, d3, d4] }
  | _ => none }
def PreemptApartWrongFalsely : Prop := preemptApartRow.holds Try.pinned (OpenSpec.ofChange preemptApartWrong)

/-- 'observatorylaw40.PreemptScales': WHATEVER THE INPUT: true; the input reads as it did. -/
def preemptScalesSpec : ChangeSpec := { name := "preemptScales", fn := fun _ => fun
  | [d1, d2, d3, d4, d5] => { results := [.lit (.bool true)], args := [d1, d2, d3, d4, d5] }
  | _ => none }
def preemptScalesRow : OpenClaim := { program := "ytmndechaeaidcaa", sum := "c435512412d5b9c84bcfb51904882036a6327a515455979349255007261df776", func := "observatory/observatorylaw40.PreemptScales", spec := "preemptScales", unfollowed := true, recurses := true, apart := false }
def PreemptScalesSaid : Prop := preemptScalesRow.holds Try.pinned (OpenSpec.ofChange preemptScalesSpec)

/-- ITS FALSE NEIGHBOUR: 'it returns false'. Refute it at one input. -/
def preemptScalesWrong : ChangeSpec := { name := "preemptScales", fn := fun _ => fun
  | [d1, d2, d3, d4, d5] => { results := [.lit (.bool false)], args := [d1, d2, d3, d4, d5] }
  | _ => none }
def PreemptScalesWrongFalsely : Prop := preemptScalesRow.holds Try.pinned (OpenSpec.ofChange preemptScalesWrong)

/-- 'observatorylaw40.PreemptWorst': WHATEVER THE INPUT: true; the input reads as it did. -/
def preemptWorstSpec : ChangeSpec := { name := "preemptWorst", fn := fun _ => fun
  | [d1, d2, d3, d4] => { results := [.lit (.bool true)], args := [d1, d2, d3, d4] }
  | _ => none }
def preemptWorstRow : OpenClaim := { program := "ytmndechaeaidcaa", sum := "c435512412d5b9c84bcfb51904882036a6327a515455979349255007261df776", func := "observatory/observatorylaw40.PreemptWorst", spec := "preemptWorst", unfollowed := true, recurses := true, apart := false }
def PreemptWorstSaid : Prop := preemptWorstRow.holds Try.pinned (OpenSpec.ofChange preemptWorstSpec)

/-- ITS FALSE NEIGHBOUR: 'it returns false'. Refute it at one input. -/
def preemptWorstWrong : ChangeSpec := { name := "preemptWorst", fn := fun _ => fun
  | [d1, d2, d3, d4] => { results := [.lit (.bool false)], args := [d1, d2, d3, d4] }
  | _ => none }
def PreemptWorstWrongFalsely : Prop := preemptWorstRow.holds Try.pinned (OpenSpec.ofChange preemptWorstWrong)

/- THE SECOND FORM. 'bulk': how many values and letters a reading holds, each counted each time it is reached (what is shared counts as often as it is met; a slice's spare places count too). A statement '..UptoSaid' is the law's where the arguments, and the package variables that the reading takes, are together of bulk at most 1048576: NARROWER than '..Said'. Prove '..Said' where nothing that the law and all that it calls make is longer than what came in: it says more and counts as full. Else prove '..UptoSaid'. A law counts once. -/
mutual
def uptoBulk {H : Type} : DataW H → Nat
  | .lit (.string bytes) => bytes.length + 1
  | .lit _ => 1
  | .nil => 1
  | .ptr d => uptoBulk d + 1
  | .slice elems spare => uptoBulkAll elems + uptoBulkAll spare + 1
  | .agg parts => uptoBulkAll parts + 1
  | .iface _ d => uptoBulk d + 1
  | .map entries => uptoBulkEntries entries + 1
  | .held _ => 1
def uptoBulkAll {H : Type} : List (DataW H) → Nat
  | [] => 0
  | d :: r => uptoBulk d + uptoBulkAll r
def uptoBulkEntries {H : Type} : List (Lit × DataW H) → Nat
  | [] => 0
  | x :: r => uptoBulkEntry x + uptoBulkEntries r
def uptoBulkEntry {H : Type} : Lit × DataW H → Nat
  | (.string bytes, d) => bytes.length + uptoBulk d + 1
  | (_, d) => uptoBulk d + 1
 end
def uptoSmall : (H : Type) → List (DataW H) → Bool := fun _ ds => decide (uptoBulkAll ds ≤ 1048576)
def OpenSpec.upto (s : _root_.Go.ChangeSpec) : _root_.Go.OpenSpec := { _root_.Go.OpenSpec.ofChange s with cond := some uptoSmall }

/-- 'observatorylaw40.PreemptMatchesReference', WHERE WHAT IT READS IS OF BULK AT MOST 1048576: true; the input reads as it did. -/
def preemptMatchesReferenceUptoRow : OpenClaim := { program := "ytmndechaeaidcaa", sum := "c435512412d5b9c84bcfb51904882036a6327a515455979349255007261df776", func := "observatory/observatorylaw40.PreemptMatchesReference", spec := "preemptMatchesReference", unfollowed := true, recurses := true, apart := false, narrowed := true }
def PreemptMatchesReferenceUptoSaid : Prop := preemptMatchesReferenceUptoRow.holds Try.pinned (OpenSpec.upto preemptMatchesReferenceSpec)

/-- 'observatorylaw40.PreemptBounded', WHERE WHAT IT READS IS OF BULK AT MOST 1048576: true; the input reads as it did. -/
def preemptBoundedUptoRow : OpenClaim := { program := "ytmndechaeaidcaa", sum := "c435512412d5b9c84bcfb51904882036a6327a515455979349255007261df776", func := "observatory/observatorylaw40.PreemptBounded", spec := "preemptBounded", unfollowed := true, recurses := true, apart := false, narrowed := true }
def PreemptBoundedUptoSaid : Prop := preemptBoundedUptoRow.holds Try.pinned (OpenSpec.upto preemptBoundedSpec)

/-- 'observatorylaw40.PreemptMore', WHERE WHAT IT READS IS OF BULK AT MOST 1048576: true; the input reads as it did. -/
def preemptMoreUptoRow : OpenClaim := { program := "ytmndechaeaidcaa", sum := "c435512412d5b9c84bcfb51904882036a6327a515455979349255007261df776", func := "observatory/observatorylaw40.PreemptMore", spec := "preemptMore", unfollowed := true, recurses := true, apart := false, narrowed := true }
def PreemptMoreUptoSaid : Prop := preemptMoreUptoRow.holds Try.pinned (OpenSpec.upto preemptMoreSpec)

/-- 'observatorylaw40.PreemptApart', WHERE WHAT IT READS IS OF BULK AT MOST 1048576: true; the input reads as it did. -/
def preemptApartUptoRow : OpenClaim := { program := "ytmndechaeaidcaa", sum := "c435512412d5b9c84bcfb51904882036a6327a515455979349255007261df776", func := "observatory/observatorylaw40.PreemptApart", spec := "preemptApart", unfollowed := true, recurses := true, apart := false, narrowed := true }
def PreemptApartUptoSaid : Prop := preemptApartUptoRow.holds Try.pinned (OpenSpec.upto preemptApartSpec)

/-- 'observatorylaw40.PreemptScales', WHERE WHAT IT READS IS OF BULK AT MOST 1048576: true; the input reads as it did. -/
def preemptScalesUptoRow : OpenClaim := { program := "ytmndechaeaidcaa", sum := "c435512412d5b9c84bcfb51904882036a6327a515455979349255007261df776", func := "observatory/observatorylaw40.PreemptScales", spec := "preemptScales", unfollowed := true, recurses := true, apart := false, narrowed := true }
def PreemptScalesUptoSaid : Prop := preemptScalesUptoRow.holds Try.pinned (OpenSpec.upto preemptScalesSpec)

/-- 'observatorylaw40.PreemptWorst', WHERE WHAT IT READS IS OF BULK AT MOST 1048576: true; the input reads as it did. -/
def preemptWorstUptoRow : OpenClaim := { program := "ytmndechaeaidcaa", sum := "c435512412d5b9c84bcfb51904882036a6327a515455979349255007261df776", func := "observatory/observatorylaw40.PreemptWorst", spec := "preemptWorst", unfollowed := true, recurses := true, apart := false, narrowed := true }
def PreemptWorstUptoSaid : Prop := preemptWorstUptoRow.holds Try.pinned (OpenSpec.upto preemptWorstSpec)

end Rows
end Go.Proofs.Ytmndechaeaidcaa
