/-
  No cell of these rows narrows 'for every input' (looked for: loops, veiled, ifaces, maps, wideKeys, modest, calm, conditions, laid).
  DERIVED. THE GIVEN ROWS OF THIS SEAT. 5 by the template 'for every input the law returns true; each argument reads behind the call as it read before'; 0 by the template 'total and deterministic' (their statements: YtopbajcnihboiaaTotals.lean).
  GIVEN WITH THE SEED: the statements are not yours to turn. If you find one false, say at which input.
  Laid BY PROGRAM, IN A SANDBOX (cutbox-rows.mjs): the forced cells as the released guide's own fill.sh prints them over the translation 37578c06ee66877f… (all of the seat's roots in one cut). By AI agents, Wed Nov 11 2026. No macro, syntax, notation, axiom, sorry.
-/
import Derived.Test.YtopbajcnihboiaaChecked
import GoSem.Claim
import GoSem.ClaimJoined
import GoSem.ClaimMapViews
import Derived.JoinedTies
import Derived.KernelRfl
namespace Go.Proofs.Ytopbajcnihboiaa
/- THE CELL 'sum', in the pinned program and in every row, IS THE sha256 OF THE DUMP (.gsa) THAT YtopbajcnihboiaaProg.lean LOADS. Nothing in Lean hashes anything: it is a label: what it is worth is what the hold of that sum in a sandbox is worth. -/
noncomputable def Try.pinned : Pinned := { name := "ytopbajcnihboiaa", sum := "37578c06ee66877fafeac15b4740bf1065a5b512c25c59346f92fc674516a832", checked := Try.checked }
namespace Rows
def none {H : Type} : Left H := { results := [], args := [] }

/-- 'observatorylaw13.MountMatchesReference': WHATEVER THE INPUT: true; the input reads as it did. -/
def mountMatchesReferenceSpec : ChangeSpec := { name := "mountMatchesReference", fn := fun _ => fun
  | [d1, d2, d3] => { results := [.lit (.bool true)], args := [d1, d2, d3] }
  | _ => none }
def mountMatchesReferenceRow : OpenClaim := { program := "ytopbajcnihboiaa", sum := "37578c06ee66877fafeac15b4740bf1065a5b512c25c59346f92fc674516a832", func := "observatory/observatorylaw13.MountMatchesReference", spec := "mountMatchesReference", unfollowed := true, recurses := true, apart := false }
def MountMatchesReferenceSaid : Prop := mountMatchesReferenceRow.holds Try.pinned (OpenSpec.ofChange mountMatchesReferenceSpec)

/-- ITS FALSE NEIGHBOUR: 'it returns false'. Refute it at one input. -/
def mountMatchesReferenceWrong : ChangeSpec := { name := "mountMatchesReference", fn := fun _ => fun
  | [d1, d2, d3] => { results := [.lit (.bool false)], args := [d1, d2, d3] }
  | _ => none }
def MountMatchesReferenceWrongFalsely : Prop := mountMatchesReferenceRow.holds Try.pinned (OpenSpec.ofChange mountMatchesReferenceWrong)

/-- 'observatorylaw13.MountMoves': WHATEVER THE INPUT: true; the input reads as it did. -/
def mountMovesSpec : ChangeSpec := { name := "mountMoves", fn := fun _ => fun
  | [d1, d2, d3] => { results := [.lit (.bool true)], args := [d1, d2, d3] }
  | _ => none }
def mountMovesRow : OpenClaim := { program := "ytopbajcnihboiaa", sum := "37578c06ee66877fafeac15b4740bf1065a5b512c25c59346f92fc674516a832", func := "observatory/observatorylaw13.MountMoves", spec := "mountMoves", unfollowed := true, recurses := true, apart := false }
def MountMovesSaid : Prop := mountMovesRow.holds Try.pinned (OpenSpec.ofChange mountMovesSpec)

/-- ITS FALSE NEIGHBOUR: 'it returns false'. Refute it at one input. -/
def mountMovesWrong : ChangeSpec := { name := "mountMoves", fn := fun _ => fun
  | [d1, d2, d3] => { results := [.lit (.bool false)], args := [d1, d2, d3] }
  | _ => none }
def MountMovesWrongFalsely : Prop := mountMovesRow.holds Try.pinned (OpenSpec.ofChange mountMovesWrong)

/-- 'observatorylaw13.MountPlans': WHATEVER THE INPUT: true; the input reads as it did. -/
def mountPlansSpec : ChangeSpec := { name := "mountPlans", fn := fun _ => fun
  | [d1, d2, d3] => { results := [.lit (.bool true)], args := [d1, d2, d3] }
  | _ => none }
def mountPlansRow : OpenClaim := { program := "ytopbajcnihboiaa", sum := "37578c06ee66877fafeac15b4740bf1065a5b512c25c59346f92fc674516a832", func := "observatory/observatorylaw13.MountPlans", spec := "mountPlans", unfollowed := true, recurses := true, apart := false }
def MountPlansSaid : Prop := mountPlansRow.holds Try.pinned (OpenSpec.ofChange mountPlansSpec)

/-- ITS FALSE NEIGHBOUR: 'it returns false'. Refute it at one input. -/
def mountPlansWrong : ChangeSpec := { name := "mountPlans", fn := fun _ => fun
  | [d1, d2, d3] => { results := [.lit (.bool false)], args := [d1, d2, d3] }
  | _ => none }
def MountPlansWrongFalsely : Prop := mountPlansRow.holds Try.pinned (OpenSpec.ofChange mountPlansWrong)

/-- 'observatorylaw13.MountLimits': WHATEVER THE INPUT: true; the input reads as it did. -/
def mountLimitsSpec : ChangeSpec := { name := "mountLimits", fn := fun _ => fun
  | [d1, d2] => { results := [.lit (.bool true)], args := [d1, d2] }
  | _ => none }
def mountLimitsRow : OpenClaim := { program := "ytopbajcnihboiaa", sum := "37578c06ee66877fafeac15b4740bf1065a5b512c25c59346f92fc674516a832", func := "observatory/observatorylaw13.MountLimits", spec := "mountLimits", unfollowed := true, recurses := true, apart := false }
def MountLimitsSaid : Prop := mountLimitsRow.holds Try.pinned (OpenSpec.ofChange mountLimitsSpec)

/-- ITS FALSE NEIGHBOUR: 'it returns false'. Refute it at one input. -/
def mountLimitsWrong : ChangeSpec := { name := "mountLimits", fn := fun _ => fun
  | [d1, d2] => { results := [.lit (.bool false)], args := [d1, d2] }
  | _ => none }
def MountLimitsWrongFalsely : Prop := mountLimitsRow.holds Try.pinned (OpenSpec.ofChange mountLimitsWrong)

/-- 'observatorylaw13.MountParts': WHATEVER THE INPUT: true; the input reads as it did. -/
def mountPartsSpec : ChangeSpec := { name := "mountParts", fn := fun _ => fun
  | [d1, d2, d3] => { results := [.lit (.bool true)], args := [d1, d2, d3] }
  | _ => none }
def mountPartsRow : OpenClaim := { program := "ytopbajcnihboiaa", sum := "37578c06ee66877fafeac15b4740bf1065a5b512c25c59346f92fc674516a832", func := "observatory/observatorylaw13.MountParts", spec := "mountParts", unfollowed := true, recurses := true, apart := false }
def MountPartsSaid : Prop := mountPartsRow.holds Try.pinned (OpenSpec.ofChange mountPartsSpec)

/-- ITS FALSE NEIGHBOUR: 'it returns false'. Refute it at one input. -/
def mountPartsWrong : ChangeSpec := { name := "mountParts", fn := fun _ => fun
  | [d1, d2, d3] => { results := [.lit (.bool false)], args := [d1, d2, d3] }
  | _ => none }
def MountPartsWrongFalsely : Prop := mountPartsRow.holds Try.pinned (OpenSpec.ofChange mountPartsWrong)

/- THE SECOND FORM. 'bulk': how many values and letters a reading holds, each counted each time it is reached (what is shared counts as often as it is met; a slice's spare places count too). A statement '..UptoSaid' is the law's where the arguments, and the package variables that the reading takes, are together of bulk at most 1048576: NARROWER than '..Said'. Prove '..Said' where nothing that the law and all that it calls make is longer than what came in: it says more and counts as full. Else prove '..UptoSaid'. A law counts once. -/
mutual
def uptoBulk {H : Type} : DataW H → Nat
  | .lit (.string bytes) => bytes.length + 1
  | .lit _ => 1
  | .nil => 1
  | .ptr d => uptoBulk d + 1
  | .slice elems spare => uptoBulkAll elems + uptoBulkAll spare + 1
  | .agg parts => uptoBulkAll parts + 1
  | .iface _ d => uptoBulk d + 1
  | .map entries => uptoBulkEntries entries + 1
  | .held _ => 1
def uptoBulkAll {H : Type} : List (DataW H) → Nat
  | [] => 0
  | d :: r => uptoBulk d + uptoBulkAll r
def uptoBulkEntries {H : Type} : List (Lit × DataW H) → Nat
  | [] => 0
  | x :: r => uptoBulkEntry x + uptoBulkEntries r
def uptoBulkEntry {H : Type} : Lit × DataW H → Nat
  | (.string bytes, d) => bytes.length + uptoBulk d + 1
  | (_, d) => uptoBulk d + 1
 end
def uptoSmall : (H : Type) → List (DataW H) → Bool := fun _ ds => decide (uptoBulkAll ds ≤ 1048576)
def OpenSpec.upto (s : _root_.Go.ChangeSpec) : _root_.Go.OpenSpec := { _root_.Go.OpenSpec.ofChange s with cond := some uptoSmall }

/-- 'observatorylaw13.MountMatchesReference', WHERE WHAT IT READS IS OF BULK AT MOST 1048576: true; the input reads as it did. -/
def mountMatchesReferenceUptoRow : OpenClaim := { program := "ytopbajcnihboiaa", sum := "37578c06ee66877fafeac15b4740bf1065a5b512c25c59346f92fc674516a832", func := "observatory/observatorylaw13.MountMatchesReference", spec := "mountMatchesReference", unfollowed := true, recurses := true, apart := false, narrowed := true }
def MountMatchesReferenceUptoSaid : Prop := mountMatchesReferenceUptoRow.holds Try.pinned (OpenSpec.upto mountMatchesReferenceSpec)

/-- 'observatorylaw13.MountMoves', WHERE WHAT IT READS IS OF BULK AT MOST 1048576: true; the input reads as it did. -/
def mountMovesUptoRow : OpenClaim := { program := "ytopbajcnihboiaa", sum := "37578c06ee66877fafeac15b4740bf1065a5b512c25c59346f92fc674516a832", func := "observatory/observatorylaw13.MountMoves", spec := "mountMoves", unfollowed := true, recurses := true, apart := false, narrowed := true }
def MountMovesUptoSaid : Prop := mountMovesUptoRow.holds Try.pinned (OpenSpec.upto mountMovesSpec)

/-- 'observatorylaw13.MountPlans', WHERE WHAT IT READS IS OF BULK AT MOST 1048576: true; the input reads as it did. -/
def mountPlansUptoRow : OpenClaim := { program := "ytopbajcnihboiaa", sum := "37578c06ee66877fafeac15b4740bf1065a5b512c25c59346f92fc674516a832", func := "observatory/observatorylaw13.MountPlans", spec := "mountPlans", unfollowed := true, recurses := true, apart := false, narrowed := true }
def MountPlansUptoSaid : Prop := mountPlansUptoRow.holds Try.pinned (OpenSpec.upto mountPlansSpec)

/-- 'observatorylaw13.MountLimits', WHERE WHAT IT READS IS OF BULK AT MOST 1048576: true; the input reads as it did. -/
def mountLimitsUptoRow : OpenClaim := { program := "ytopbajcnihboiaa", sum := "37578c06ee66877fafeac15b4740bf1065a5b512c25c59346f92fc674516a832", func := "observatory/observatorylaw13.MountLimits", spec := "mountLimits", unfollowed := true, recurses := true, apart := false, narrowed := true }
def MountLimitsUptoSaid : Prop := mountLimitsUptoRow.holds Try.pinned (OpenSpec.upto mountLimitsSpec)

/-- 'observatorylaw13.MountParts', WHERE WHAT IT READS IS OF BULK AT MOST 1048576: true; the input reads as it did. -/
def mountPartsUptoRow : OpenClaim := { program := "ytopbajcnihboiaa", sum := "37578c06ee66877fafeac15b4740bf1065a5b512c25c59346f92fc674516a832", func := "observatory/observatorylaw13.MountParts", spec := "mountParts", unfollowed := true, recurses := true, apart := false, narrowed := true }
def MountPartsUptoSaid : Prop := mountPartsUptoRow.holds Try.pinned (OpenSpec.upto mountPartsSpec)

end Rows
end Go.Proofs.Ytopbajcnihboiaa
