/- The reference's plan: its contract, told as the plan. -/
import Derived.Test.YtopbajcnihboiaaExtD1
import Derived.Test.YtopbajcnihboiaaPlG
namespace Go.Proofs.Ytopbajcnihboiaa.Px
open Go.RowKit Go.Proofs.YtopbajcnihboiaaW.PrintWords Go.Proofs.YtopbajcnihboiaaW.PrintLast Go.Proofs.YtopbajcnihboiaaW.PrintMore
set_option linter.unusedVariables false
def observatoryref13_Plan.f (a0 : Int) (l1 : List Int) : Option (List Int × Int × Int) := some (planV a0 l1)
theorem observatoryref13_Plan.calls (a0 : Int) (A1 : Option Addr) (c1 : Nat) (l1 : List Int) (r1 : List Int) (r2 r3 : Int) (w : World) (hr1 : (Kd.int .i64).C w A1 l1.length l1) (hc1 : l1.length ≤ c1) (h : observatoryref13_Plan.f a0 l1 = some (r1, r2, r3)) :
    Calls Try.prog 14 #[.int .i64 a0, .slice A1 l1.length c1] w fun e w' => ∃ v0_ : Value, e = .returned (.tuple #[v0_, .int .i64 r2, .int .i64 r3]) ∧ Kd.R (Kd.int .i64) 3 w' w.heap.size (fun _ => True) v0_ r1 ∧ Below w.heap.size w w' :=
  observatoryref13_PlanA.calls 7000 a0 A1 c1 l1 r1 r2 r3 w hr1 hc1 ((planA_ev a0 l1).trans h)
end Go.Proofs.Ytopbajcnihboiaa.Px
