/- The reference's plan as a function. -/
import Derived.Test.YtopbajcnihboiaaPxx0
import Derived.Test.YtopbajcnihboiaaPxx11
import Derived.Test.YtopbajcnihboiaaPxx12
import Derived.Test.YtopbajcnihboiaaPxx13
import Derived.Deep.DeepCutAuto
import Derived.Deep.CutBlock
namespace Go.Proofs.Ytopbajcnihboiaa.Px
open Go.RowKit Go.Proofs.YtopbajcnihboiaaW.PrintWords Go.Proofs.YtopbajcnihboiaaW.PrintLast Go.Proofs.YtopbajcnihboiaaW.PrintMore
attribute [local go_sem] max2_int min2_int max_two min_two max_three min_three max_four min_four
set_option linter.unusedVariables false
set_option linter.unusedSimpArgs false
mutual
def observatoryref13_PlanB.l0 : Nat → Int → List (List Int) → Int → List (List Int) → Int → Option (List Int × Int × Int)
  | 0, _, _, _, _, _ => none
  | k + 1, x0, x2, x7, x12, x13 => if x13 ≥ 0 then (observatoryref13_PlanB.l1 k x0 x2 x7 x12 x13 0) else (observatoryref13_PlanB.l3 k x0 x2 x7 x12 ([] : List Int) 0 0)
def observatoryref13_PlanB.l1 : Nat → Int → List (List Int) → Int → List (List Int) → Int → Int → Option (List Int × Int × Int)
  | 0, _, _, _, _, _, _ => none
  | k + 1, x0, x2, x7, x12, x13, x14 => if 0 ≤ x13 then (if x13 < (x2.length : Int) then (if x14 < ((rd_L1 x2 x13).length : Int) then (observatoryref13_PlanB.l2 k x0 x2 x7 x12 x13 x14 0 0) else (observatoryref13_PlanB.l0 k x0 x2 x7 x12 (wrap64 (x13 - 1)))) else (none)) else (none)
def observatoryref13_PlanB.l2 : Nat → Int → List (List Int) → Int → List (List Int) → Int → Int → Int → Int → Option (List Int × Int × Int)
  | 0, _, _, _, _, _, _, _, _ => none
  | k + 1, x0, x2, x7, x12, x13, x14, x15, x16 => if (wrap64 (x13 + 1)) < x7 then (if 0 ≤ (wrap64 (x13 + 1)) then (if (wrap64 (x13 + 1)) < (x2.length : Int) then (observatoryref13_PlanB.j3 k x0 x2 x7 x12 x13 x14 x15 x16 (decide (x16 < ((rd_L1 x2 (wrap64 (x13 + 1))).length : Int)))) else (none)) else (none)) else (observatoryref13_PlanB.j3 k x0 x2 x7 x12 x13 x14 x15 x16 false)
def observatoryref13_PlanB.j3 : Nat → Int → List (List Int) → Int → List (List Int) → Int → Int → Int → Int → Bool → Option (List Int × Int × Int)
  | 0, _, _, _, _, _, _, _, _, _ => none
  | k + 1, x0, x2, x7, x12, x13, x14, x15, x16, x82 => if x82 = true then (if 0 ≤ x13 then (if x13 < (x2.length : Int) then (if 0 ≤ x14 then (if x14 < ((rd_L1 x2 x13).length : Int) then (if 0 ≤ (wrap64 (x13 + 1)) then (if (wrap64 (x13 + 1)) < (x2.length : Int) then (if 0 ≤ x16 then (if x16 < ((rd_L1 x2 (wrap64 (x13 + 1))).length : Int) then ((observatoryref13_Dist.f (rd (rd_L1 x2 x13) x14) (rd (rd_L1 x2 (wrap64 (x13 + 1))) x16)).bind fun t143 => (if (wrap64 (x13 + 1)) < (x12.length : Int) then (if x16 < ((rd_L1 x12 (wrap64 (x13 + 1))).length : Int) then (if x16 = 0 then (observatoryref13_PlanB.l2 k x0 x2 x7 x12 x13 x14 (wrap64 (t143 + (rd (rd_L1 x12 (wrap64 (x13 + 1))) x16))) (wrap64 (x16 + 1))) else (if (wrap64 (t143 + (rd (rd_L1 x12 (wrap64 (x13 + 1))) x16))) < x15 then (observatoryref13_PlanB.l2 k x0 x2 x7 x12 x13 x14 (wrap64 (t143 + (rd (rd_L1 x12 (wrap64 (x13 + 1))) x16))) (wrap64 (x16 + 1))) else (observatoryref13_PlanB.l2 k x0 x2 x7 x12 x13 x14 x15 (wrap64 (x16 + 1))))) else (none)) else (none))) else (none)) else (none)) else (none)) else (none)) else (none)) else (none)) else (none)) else (none)) else (if 0 ≤ x13 then (if x13 < (x12.length : Int) then (if (rd_L1 x12 x13).length < 17592186044416 then (observatoryref13_PlanB.l1 k x0 x2 x7 (x12.set (x13 : Int).toNat ((rd_L1 x12 x13) ++ [x15])) x13 (wrap64 (x14 + 1))) else (none)) else (none)) else (none))
def observatoryref13_PlanB.l3 : Nat → Int → List (List Int) → Int → List (List Int) → List Int → Int → Int → Option (List Int × Int × Int)
  | 0, _, _, _, _, _, _, _ => none
  | k + 1, x0, x2, x7, x12, x18, x19, x20 => if x20 < x7 then (observatoryref13_PlanB.l4 k x0 x2 x7 x12 x18 x19 x20 0 1) else (some (x18, x19, 0))
def observatoryref13_PlanB.l4 : Nat → Int → List (List Int) → Int → List (List Int) → List Int → Int → Int → Int → Int → Option (List Int × Int × Int)
  | 0, _, _, _, _, _, _, _, _, _ => none
  | k + 1, x0, x2, x7, x12, x18, x19, x20, x21, x22 => if 0 ≤ x20 then (if x20 < (x2.length : Int) then (if x22 < ((rd_L1 x2 x20).length : Int) then (if 0 ≤ x22 then ((observatoryref13_Dist.f x0 (rd (rd_L1 x2 x20) x22)).bind fun t162 => (if x20 < (x12.length : Int) then (if x22 < ((rd_L1 x12 x20).length : Int) then (if 0 ≤ x21 then (if x21 < ((rd_L1 x2 x20).length : Int) then ((observatoryref13_Dist.f x0 (rd (rd_L1 x2 x20) x21)).bind fun t167 => (if x21 < ((rd_L1 x12 x20).length : Int) then (if (wrap64 (t162 + (rd (rd_L1 x12 x20) x22))) < (wrap64 (t167 + (rd (rd_L1 x12 x20) x21))) then (observatoryref13_PlanB.l4 k x0 x2 x7 x12 x18 x19 x20 x22 (wrap64 (x22 + 1))) else (observatoryref13_PlanB.l4 k x0 x2 x7 x12 x18 x19 x20 x21 (wrap64 (x22 + 1)))) else (none))) else (none)) else (none)) else (none)) else (none))) else (none)) else (if 0 ≤ x21 then (if x21 < ((rd_L1 x2 x20).length : Int) then ((observatoryref13_Dist.f x0 (rd (rd_L1 x2 x20) x21)).bind fun t154 => (if x18.length < 17592186044416 then (observatoryref13_PlanB.l3 k (rd (rd_L1 x2 x20) x21) x2 x7 x12 (x18 ++ [rd (rd_L1 x2 x20) x21]) (wrap64 (x19 + t154)) (wrap64 (x20 + 1))) else (none))) else (none)) else (none))) else (none)) else (none)
end
def observatoryref13_PlanB.f (k : Nat) (a0 : Int) (l1 : List Int) (l2 : List (List Int)) : Option (List Int × Int × Int) := if 0 ≤ (wrap64 ((l1.length : Int) + 1)) then (if (wrap64 ((l1.length : Int) + 1) : Int).toNat ≤ 11728124029610 then (observatoryref13_PlanB.l0 k a0 l2 (l1.length : Int) (List.replicate (wrap64 ((l1.length : Int) + 1) : Int).toNat []) (wrap64 ((l1.length : Int) - 1))) else (none)) else (none)
mutual
def observatoryref13_PlanA.j0 (x0 : Int) (y1 : List Int) : Nat → List Int → Int → Bool → Option (List Int × Int × Int)
  | 0, _, _, _ => none
  | k + 1, x1, x7, x31 => if x31 = true then (some (([] : List Int), 0, 1)) else (observatoryref13_PlanA.l0 x0 y1 k x1 x7 ([] : List (List Int)) 0)
def observatoryref13_PlanA.l0 (x0 : Int) (y1 : List Int) : Nat → List Int → Int → List (List Int) → Int → Option (List Int × Int × Int)
  | 0, _, _, _, _ => none
  | k + 1, x1, x7, x8, x9 => if x9 < x7 then (if 0 ≤ x9 then (if x9 < (x1.length : Int) then ((observatoryref13_Reach.f k (rd x1 x9)).bind fun bt136 => (if bt136.2 = 0 then (if x8.length < 5864062014805 then (observatoryref13_PlanA.l0 x0 y1 k x1 x7 (x8 ++ [bt136.1]) (wrap64 (x9 + 1))) else (none)) else (some (([] : List Int), 0, 1)))) else (none)) else (none)) else (observatoryref13_PlanB.f k x0 y1 x8)
end
def observatoryref13_PlanA.f (k : Nat) (a0 : Int) (l1 : List Int) : Option (List Int × Int × Int) := (observatoryref13_Is.f a0).bind fun t134 => (if t134 = true then (observatoryref13_PlanA.j0 a0 l1 k l1 (l1.length : Int) (decide ((l1.length : Int) > 40))) else (observatoryref13_PlanA.j0 a0 l1 k l1 (l1.length : Int) true))
end Go.Proofs.Ytopbajcnihboiaa.Px
