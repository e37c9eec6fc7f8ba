/- The law CadenceReplays as a function. -/
import Derived.Test.YtefaemikfihdeaaPxx0
import Derived.Test.YtefaemikfihdeaaPxx1
import Derived.Test.YtefaemikfihdeaaPxx5
import Derived.Test.YtefaemikfihdeaaPxx8
import Derived.Test.YtefaemikfihdeaaPxx14
import Derived.Test.YtefaemikfihdeaaExtB
import Derived.Deep.DeepCutAuto
import Derived.Deep.CutBlock
namespace Go.Proofs.Ytefaemikfihdeaa.Px
open Go.RowKit Go.Proofs.YtefaemikfihdeaaW.PrintWords Go.Proofs.YtefaemikfihdeaaW.PrintLast Go.Proofs.YtefaemikfihdeaaW.PrintMore
attribute [local go_sem] max2_int min2_int max_two min_two max_three min_three max_four min_four
attribute [local go_sem high] eqA30
set_option linter.unusedVariables false
set_option linter.unusedSimpArgs false
mutual
def observatorylaw24_CadenceReplays.j0 : Nat → List Int → Int → Int → Bool → Bool → List (S35) → Int → Option (Bool)
  | 0, _, _, _, _, _, _, _ => none
  | k + 1, x1, x2, x3, x9, x33, x132000, x132001 => if x33 = true then (some x9) else ((cadence_Replay.f k x132000 x132001 x1).bind fun bt134 => (if bt134.2.2.2.2.2 = 0 then (if (wrap64 ((x1.length : Int) + 1)) = 0 then (none) else (if 0 ≤ (Int.tmod (wrap64 (x3)) (wrap64 ((x1.length : Int) + 1))) then (if (Int.tmod (wrap64 (x3)) (wrap64 ((x1.length : Int) + 1))) ≤ (x1.length : Int) then ((cadence_Replay.f k x132000 x132001 (x1.take ((Int.tmod (wrap64 (x3)) (wrap64 ((x1.length : Int) + 1))) : Int).toNat)).bind fun bt142 => (if bt134.2.2.2.2.1 = (x1.length : Int) then (if bt142.2.2.2.2.2 = 0 then (if bt142.2.2.2.2.1 = (Int.tmod (wrap64 (x3)) (wrap64 ((x1.length : Int) + 1))) then (observatorylaw24_CadenceReplays.j1 k x1 x2 x9 ((x132000.length : Int) == 0) x132000 x132001 bt134.1 bt134.2.1 bt134.2.2.1 bt134.2.2.2.1) else (observatorylaw24_CadenceReplays.j1 k x1 x2 x9 true x132000 x132001 bt134.1 bt134.2.1 bt134.2.2.1 bt134.2.2.2.1)) else (observatorylaw24_CadenceReplays.j1 k x1 x2 x9 true x132000 x132001 bt134.1 bt134.2.1 bt134.2.2.1 bt134.2.2.2.1)) else (observatorylaw24_CadenceReplays.j1 k x1 x2 x9 true x132000 x132001 bt134.1 bt134.2.1 bt134.2.2.1 bt134.2.2.2.1))) else (none)) else (none))) else (if x9 = true then (if (bt134.1 == 0 && (bt134.2.1 == 0 && (bt134.2.2.1 == 0 && (!bt134.2.2.2.1)))) = true then (if bt134.2.2.2.2.1 ≥ 0 then (some (decide (bt134.2.2.2.2.1 ≤ (x1.length : Int)))) else (some false)) else (some false)) else (some false))))
def observatorylaw24_CadenceReplays.j1 : Nat → List Int → Int → Bool → Bool → List (S35) → Int → Int → Int → Int → Bool → Option (Bool)
  | 0, _, _, _, _, _, _, _, _, _, _ => none
  | k + 1, x1, x2, x9, x93, x132000, x132001, x141000, x141001, x141002, x141003 => if x93 = true then (some false) else (observatorylaw24_CadenceReplays.l0 k x1 x2 x9 1 x132000 x132001 x141000 x141001 x141002 x141003)
def observatorylaw24_CadenceReplays.l0 : Nat → List Int → Int → Bool → Int → List (S35) → Int → Int → Int → Int → Bool → Option (Bool)
  | 0, _, _, _, _, _, _, _, _, _, _ => none
  | k + 1, x1, x2, x9, x17, x132000, x132001, x141000, x141001, x141002, x141003 => if x17 < (x1.length : Int) then (if (x132000.length : Int) = 0 then (none) else (if 0 ≤ (Int.tmod x17 (x132000.length : Int)) then (if (Int.tmod x17 (x132000.length : Int)) < (x132000.length : Int) then (if 0 ≤ x17 then (if 0 ≤ (wrap64 (x17 - 1)) then (if (wrap64 (x17 - 1)) < (x1.length : Int) then (if (wrap64 ((rd x1 x17) - (rd x1 (wrap64 (x17 - 1))))) < ((rd_T35 x132000 (Int.tmod x17 (x132000.length : Int))).f1) then (some false) else (if (wrap64 ((rd x1 x17) - (rd x1 (wrap64 (x17 - 1))))) > ((rd_T35 x132000 (Int.tmod x17 (x132000.length : Int))).f2) then (some false) else (observatorylaw24_CadenceReplays.l0 k x1 x2 x9 (wrap64 (x17 + 1)) x132000 x132001 x141000 x141001 x141002 x141003))) else (none)) else (none)) else (none)) else (none)) else (none))) else ((cadence_Advance.f k x132000 x132001 x141000 x141001 x141002 x141003 x2).bind fun bt153 => ((some (([] : List Int) : List Int)).bind fun y159 => (if y159.length + x1.length < 17592186044416 then ((some (y159 ++ x1 : List Int)).bind fun y162 => ((some (([x2] : List Int) : List Int)).bind fun y165 => (if y162.length + y165.length < 17592186044416 then ((cadence_Replay.f k x132000 x132001 (y162 ++ y165)).bind fun bt171 => (if bt153.2.2.2.2 = 0 then (if x9 = true then (if bt171.2.2.2.2.2 = 0 then (if bt171.2.2.2.2.1 = (wrap64 ((x1.length : Int) + 1)) then (some (bt171.1 == bt153.1 && (bt171.2.1 == bt153.2.1 && (bt171.2.2.1 == bt153.2.2.1 && (bt171.2.2.2.1 == bt153.2.2.2.1))))) else (some false)) else (some false)) else (some false)) else (if x9 = true then (if bt171.2.2.2.2.2 = bt153.2.2.2.2 then (some (bt171.2.2.2.2.1 == (x1.length : Int))) else (some false)) else (some false)))) else (none)))) else (none))))
end
def observatorylaw24_CadenceReplays.f (k : Nat) (l0_0 : List (S35)) (a0_1 : Int) (l1 : List Int) (a2 : Int) (a3 : Int) : Option (Bool) := (observatorylaw24_head.f k).bind fun t132 => ((observatoryref24_Few.f l0_0 a0_1).bind fun t133 => (if t133 = true then (observatorylaw24_CadenceReplays.j0 k l1 a2 a3 t132 (decide ((l1.length : Int) > 200)) l0_0 a0_1) else (observatorylaw24_CadenceReplays.j0 k l1 a2 a3 t132 true l0_0 a0_1)))
def observatorylaw24_CadenceReplays.T8 : Bool × List (List Nat × List Nat) := (true, [([], []), ([], []), ([], []), ([1, 2], [1, 2]), ([0, 3], [0, 3]), ([4], [4]), ([5], [5]), ([5], [5]), ([5], [5]), ([], []), ([9, 6, 4, 0, 1, 2, 3, 4, 5, 6, 9], [6, 9]), ([7, 10, 0, 1, 2, 3, 4, 5, 6, 7, 9, 10], [7]), ([8, 11, 0, 1, 2, 3, 4, 5, 6, 7, 8, 9, 10, 11], [8])])
def observatorylaw24_CadenceReplays.B8 : List Nat := [0, 0, 0, 6, 15, 31, 63, 63, 63, 0, 639, 1791, 4095]
theorem observatorylaw24_CadenceReplays.tab8 : rtab .any (opsOf Try.f8 8) = observatorylaw24_CadenceReplays.T8 := by kernel_rfl
theorem observatorylaw24_CadenceReplays.bits8 : waitsOk observatorylaw24_CadenceReplays.T8.2 observatorylaw24_CadenceReplays.B8 = true := by kernel_rfl
def observatorylaw24_CadenceReplays.T14 : Bool × List (List Nat × List Nat) := (true, [([], []), ([0], [0]), ([], []), ([], []), ([3], [3]), ([4], [4]), ([2, 5], [2, 5]), ([1, 6], [1, 6]), ([7], [7]), ([], []), ([9, 8, 0, 1, 2, 3, 4, 5, 6, 7, 8, 9], [8, 9])])
def observatorylaw24_CadenceReplays.B14 : List Nat := [0, 1, 0, 0, 8, 24, 60, 127, 255, 0, 1023]
theorem observatorylaw24_CadenceReplays.tab14 : rtab .any (opsOf Try.f8 14) = observatorylaw24_CadenceReplays.T14 := by kernel_rfl
theorem observatorylaw24_CadenceReplays.bits14 : waitsOk observatorylaw24_CadenceReplays.T14.2 observatorylaw24_CadenceReplays.B14 = true := by kernel_rfl
def observatorylaw24_CadenceReplays.T15 : Bool × List (List Nat × List Nat) := (true, [([], []), ([], []), ([0, 1], [0, 1]), ([2], [2]), ([], []), ([], []), ([5], [5]), ([4, 6], [4, 6]), ([7], [7]), ([3, 8], [3, 8]), ([9, 0, 1, 2, 3, 4, 5, 6, 7, 8, 9], [9])])
def observatorylaw24_CadenceReplays.B15 : List Nat := [0, 0, 3, 7, 0, 0, 32, 112, 240, 511, 1023]
theorem observatorylaw24_CadenceReplays.tab15 : rtab .any (opsOf Try.f8 15) = observatorylaw24_CadenceReplays.T15 := by kernel_rfl
theorem observatorylaw24_CadenceReplays.bits15 : waitsOk observatorylaw24_CadenceReplays.T15.2 observatorylaw24_CadenceReplays.B15 = true := by kernel_rfl
def observatorylaw24_CadenceReplays.T19 : Bool × List (List Nat × List Nat) := (true, [([], []), ([], []), ([], []), ([1, 2], [1, 2]), ([], []), ([4], [4]), ([3, 5, 3], [3, 5]), ([0, 6, 6], [0, 6]), ([7], [7]), ([8], [8]), ([8], [8]), ([8], [8]), ([], []), ([12, 9, 7, 0, 1, 2, 3, 4, 5, 6, 7, 8, 9, 12], [9, 12]), ([10, 13, 0, 1, 2, 3, 4, 5, 6, 7, 8, 9, 10, 12, 13], [10]), ([11, 14, 0, 1, 2, 3, 4, 5, 6, 7, 8, 9, 10, 11, 12, 13, 14], [11])])
def observatorylaw24_CadenceReplays.B19 : List Nat := [0, 0, 0, 6, 0, 16, 62, 127, 255, 511, 511, 511, 0, 5119, 14335, 32767]
theorem observatorylaw24_CadenceReplays.tab19 : rtab .any (opsOf Try.f8 19) = observatorylaw24_CadenceReplays.T19 := by kernel_rfl
theorem observatorylaw24_CadenceReplays.bits19 : waitsOk observatorylaw24_CadenceReplays.T19.2 observatorylaw24_CadenceReplays.B19 = true := by kernel_rfl
end Go.Proofs.Ytefaemikfihdeaa.Px
