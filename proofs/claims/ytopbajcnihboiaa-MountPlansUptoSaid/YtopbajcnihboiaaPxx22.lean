-- By a program of this session (a turned copy of the kit's print.py): a function of the translation as a Lean function, and the proof that the code computes it. Lean checks it.
import Derived.Test.YtopbajcnihboiaaPxx0
import Derived.Test.YtopbajcnihboiaaPxx3
import Derived.Test.YtopbajcnihboiaaPxx17
import Derived.Test.YtopbajcnihboiaaPxx18
import Derived.Test.YtopbajcnihboiaaPxx21
import Derived.Test.YtopbajcnihboiaaExtE
namespace Go.Proofs.Ytopbajcnihboiaa.Px
open Go.RowKit Go.Proofs.YtopbajcnihboiaaW.PrintWords Go.Proofs.YtopbajcnihboiaaW.PrintLast Go.Proofs.YtopbajcnihboiaaW.PrintMore
attribute [local go_sem] max2_int min2_int max_two min_two max_three min_three max_four min_four   -- for this text's walks alone
set_option linter.unusedVariables false
set_option linter.unusedSimpArgs false

/-! ### observatorylaw13_MountPlans: function 5 -/
mutual
def observatorylaw13_MountPlans.j0 : Nat → List Int → Bool → Int → List Int → List Int → Int → Bool → Option (Bool)
  | 0, _, _, _, _, _, _, _ => none
  | k + 1, x2, x7, x8, x9, x10, x11, x59 => if x59 = true then (some false) else (observatorylaw13_MountPlans.l0 k x2 x7 x9 x10 x11 0 0 x8 x8 0 0)
def observatorylaw13_MountPlans.l0 : Nat → List Int → Bool → List Int → List Int → Int → Int → Int → Int → Int → Int → Int → Option (Bool)
  | 0, _, _, _, _, _, _, _, _, _, _, _ => none
  | k + 1, x2, x7, x9, x10, x11, x13, x14, x15, x16, x17, x18 => if x18 < (x10.length : Int) then (if 0 ≤ x18 then (if (rd x10 x18) < (-48) then (observatorylaw13_MountPlans.j2 k x2 x7 x9 x10 x11 x13 x14 x15 x16 x17 x18 true) else (if (rd x10 x18) > 48 then (observatorylaw13_MountPlans.j2 k x2 x7 x9 x10 x11 x13 x14 x15 x16 x17 x18 true) else (if x18 < (x9.length : Int) then (observatorylaw13_MountPlans.j2 k x2 x7 x9 x10 x11 x13 x14 x15 x16 x17 x18 ((Int.tmod (wrap64 ((rd x10 x18) + 64)) 32) != (rd x9 x18))) else (none)))) else (none)) else (if x7 = true then (if x13 = x11 then (if x14 > x11 then (some true) else (if x14 = x11 then (some (decide (x17 ≥ 0))) else (some false))) else (some false)) else (some false))
def observatorylaw13_MountPlans.j2 : Nat → List Int → Bool → List Int → List Int → Int → Int → Int → Int → Int → Int → Int → Bool → Option (Bool)
  | 0, _, _, _, _, _, _, _, _, _, _, _, _ => none
  | k + 1, x2, x7, x9, x10, x11, x13, x14, x15, x16, x17, x18, x92 => if x92 = true then (some false) else (if 0 ≤ x18 then (if x18 < (x9.length : Int) then ((mount_Reach.f k (rd x9 x18)).bind fun bt203 => (if bt203.2 = 0 then (observatorylaw13_MountPlans.j3 k x2 x7 x9 x10 x11 x13 x14 x15 x16 x17 x18 bt203.1 ((bt203.1.length : Int) == 0)) else (observatorylaw13_MountPlans.j3 k x2 x7 x9 x10 x11 x13 x14 x15 x16 x17 x18 bt203.1 true))) else (none)) else (none))
def observatorylaw13_MountPlans.j3 : Nat → List Int → Bool → List Int → List Int → Int → Int → Int → Int → Int → Int → Int → List Int → Bool → Option (Bool)
  | 0, _, _, _, _, _, _, _, _, _, _, _, _, _ => none
  | k + 1, x2, x7, x9, x10, x11, x13, x14, x15, x16, x17, x18, x19, x107 => if x107 = true then (some false) else (if 0 ≤ x18 then (if x18 < (x10.length : Int) then (if x18 < (x2.length : Int) then (if (x19.length : Int) = 0 then (none) else (if 0 ≤ (Int.tmod (wrap64 (rd x2 x18)) (x19.length : Int)) then (if (Int.tmod (wrap64 (rd x2 x18)) (x19.length : Int)) < (x19.length : Int) then (observatorylaw13_MountPlans.j4 k x2 x7 x9 x10 x11 x13 x14 x15 x16 x17 x18 (rd x19 (Int.tmod (wrap64 (rd x2 x18)) (x19.length : Int)))) else (none)) else (none))) else (observatorylaw13_MountPlans.j4 k x2 x7 x9 x10 x11 x13 x14 x15 x16 x17 x18 (rd x10 x18))) else (none)) else (none))
def observatorylaw13_MountPlans.j4 : Nat → List Int → Bool → List Int → List Int → Int → Int → Int → Int → Int → Int → Int → Int → Option (Bool)
  | 0, _, _, _, _, _, _, _, _, _, _, _, _ => none
  | k + 1, x2, x7, x9, x10, x11, x13, x14, x15, x16, x17, x18, x21 => if x17 = 0 then (if 0 ≤ x18 then (if x18 < (x10.length : Int) then (observatorylaw13_MountPlans.j5 k x2 x7 x9 x10 x11 x13 x14 x15 x16 x17 x18 x21 (decide (x21 < (rd x10 x18)))) else (none)) else (none)) else (observatorylaw13_MountPlans.j5 k x2 x7 x9 x10 x11 x13 x14 x15 x16 x17 x18 x21 false)
def observatorylaw13_MountPlans.j5 : Nat → List Int → Bool → List Int → List Int → Int → Int → Int → Int → Int → Int → Int → Int → Bool → Option (Bool)
  | 0, _, _, _, _, _, _, _, _, _, _, _, _, _ => none
  | k + 1, x2, x7, x9, x10, x11, x13, x14, x15, x16, x17, x18, x21, x136 => if x136 = true then (observatorylaw13_MountPlans.j6 k x2 x7 x9 x10 x11 x13 x14 x15 x16 (-1) x18 x21) else (observatorylaw13_MountPlans.j6 k x2 x7 x9 x10 x11 x13 x14 x15 x16 x17 x18 x21)
def observatorylaw13_MountPlans.j6 : Nat → List Int → Bool → List Int → List Int → Int → Int → Int → Int → Int → Int → Int → Int → Option (Bool)
  | 0, _, _, _, _, _, _, _, _, _, _, _, _ => none
  | k + 1, x2, x7, x9, x10, x11, x13, x14, x15, x16, x17, x18, x21 => if x17 = 0 then (if 0 ≤ x18 then (if x18 < (x10.length : Int) then (observatorylaw13_MountPlans.j7 k x2 x7 x9 x10 x11 x13 x14 x15 x16 x17 x18 x21 (decide (x21 > (rd x10 x18)))) else (none)) else (none)) else (observatorylaw13_MountPlans.j7 k x2 x7 x9 x10 x11 x13 x14 x15 x16 x17 x18 x21 false)
def observatorylaw13_MountPlans.j7 : Nat → List Int → Bool → List Int → List Int → Int → Int → Int → Int → Int → Int → Int → Int → Bool → Option (Bool)
  | 0, _, _, _, _, _, _, _, _, _, _, _, _, _ => none
  | k + 1, x2, x7, x9, x10, x11, x13, x14, x15, x16, x17, x18, x21, x146 => if x146 = true then (if 0 ≤ x18 then (if x18 < (x10.length : Int) then ((observatorylaw13_dist.f x15 (rd x10 x18)).bind fun t213 => ((observatorylaw13_dist.f x16 x21).bind fun t214 => (observatorylaw13_MountPlans.l0 k x2 x7 x9 x10 x11 (wrap64 (x13 + t213)) (wrap64 (x14 + t214)) (rd x10 x18) x21 1 (wrap64 (x18 + 1))))) else (none)) else (none)) else (if 0 ≤ x18 then (if x18 < (x10.length : Int) then ((observatorylaw13_dist.f x15 (rd x10 x18)).bind fun t217 => ((observatorylaw13_dist.f x16 x21).bind fun t218 => (observatorylaw13_MountPlans.l0 k x2 x7 x9 x10 x11 (wrap64 (x13 + t217)) (wrap64 (x14 + t218)) (rd x10 x18) x21 x17 (wrap64 (x18 + 1))))) else (none)) else (none))
end
def observatorylaw13_MountPlans.f (k : Nat) (a0 : Int) (l1 : List Int) (l2 : List Int) : Option (Bool) := (observatorylaw13_head.f).bind fun t188 => ((observatorylaw13_position.f a0).bind fun t189 => ((observatorylaw13_through.f k l1).bind fun t190 => ((mount_Plan.f t189 t190).bind fun bt193 => (if (t190.length : Int) > 40 then (if t188 = true then (if bt193.2.2 = 1 then (if (bt193.1.length : Int) = 0 then (some (bt193.2.1 == 0)) else (some false)) else (some false)) else (some false)) else (if bt193.2.2 = 0 then (observatorylaw13_MountPlans.j0 k l2 t188 t189 t190 bt193.1 bt193.2.1 ((bt193.1.length : Int) != (t190.length : Int))) else (observatorylaw13_MountPlans.j0 k l2 t188 t189 t190 bt193.1 bt193.2.1 true))))))
theorem observatorylaw13_MountPlans.mono_l : ∀ k, (∀ y0 y1 y2 y3 y4 y5 y6, LeO (observatorylaw13_MountPlans.j0 k y0 y1 y2 y3 y4 y5 y6) (observatorylaw13_MountPlans.j0 (k + 1) y0 y1 y2 y3 y4 y5 y6)) ∧ (∀ y0 y1 y2 y3 y4 y5 y6 y7 y8 y9 y10, LeO (observatorylaw13_MountPlans.l0 k y0 y1 y2 y3 y4 y5 y6 y7 y8 y9 y10) (observatorylaw13_MountPlans.l0 (k + 1) y0 y1 y2 y3 y4 y5 y6 y7 y8 y9 y10)) ∧ (∀ y0 y1 y2 y3 y4 y5 y6 y7 y8 y9 y10 y11, LeO (observatorylaw13_MountPlans.j2 k y0 y1 y2 y3 y4 y5 y6 y7 y8 y9 y10 y11) (observatorylaw13_MountPlans.j2 (k + 1) y0 y1 y2 y3 y4 y5 y6 y7 y8 y9 y10 y11)) ∧ (∀ y0 y1 y2 y3 y4 y5 y6 y7 y8 y9 y10 y11 y12, LeO (observatorylaw13_MountPlans.j3 k y0 y1 y2 y3 y4 y5 y6 y7 y8 y9 y10 y11 y12) (observatorylaw13_MountPlans.j3 (k + 1) y0 y1 y2 y3 y4 y5 y6 y7 y8 y9 y10 y11 y12)) ∧ (∀ y0 y1 y2 y3 y4 y5 y6 y7 y8 y9 y10 y11, LeO (observatorylaw13_MountPlans.j4 k y0 y1 y2 y3 y4 y5 y6 y7 y8 y9 y10 y11) (observatorylaw13_MountPlans.j4 (k + 1) y0 y1 y2 y3 y4 y5 y6 y7 y8 y9 y10 y11)) ∧ (∀ y0 y1 y2 y3 y4 y5 y6 y7 y8 y9 y10 y11 y12, LeO (observatorylaw13_MountPlans.j5 k y0 y1 y2 y3 y4 y5 y6 y7 y8 y9 y10 y11 y12) (observatorylaw13_MountPlans.j5 (k + 1) y0 y1 y2 y3 y4 y5 y6 y7 y8 y9 y10 y11 y12)) ∧ (∀ y0 y1 y2 y3 y4 y5 y6 y7 y8 y9 y10 y11, LeO (observatorylaw13_MountPlans.j6 k y0 y1 y2 y3 y4 y5 y6 y7 y8 y9 y10 y11) (observatorylaw13_MountPlans.j6 (k + 1) y0 y1 y2 y3 y4 y5 y6 y7 y8 y9 y10 y11)) ∧ (∀ y0 y1 y2 y3 y4 y5 y6 y7 y8 y9 y10 y11 y12, LeO (observatorylaw13_MountPlans.j7 k y0 y1 y2 y3 y4 y5 y6 y7 y8 y9 y10 y11 y12) (observatorylaw13_MountPlans.j7 (k + 1) y0 y1 y2 y3 y4 y5 y6 y7 y8 y9 y10 y11 y12))
  | 0 => ⟨fun _ _ _ _ _ _ _ r h => by simp [observatorylaw13_MountPlans.j0] at h, fun _ _ _ _ _ _ _ _ _ _ _ r h => by simp [observatorylaw13_MountPlans.l0] at h, fun _ _ _ _ _ _ _ _ _ _ _ _ r h => by simp [observatorylaw13_MountPlans.j2] at h, fun _ _ _ _ _ _ _ _ _ _ _ _ _ r h => by simp [observatorylaw13_MountPlans.j3] at h, fun _ _ _ _ _ _ _ _ _ _ _ _ r h => by simp [observatorylaw13_MountPlans.j4] at h, fun _ _ _ _ _ _ _ _ _ _ _ _ _ r h => by simp [observatorylaw13_MountPlans.j5] at h, fun _ _ _ _ _ _ _ _ _ _ _ _ r h => by simp [observatorylaw13_MountPlans.j6] at h, fun _ _ _ _ _ _ _ _ _ _ _ _ _ r h => by simp [observatorylaw13_MountPlans.j7] at h⟩
  | k + 1 => by
    obtain ⟨ih0, ih1, ih2, ih3, ih4, ih5, ih6, ih7⟩ := observatorylaw13_MountPlans.mono_l k
    refine ⟨?_, ?_, ?_, ?_, ?_, ?_, ?_, ?_⟩
    · intro y0 y1 y2 y3 y4 y5 y6
      unfold observatorylaw13_MountPlans.j0
      repeat' first
      | (with_reducible exact ih0 _ _ _ _ _ _ _)
      | (with_reducible exact ih1 _ _ _ _ _ _ _ _ _ _ _)
      | (with_reducible exact ih2 _ _ _ _ _ _ _ _ _ _ _ _)
      | (with_reducible exact ih3 _ _ _ _ _ _ _ _ _ _ _ _ _)
      | (with_reducible exact ih4 _ _ _ _ _ _ _ _ _ _ _ _)
      | (with_reducible exact ih5 _ _ _ _ _ _ _ _ _ _ _ _ _)
      | (with_reducible exact ih6 _ _ _ _ _ _ _ _ _ _ _ _)
      | (with_reducible exact ih7 _ _ _ _ _ _ _ _ _ _ _ _ _)
      | (with_reducible exact mount_Reach.mono _ _)
      | (with_reducible exact observatorylaw13_through.mono _ _)
      | (with_reducible exact LeO.refl _)
      | (with_reducible exact LeO.none _)
      | (with_reducible refine LeO.ite ?_ ?_)
      | (with_reducible refine LeO.bind ?_ (fun _ => ?_))
      | exact ih0 _ _ _ _ _ _ _
      | exact ih1 _ _ _ _ _ _ _ _ _ _ _
      | exact ih2 _ _ _ _ _ _ _ _ _ _ _ _
      | exact ih3 _ _ _ _ _ _ _ _ _ _ _ _ _
      | exact ih4 _ _ _ _ _ _ _ _ _ _ _ _
      | exact ih5 _ _ _ _ _ _ _ _ _ _ _ _ _
      | exact ih6 _ _ _ _ _ _ _ _ _ _ _ _
      | exact ih7 _ _ _ _ _ _ _ _ _ _ _ _ _
      | exact mount_Reach.mono _ _
      | exact observatorylaw13_through.mono _ _
      | exact LeO.none _
      | refine LeO.ite ?_ ?_
      | refine LeO.bind ?_ (fun _ => ?_)
    · intro y0 y1 y2 y3 y4 y5 y6 y7 y8 y9 y10
      unfold observatorylaw13_MountPlans.l0
      repeat' first
      | (with_reducible exact ih0 _ _ _ _ _ _ _)
      | (with_reducible exact ih1 _ _ _ _ _ _ _ _ _ _ _)
      | (with_reducible exact ih2 _ _ _ _ _ _ _ _ _ _ _ _)
      | (with_reducible exact ih3 _ _ _ _ _ _ _ _ _ _ _ _ _)
      | (with_reducible exact ih4 _ _ _ _ _ _ _ _ _ _ _ _)
      | (with_reducible exact ih5 _ _ _ _ _ _ _ _ _ _ _ _ _)
      | (with_reducible exact ih6 _ _ _ _ _ _ _ _ _ _ _ _)
      | (with_reducible exact ih7 _ _ _ _ _ _ _ _ _ _ _ _ _)
      | (with_reducible exact mount_Reach.mono _ _)
      | (with_reducible exact observatorylaw13_through.mono _ _)
      | (with_reducible exact LeO.refl _)
      | (with_reducible exact LeO.none _)
      | (with_reducible refine LeO.ite ?_ ?_)
      | (with_reducible refine LeO.bind ?_ (fun _ => ?_))
      | exact ih0 _ _ _ _ _ _ _
      | exact ih1 _ _ _ _ _ _ _ _ _ _ _
      | exact ih2 _ _ _ _ _ _ _ _ _ _ _ _
      | exact ih3 _ _ _ _ _ _ _ _ _ _ _ _ _
      | exact ih4 _ _ _ _ _ _ _ _ _ _ _ _
      | exact ih5 _ _ _ _ _ _ _ _ _ _ _ _ _
      | exact ih6 _ _ _ _ _ _ _ _ _ _ _ _
      | exact ih7 _ _ _ _ _ _ _ _ _ _ _ _ _
      | exact mount_Reach.mono _ _
      | exact observatorylaw13_through.mono _ _
      | exact LeO.none _
      | refine LeO.ite ?_ ?_
      | refine LeO.bind ?_ (fun _ => ?_)
    · intro y0 y1 y2 y3 y4 y5 y6 y7 y8 y9 y10 y11
      unfold observatorylaw13_MountPlans.j2
      repeat' first
      | (with_reducible exact ih0 _ _ _ _ _ _ _)
      | (with_reducible exact ih1 _ _ _ _ _ _ _ _ _ _ _)
      | (with_reducible exact ih2 _ _ _ _ _ _ _ _ _ _ _ _)
      | (with_reducible exact ih3 _ _ _ _ _ _ _ _ _ _ _ _ _)
      | (with_reducible exact ih4 _ _ _ _ _ _ _ _ _ _ _ _)
      | (with_reducible exact ih5 _ _ _ _ _ _ _ _ _ _ _ _ _)
      | (with_reducible exact ih6 _ _ _ _ _ _ _ _ _ _ _ _)
      | (with_reducible exact ih7 _ _ _ _ _ _ _ _ _ _ _ _ _)
      | (with_reducible exact mount_Reach.mono _ _)
      | (with_reducible exact observatorylaw13_through.mono _ _)
      | (with_reducible exact LeO.refl _)
      | (with_reducible exact LeO.none _)
      | (with_reducible refine LeO.ite ?_ ?_)
      | (with_reducible refine LeO.bind ?_ (fun _ => ?_))
      | exact ih0 _ _ _ _ _ _ _
      | exact ih1 _ _ _ _ _ _ _ _ _ _ _
      | exact ih2 _ _ _ _ _ _ _ _ _ _ _ _
      | exact ih3 _ _ _ _ _ _ _ _ _ _ _ _ _
      | exact ih4 _ _ _ _ _ _ _ _ _ _ _ _
      | exact ih5 _ _ _ _ _ _ _ _ _ _ _ _ _
      | exact ih6 _ _ _ _ _ _ _ _ _ _ _ _
      | exact ih7 _ _ _ _ _ _ _ _ _ _ _ _ _
      | exact mount_Reach.mono _ _
      | exact observatorylaw13_through.mono _ _
      | exact LeO.none _
      | refine LeO.ite ?_ ?_
      | refine LeO.bind ?_ (fun _ => ?_)
    · intro y0 y1 y2 y3 y4 y5 y6 y7 y8 y9 y10 y11 y12
      unfold observatorylaw13_MountPlans.j3
      repeat' first
      | (with_reducible exact ih0 _ _ _ _ _ _ _)
      | (with_reducible exact ih1 _ _ _ _ _ _ _ _ _ _ _)
      | (with_reducible exact ih2 _ _ _ _ _ _ _ _ _ _ _ _)
      | (with_reducible exact ih3 _ _ _ _ _ _ _ _ _ _ _ _ _)
      | (with_reducible exact ih4 _ _ _ _ _ _ _ _ _ _ _ _)
      | (with_reducible exact ih5 _ _ _ _ _ _ _ _ _ _ _ _ _)
      | (with_reducible exact ih6 _ _ _ _ _ _ _ _ _ _ _ _)
      | (with_reducible exact ih7 _ _ _ _ _ _ _ _ _ _ _ _ _)
      | (with_reducible exact mount_Reach.mono _ _)
      | (with_reducible exact observatorylaw13_through.mono _ _)
      | (with_reducible exact LeO.refl _)
      | (with_reducible exact LeO.none _)
      | (with_reducible refine LeO.ite ?_ ?_)
      | (with_reducible refine LeO.bind ?_ (fun _ => ?_))
      | exact ih0 _ _ _ _ _ _ _
      | exact ih1 _ _ _ _ _ _ _ _ _ _ _
      | exact ih2 _ _ _ _ _ _ _ _ _ _ _ _
      | exact ih3 _ _ _ _ _ _ _ _ _ _ _ _ _
      | exact ih4 _ _ _ _ _ _ _ _ _ _ _ _
      | exact ih5 _ _ _ _ _ _ _ _ _ _ _ _ _
      | exact ih6 _ _ _ _ _ _ _ _ _ _ _ _
      | exact ih7 _ _ _ _ _ _ _ _ _ _ _ _ _
      | exact mount_Reach.mono _ _
      | exact observatorylaw13_through.mono _ _
      | exact LeO.none _
      | refine LeO.ite ?_ ?_
      | refine LeO.bind ?_ (fun _ => ?_)
    · intro y0 y1 y2 y3 y4 y5 y6 y7 y8 y9 y10 y11
      unfold observatorylaw13_MountPlans.j4
      repeat' first
      | (with_reducible exact ih0 _ _ _ _ _ _ _)
      | (with_reducible exact ih1 _ _ _ _ _ _ _ _ _ _ _)
      | (with_reducible exact ih2 _ _ _ _ _ _ _ _ _ _ _ _)
      | (with_reducible exact ih3 _ _ _ _ _ _ _ _ _ _ _ _ _)
      | (with_reducible exact ih4 _ _ _ _ _ _ _ _ _ _ _ _)
      | (with_reducible exact ih5 _ _ _ _ _ _ _ _ _ _ _ _ _)
      | (with_reducible exact ih6 _ _ _ _ _ _ _ _ _ _ _ _)
      | (with_reducible exact ih7 _ _ _ _ _ _ _ _ _ _ _ _ _)
      | (with_reducible exact mount_Reach.mono _ _)
      | (with_reducible exact observatorylaw13_through.mono _ _)
      | (with_reducible exact LeO.refl _)
      | (with_reducible exact LeO.none _)
      | (with_reducible refine LeO.ite ?_ ?_)
      | (with_reducible refine LeO.bind ?_ (fun _ => ?_))
      | exact ih0 _ _ _ _ _ _ _
      | exact ih1 _ _ _ _ _ _ _ _ _ _ _
      | exact ih2 _ _ _ _ _ _ _ _ _ _ _ _
      | exact ih3 _ _ _ _ _ _ _ _ _ _ _ _ _
      | exact ih4 _ _ _ _ _ _ _ _ _ _ _ _
      | exact ih5 _ _ _ _ _ _ _ _ _ _ _ _ _
      | exact ih6 _ _ _ _ _ _ _ _ _ _ _ _
      | exact ih7 _ _ _ _ _ _ _ _ _ _ _ _ _
      | exact mount_Reach.mono _ _
      | exact observatorylaw13_through.mono _ _
      | exact LeO.none _
      | refine LeO.ite ?_ ?_
      | refine LeO.bind ?_ (fun _ => ?_)
    · intro y0 y1 y2 y3 y4 y5 y6 y7 y8 y9 y10 y11 y12
      unfold observatorylaw13_MountPlans.j5
      repeat' first
      | (with_reducible exact ih0 _ _ _ _ _ _ _)
      | (with_reducible exact ih1 _ _ _ _ _ _ _ _ _ _ _)
      | (with_reducible exact ih2 _ _ _ _ _ _ _ _ _ _ _ _)
      | (with_reducible exact ih3 _ _ _ _ _ _ _ _ _ _ _ _ _)
      | (with_reducible exact ih4 _ _ _ _ _ _ _ _ _ _ _ _)
      | (with_reducible exact ih5 _ _ _ _ _ _ _ _ _ _ _ _ _)
      | (with_reducible exact ih6 _ _ _ _ _ _ _ _ _ _ _ _)
      | (with_reducible exact ih7 _ _ _ _ _ _ _ _ _ _ _ _ _)
      | (with_reducible exact mount_Reach.mono _ _)
      | (with_reducible exact observatorylaw13_through.mono _ _)
      | (with_reducible exact LeO.refl _)
      | (with_reducible exact LeO.none _)
      | (with_reducible refine LeO.ite ?_ ?_)
      | (with_reducible refine LeO.bind ?_ (fun _ => ?_))
      | exact ih0 _ _ _ _ _ _ _
      | exact ih1 _ _ _ _ _ _ _ _ _ _ _
      | exact ih2 _ _ _ _ _ _ _ _ _ _ _ _
      | exact ih3 _ _ _ _ _ _ _ _ _ _ _ _ _
      | exact ih4 _ _ _ _ _ _ _ _ _ _ _ _
      | exact ih5 _ _ _ _ _ _ _ _ _ _ _ _ _
      | exact ih6 _ _ _ _ _ _ _ _ _ _ _ _
      | exact ih7 _ _ _ _ _ _ _ _ _ _ _ _ _
      | exact mount_Reach.mono _ _
      | exact observatorylaw13_through.mono _ _
      | exact LeO.none _
      | refine LeO.ite ?_ ?_
      | refine LeO.bind ?_ (fun _ => ?_)
    · intro y0 y1 y2 y3 y4 y5 y6 y7 y8 y9 y10 y11
      unfold observatorylaw13_MountPlans.j6
      repeat' first
      | (with_reducible exact ih0 _ _ _ _ _ _ _)
      | (with_reducible exact ih1 _ _ _ _ _ _ _ _ _ _ _)
      | (with_reducible exact ih2 _ _ _ _ _ _ _ _ _ _ _ _)
      | (with_reducible exact ih3 _ _ _ _ _ _ _ _ _ _ _ _ _)
      | (with_reducible exact ih4 _ _ _ _ _ _ _ _ _ _ _ _)
      | (with_reducible exact ih5 _ _ _ _ _ _ _ _ _ _ _ _ _)
      | (with_reducible exact ih6 _ _ _ _ _ _ _ _ _ _ _ _)
      | (with_reducible exact ih7 _ _ _ _ _ _ _ _ _ _ _ _ _)
      | (with_reducible exact mount_Reach.mono _ _)
      | (with_reducible exact observatorylaw13_through.mono _ _)
      | (with_reducible exact LeO.refl _)
      | (with_reducible exact LeO.none _)
      | (with_reducible refine LeO.ite ?_ ?_)
      | (with_reducible refine LeO.bind ?_ (fun _ => ?_))
      | exact ih0 _ _ _ _ _ _ _
      | exact ih1 _ _ _ _ _ _ _ _ _ _ _
      | exact ih2 _ _ _ _ _ _ _ _ _ _ _ _
      | exact ih3 _ _ _ _ _ _ _ _ _ _ _ _ _
      | exact ih4 _ _ _ _ _ _ _ _ _ _ _ _
      | exact ih5 _ _ _ _ _ _ _ _ _ _ _ _ _
      | exact ih6 _ _ _ _ _ _ _ _ _ _ _ _
      | exact ih7 _ _ _ _ _ _ _ _ _ _ _ _ _
      | exact mount_Reach.mono _ _
      | exact observatorylaw13_through.mono _ _
      | exact LeO.none _
      | refine LeO.ite ?_ ?_
      | refine LeO.bind ?_ (fun _ => ?_)
    · intro y0 y1 y2 y3 y4 y5 y6 y7 y8 y9 y10 y11 y12
      unfold observatorylaw13_MountPlans.j7
      repeat' first
      | (with_reducible exact ih0 _ _ _ _ _ _ _)
      | (with_reducible exact ih1 _ _ _ _ _ _ _ _ _ _ _)
      | (with_reducible exact ih2 _ _ _ _ _ _ _ _ _ _ _ _)
      | (with_reducible exact ih3 _ _ _ _ _ _ _ _ _ _ _ _ _)
      | (with_reducible exact ih4 _ _ _ _ _ _ _ _ _ _ _ _)
      | (with_reducible exact ih5 _ _ _ _ _ _ _ _ _ _ _ _ _)
      | (with_reducible exact ih6 _ _ _ _ _ _ _ _ _ _ _ _)
      | (with_reducible exact ih7 _ _ _ _ _ _ _ _ _ _ _ _ _)
      | (with_reducible exact mount_Reach.mono _ _)
      | (with_reducible exact observatorylaw13_through.mono _ _)
      | (with_reducible exact LeO.refl _)
      | (with_reducible exact LeO.none _)
      | (with_reducible refine LeO.ite ?_ ?_)
      | (with_reducible refine LeO.bind ?_ (fun _ => ?_))
      | exact ih0 _ _ _ _ _ _ _
      | exact ih1 _ _ _ _ _ _ _ _ _ _ _
      | exact ih2 _ _ _ _ _ _ _ _ _ _ _ _
      | exact ih3 _ _ _ _ _ _ _ _ _ _ _ _ _
      | exact ih4 _ _ _ _ _ _ _ _ _ _ _ _
      | exact ih5 _ _ _ _ _ _ _ _ _ _ _ _ _
      | exact ih6 _ _ _ _ _ _ _ _ _ _ _ _
      | exact ih7 _ _ _ _ _ _ _ _ _ _ _ _ _
      | exact mount_Reach.mono _ _
      | exact observatorylaw13_through.mono _ _
      | exact LeO.none _
      | refine LeO.ite ?_ ?_
      | refine LeO.bind ?_ (fun _ => ?_)
theorem observatorylaw13_MountPlans.mono : ∀ a0 a1 a2 k, LeO (observatorylaw13_MountPlans.f k a0 a1 a2) (observatorylaw13_MountPlans.f (k + 1) a0 a1 a2) := by
  intro a0 a1 a2 k
  obtain ⟨ih0, ih1, ih2, ih3, ih4, ih5, ih6, ih7⟩ := observatorylaw13_MountPlans.mono_l k
  unfold observatorylaw13_MountPlans.f
  repeat' first
      | (with_reducible exact ih0 _ _ _ _ _ _ _)
      | (with_reducible exact ih1 _ _ _ _ _ _ _ _ _ _ _)
      | (with_reducible exact ih2 _ _ _ _ _ _ _ _ _ _ _ _)
      | (with_reducible exact ih3 _ _ _ _ _ _ _ _ _ _ _ _ _)
      | (with_reducible exact ih4 _ _ _ _ _ _ _ _ _ _ _ _)
      | (with_reducible exact ih5 _ _ _ _ _ _ _ _ _ _ _ _ _)
      | (with_reducible exact ih6 _ _ _ _ _ _ _ _ _ _ _ _)
      | (with_reducible exact ih7 _ _ _ _ _ _ _ _ _ _ _ _ _)
      | (with_reducible exact mount_Reach.mono _ _)
      | (with_reducible exact observatorylaw13_through.mono _ _)
      | (with_reducible exact LeO.refl _)
      | (with_reducible exact LeO.none _)
      | (with_reducible refine LeO.ite ?_ ?_)
      | (with_reducible refine LeO.bind ?_ (fun _ => ?_))
      | exact ih0 _ _ _ _ _ _ _
      | exact ih1 _ _ _ _ _ _ _ _ _ _ _
      | exact ih2 _ _ _ _ _ _ _ _ _ _ _ _
      | exact ih3 _ _ _ _ _ _ _ _ _ _ _ _ _
      | exact ih4 _ _ _ _ _ _ _ _ _ _ _ _
      | exact ih5 _ _ _ _ _ _ _ _ _ _ _ _ _
      | exact ih6 _ _ _ _ _ _ _ _ _ _ _ _
      | exact ih7 _ _ _ _ _ _ _ _ _ _ _ _ _
      | exact mount_Reach.mono _ _
      | exact observatorylaw13_through.mono _ _
      | exact LeO.none _
      | refine LeO.ite ?_ ?_
      | refine LeO.bind ?_ (fun _ => ?_)
set_option maxHeartbeats 8000000 in
set_option maxRecDepth 100000 in
theorem observatorylaw13_MountPlans.calls (k : Nat) (a0 : Int) (A1 : Option Addr) (c1 : Nat) (l1 : List Int) (A2 : Option Addr) (c2 : Nat) (l2 : List Int) (r : Bool) (w : World) (hT : r = true) (hr1 : Kd.C (Kd.int .u8) w A1 l1.length l1) (hc1 : l1.length ≤ c1) (hr2 : Kd.C (Kd.int .u8) w A2 l2.length l2) (hc2 : l2.length ≤ c2) (h : observatorylaw13_MountPlans.f k a0 l1 l2 = some r) :
    Calls Try.prog 5 #[.int .u8 a0, .slice A1 l1.length c1, .slice A2 l2.length c2] w fun e w' => e = .returned (.bool r) ∧ Below w.heap.size w w' := by
  have HR1 := Aside0.mk hr1
  have HC1 := Aside0.mk hc1
  clear hr1 hc1
  have HR2 := Aside0.mk hr2
  have HC2 := Aside0.mk hc2
  clear hr2 hc2
  have HB := Aside0.mk (Below.refl w.heap.size w)
  have HT_ := Aside0.mk hT
  clear hT
  have H : ((observatorylaw13_head.f).bind fun t188 => ((observatorylaw13_position.f a0).bind fun t189 => ((observatorylaw13_through.f k l1).bind fun t190 => ((mount_Plan.f t189 t190).bind fun bt193 => (if (t190.length : Int) > 40 then (if t188 = true then (if bt193.2.2 = 1 then (if (bt193.1.length : Int) = 0 then (some (bt193.2.1 == 0)) else (some false)) else (some false)) else (some false)) else (if bt193.2.2 = 0 then (observatorylaw13_MountPlans.j0 k l2 t188 t189 t190 bt193.1 bt193.2.1 ((bt193.1.length : Int) != (t190.length : Int))) else (observatorylaw13_MountPlans.j0 k l2 t188 t189 t190 bt193.1 bt193.2.1 true))))))) = some r := h
  clear h
  replace H := Option.bind_eq_some_iff.mp H
  obtain ⟨t188, A40, H⟩ := H
  replace H : ((observatorylaw13_position.f a0).bind fun t189 => ((observatorylaw13_through.f k l1).bind fun t190 => ((mount_Plan.f t189 t190).bind fun bt193 => (if (t190.length : Int) > 40 then (if t188 = true then (if bt193.2.2 = 1 then (if (bt193.1.length : Int) = 0 then (some (bt193.2.1 == 0)) else (some false)) else (some false)) else (some false)) else (if bt193.2.2 = 0 then (observatorylaw13_MountPlans.j0 k l2 t188 t189 t190 bt193.1 bt193.2.1 ((bt193.1.length : Int) != (t190.length : Int))) else (observatorylaw13_MountPlans.j0 k l2 t188 t189 t190 bt193.1 bt193.2.1 true)))))) = some r := H
  have A4 := Aside0.mk A40
  clear A40
  replace H := Option.bind_eq_some_iff.mp H
  obtain ⟨t189, A50, H⟩ := H
  replace H : ((observatorylaw13_through.f k l1).bind fun t190 => ((mount_Plan.f t189 t190).bind fun bt193 => (if (t190.length : Int) > 40 then (if t188 = true then (if bt193.2.2 = 1 then (if (bt193.1.length : Int) = 0 then (some (bt193.2.1 == 0)) else (some false)) else (some false)) else (some false)) else (if bt193.2.2 = 0 then (observatorylaw13_MountPlans.j0 k l2 t188 t189 t190 bt193.1 bt193.2.1 ((bt193.1.length : Int) != (t190.length : Int))) else (observatorylaw13_MountPlans.j0 k l2 t188 t189 t190 bt193.1 bt193.2.1 true))))) = some r := H
  have A5 := Aside0.mk A50
  clear A50
  replace H := Option.bind_eq_some_iff.mp H
  obtain ⟨t190, A60, H⟩ := H
  replace H : ((mount_Plan.f t189 t190).bind fun bt193 => (if (t190.length : Int) > 40 then (if t188 = true then (if bt193.2.2 = 1 then (if (bt193.1.length : Int) = 0 then (some (bt193.2.1 == 0)) else (some false)) else (some false)) else (some false)) else (if bt193.2.2 = 0 then (observatorylaw13_MountPlans.j0 k l2 t188 t189 t190 bt193.1 bt193.2.1 ((bt193.1.length : Int) != (t190.length : Int))) else (observatorylaw13_MountPlans.j0 k l2 t188 t189 t190 bt193.1 bt193.2.1 true)))) = some r := H
  have A6 := Aside0.mk A60
  clear A60
  replace H := Option.bind_eq_some_iff.mp H
  obtain ⟨⟨t193, t194, t195⟩, A70, H⟩ := H
  replace H : (if (t190.length : Int) > 40 then (if t188 = true then (if t195 = 1 then (if (t193.length : Int) = 0 then (some (t194 == 0)) else (some false)) else (some false)) else (some false)) else (if t195 = 0 then (observatorylaw13_MountPlans.j0 k l2 t188 t189 t190 t193 t194 ((t193.length : Int) != (t190.length : Int))) else (observatorylaw13_MountPlans.j0 k l2 t188 t189 t190 t193 t194 true))) = some r := H
  have A7 := Aside0.mk A70
  clear A70
  by_cases c8 : (t190.length : Int) > 40
  · rw [if_pos c8] at H
    have c8b0 : decide (40 < (t190.length : Int)) = true := decide_eq_true c8
    have c8b1 : decide (40 < t190.length) = true := decide_eq_true (by omega)
    clear c8
    by_cases c9 : t188 = true
    · subst c9
      have H1 : (if t195 = 1 then (if (t193.length : Int) = 0 then (some (t194 == 0)) else (some false)) else (some false)) = some r := by rw [if_pos rfl] at H; exact H
      clear H
      have H := H1
      clear H1
      by_cases c10 : t195 = 1
      · rw [if_pos c10] at H
        have c10b0 : (t195 == 1) = true := beq_iff_eq.mpr c10
        have c10b1 : (t195 != 1) = false := bne_eq_false_iff_eq.mpr c10
        clear c10
        by_cases c11 : (t193.length : Int) = 0
        · rw [if_pos c11] at H
          have c11b0 : ((t193.length : Int) == 0) = true := beq_iff_eq.mpr c11
          have c11b1 : ((t193.length : Int) != 0) = false := bne_eq_false_iff_eq.mpr c11
          clear c11
          obtain rfl := Option.some.inj H
          go_enter Try.func5, Try.ntmps5
          go_wp2_with (first | (go_at_call 8; (with_reducible refine (observatorylaw13_head.calls  true _ A4.out).mono ?_); rintro e w12 ⟨rfl, hb⟩; have n0_ := Aside0.mk (below_step (by repeat (first | (with_reducible first | exact HB.out | apply below_alloc | apply pw_below_drewN | apply below_drew1) | exact HB.out)) hb); clear HB; have HB := n0_; clear n0_; (try clear hb); (try clear hb2); (try clear hk); (try clear hi)) | (go_at_call 16; (with_reducible refine (observatorylaw13_position.calls a0 t189 _ A5.out).mono ?_); rintro e w' ⟨rfl, ⟨nd, rfl⟩⟩; (try first | exact ⟨rfl, _, World.drewN_drewN _ _ _⟩ | exact ⟨rfl, _, Eq.trans (World.drewN_drewN _ _ _) (congrArg (World.drewN _) (Nat.add_assoc _ _ _))⟩)) | (go_at_call 19; (with_reducible refine (observatorylaw13_through.calls k _ _ l1 t190 _ ?side1 ?side2 A6.out).mono ?_); (case side1 => repeat (first | exact (Kd.C_below HR1.out (by repeat (first | (with_reducible first | exact HB.out | apply below_alloc | apply pw_below_drewN | apply below_drew1) | exact HB.out))) | (with_reducible refine Kd.C_alloc ?_ _) | (with_reducible refine Kd.C_drewN ?_ _) | (with_reducible refine Kd.C_drew ?_))); (case side2 => exact HC1.out); rintro e w13 ⟨v191, rfl, ho0, hb⟩; have n0_ := Aside0.mk (Kd.R_lower ho0 (below_size (by repeat (first | (with_reducible first | exact HB.out | apply below_alloc | apply pw_below_drewN | apply below_drew1) | exact HB.out)))); have n1_ := Aside0.mk (below_step (by repeat (first | (with_reducible first | exact HB.out | apply below_alloc | apply pw_below_drewN | apply below_drew1) | exact HB.out)) hb); clear HB; have HO192 := n0_; have HB := n1_; clear n0_ n1_; (try clear hb); (try clear hb2); (try clear hk); (try clear hi); (try clear ho0); obtain ⟨Ao14, co14, eo14⟩ := Kd.R_slice HO192.out; subst eo14) | (go_at_call 13; (with_reducible refine (mount_Plan.calls t189 _ _ t190 t193 t194 t195 _ ?side1 ?side2 A7.out).mono ?_); (case side1 => repeat (first | exact (Kd.R_reads' HO192.out).2.2 | (with_reducible refine Kd.C_alloc ?_ _) | (with_reducible refine Kd.C_drewN ?_ _) | (with_reducible refine Kd.C_drew ?_))); (case side2 => exact (Kd.R_reads' HO192.out).2.1); rintro e w15 ⟨v196, rfl, ho0, hb⟩; have n0_ := Aside0.mk (Kd.R_elder' (by (with_reducible repeat (first | apply Kd.R_alloc | apply Kd.R_drewN | apply Kd.R_drew)); exact HO192.out) (Kd.R_base ho0) hb); have n1_ := Aside0.mk (Kd.R_lower (Kd.R_new' ho0 (Kd.R_lt (by (with_reducible repeat (first | apply Kd.R_alloc | apply Kd.R_drewN | apply Kd.R_drew)); exact HO192.out))) (below_size (by repeat (first | (with_reducible first | exact HB.out | apply below_alloc | apply pw_below_drewN | apply below_drew1) | exact HB.out)))); have n2_ := Aside0.mk (below_step (by repeat (first | (with_reducible first | exact HB.out | apply below_alloc | apply pw_below_drewN | apply below_drew1) | exact HB.out)) hb); clear HO192; clear HB; have HO192 := n0_; have HO197 := n1_; have HB := n2_; clear n0_ n1_ n2_; (try clear hb); (try clear hb2); (try clear hk); (try clear hi); (try clear ho0); obtain ⟨Ao16, co16, eo16⟩ := Kd.R_slice HO197.out; subst eo16))
          repeat (go_quiet (first | (go_at_call 8; (with_reducible refine (observatorylaw13_head.calls  true _ A4.out).mono ?_); rintro e w12 ⟨rfl, hb⟩; have n0_ := Aside0.mk (below_step (by repeat (first | (with_reducible first | exact HB.out | apply below_alloc | apply pw_below_drewN | apply below_drew1) | exact HB.out)) hb); clear HB; have HB := n0_; clear n0_; (try clear hb); (try clear hb2); (try clear hk); (try clear hi)) | (go_at_call 16; (with_reducible refine (observatorylaw13_position.calls a0 t189 _ A5.out).mono ?_); rintro e w' ⟨rfl, ⟨nd, rfl⟩⟩; (try first | exact ⟨rfl, _, World.drewN_drewN _ _ _⟩ | exact ⟨rfl, _, Eq.trans (World.drewN_drewN _ _ _) (congrArg (World.drewN _) (Nat.add_assoc _ _ _))⟩)) | (go_at_call 19; (with_reducible refine (observatorylaw13_through.calls k _ _ l1 t190 _ ?side1 ?side2 A6.out).mono ?_); (case side1 => repeat (first | exact (Kd.C_below HR1.out (by repeat (first | (with_reducible first | exact HB.out | apply below_alloc | apply pw_below_drewN | apply below_drew1) | exact HB.out))) | (with_reducible refine Kd.C_alloc ?_ _) | (with_reducible refine Kd.C_drewN ?_ _) | (with_reducible refine Kd.C_drew ?_))); (case side2 => exact HC1.out); rintro e w13 ⟨v191, rfl, ho0, hb⟩; have n0_ := Aside0.mk (Kd.R_lower ho0 (below_size (by repeat (first | (with_reducible first | exact HB.out | apply below_alloc | apply pw_below_drewN | apply below_drew1) | exact HB.out)))); have n1_ := Aside0.mk (below_step (by repeat (first | (with_reducible first | exact HB.out | apply below_alloc | apply pw_below_drewN | apply below_drew1) | exact HB.out)) hb); clear HB; have HO192 := n0_; have HB := n1_; clear n0_ n1_; (try clear hb); (try clear hb2); (try clear hk); (try clear hi); (try clear ho0); obtain ⟨Ao14, co14, eo14⟩ := Kd.R_slice HO192.out; subst eo14) | (go_at_call 13; (with_reducible refine (mount_Plan.calls t189 _ _ t190 t193 t194 t195 _ ?side1 ?side2 A7.out).mono ?_); (case side1 => repeat (first | exact (Kd.R_reads' HO192.out).2.2 | (with_reducible refine Kd.C_alloc ?_ _) | (with_reducible refine Kd.C_drewN ?_ _) | (with_reducible refine Kd.C_drew ?_))); (case side2 => exact (Kd.R_reads' HO192.out).2.1); rintro e w15 ⟨v196, rfl, ho0, hb⟩; have n0_ := Aside0.mk (Kd.R_elder' (by (with_reducible repeat (first | apply Kd.R_alloc | apply Kd.R_drewN | apply Kd.R_drew)); exact HO192.out) (Kd.R_base ho0) hb); have n1_ := Aside0.mk (Kd.R_lower (Kd.R_new' ho0 (Kd.R_lt (by (with_reducible repeat (first | apply Kd.R_alloc | apply Kd.R_drewN | apply Kd.R_drew)); exact HO192.out))) (below_size (by repeat (first | (with_reducible first | exact HB.out | apply below_alloc | apply pw_below_drewN | apply below_drew1) | exact HB.out)))); have n2_ := Aside0.mk (below_step (by repeat (first | (with_reducible first | exact HB.out | apply below_alloc | apply pw_below_drewN | apply below_drew1) | exact HB.out)) hb); clear HO192; clear HB; have HO192 := n0_; have HO197 := n1_; have HB := n2_; clear n0_ n1_ n2_; (try clear hb); (try clear hb2); (try clear hk); (try clear hi); (try clear ho0); obtain ⟨Ao16, co16, eo16⟩ := Kd.R_slice HO197.out; subst eo16)); try go_wp2_with (first | (go_at_call 8; (with_reducible refine (observatorylaw13_head.calls  true _ A4.out).mono ?_); rintro e w12 ⟨rfl, hb⟩; have n0_ := Aside0.mk (below_step (by repeat (first | (with_reducible first | exact HB.out | apply below_alloc | apply pw_below_drewN | apply below_drew1) | exact HB.out)) hb); clear HB; have HB := n0_; clear n0_; (try clear hb); (try clear hb2); (try clear hk); (try clear hi)) | (go_at_call 16; (with_reducible refine (observatorylaw13_position.calls a0 t189 _ A5.out).mono ?_); rintro e w' ⟨rfl, ⟨nd, rfl⟩⟩; (try first | exact ⟨rfl, _, World.drewN_drewN _ _ _⟩ | exact ⟨rfl, _, Eq.trans (World.drewN_drewN _ _ _) (congrArg (World.drewN _) (Nat.add_assoc _ _ _))⟩)) | (go_at_call 19; (with_reducible refine (observatorylaw13_through.calls k _ _ l1 t190 _ ?side1 ?side2 A6.out).mono ?_); (case side1 => repeat (first | exact (Kd.C_below HR1.out (by repeat (first | (with_reducible first | exact HB.out | apply below_alloc | apply pw_below_drewN | apply below_drew1) | exact HB.out))) | (with_reducible refine Kd.C_alloc ?_ _) | (with_reducible refine Kd.C_drewN ?_ _) | (with_reducible refine Kd.C_drew ?_))); (case side2 => exact HC1.out); rintro e w13 ⟨v191, rfl, ho0, hb⟩; have n0_ := Aside0.mk (Kd.R_lower ho0 (below_size (by repeat (first | (with_reducible first | exact HB.out | apply below_alloc | apply pw_below_drewN | apply below_drew1) | exact HB.out)))); have n1_ := Aside0.mk (below_step (by repeat (first | (with_reducible first | exact HB.out | apply below_alloc | apply pw_below_drewN | apply below_drew1) | exact HB.out)) hb); clear HB; have HO192 := n0_; have HB := n1_; clear n0_ n1_; (try clear hb); (try clear hb2); (try clear hk); (try clear hi); (try clear ho0); obtain ⟨Ao14, co14, eo14⟩ := Kd.R_slice HO192.out; subst eo14) | (go_at_call 13; (with_reducible refine (mount_Plan.calls t189 _ _ t190 t193 t194 t195 _ ?side1 ?side2 A7.out).mono ?_); (case side1 => repeat (first | exact (Kd.R_reads' HO192.out).2.2 | (with_reducible refine Kd.C_alloc ?_ _) | (with_reducible refine Kd.C_drewN ?_ _) | (with_reducible refine Kd.C_drew ?_))); (case side2 => exact (Kd.R_reads' HO192.out).2.1); rintro e w15 ⟨v196, rfl, ho0, hb⟩; have n0_ := Aside0.mk (Kd.R_elder' (by (with_reducible repeat (first | apply Kd.R_alloc | apply Kd.R_drewN | apply Kd.R_drew)); exact HO192.out) (Kd.R_base ho0) hb); have n1_ := Aside0.mk (Kd.R_lower (Kd.R_new' ho0 (Kd.R_lt (by (with_reducible repeat (first | apply Kd.R_alloc | apply Kd.R_drewN | apply Kd.R_drew)); exact HO192.out))) (below_size (by repeat (first | (with_reducible first | exact HB.out | apply below_alloc | apply pw_below_drewN | apply below_drew1) | exact HB.out)))); have n2_ := Aside0.mk (below_step (by repeat (first | (with_reducible first | exact HB.out | apply below_alloc | apply pw_below_drewN | apply below_drew1) | exact HB.out)) hb); clear HO192; clear HB; have HO192 := n0_; have HO197 := n1_; have HB := n2_; clear n0_ n1_ n2_; (try clear hb); (try clear hb2); (try clear hk); (try clear hi); (try clear ho0); obtain ⟨Ao16, co16, eo16⟩ := Kd.R_slice HO197.out; subst eo16)))
          go_ret
          exact ⟨by first | rfl | (simp [errW_none, errW_some] <;> rfl) | (simp [*, errW_none, errW_some] <;> rfl), by repeat (first | (with_reducible first | exact HB.out | apply below_alloc | apply pw_below_drewN | apply below_drew1) | exact HB.out)⟩
        · rw [if_neg c11] at H
          have c11b0 : ((t193.length : Int) == 0) = false := beq_eq_false_iff_ne.mpr c11
          have c11b1 : ((t193.length : Int) != 0) = true := bne_iff_ne.mpr c11
          have c11b2 : ¬ (t193 = []) := fun h_ => c11 (by rw [h_]; rfl)
          exact absurd ((Option.some.inj H).trans HT_.out) (by decide)
      · rw [if_neg c10] at H
        have c10b0 : (t195 == 1) = false := beq_eq_false_iff_ne.mpr c10
        have c10b1 : (t195 != 1) = true := bne_iff_ne.mpr c10
        exact absurd ((Option.some.inj H).trans HT_.out) (by decide)
    · replace c9 := Bool.eq_false_iff.mpr c9
      subst c9
      have H1 : (some false) = some r := by rw [if_neg (show ¬ (false = true) by decide)] at H; exact H
      clear H
      have H := H1
      clear H1
      exact absurd ((Option.some.inj H).trans HT_.out) (by decide)
  · rw [if_neg c8] at H
    have c8b0 : decide (40 < (t190.length : Int)) = false := decide_eq_false c8
    have c8b1 : decide (40 < t190.length) = false := decide_eq_false (by omega)
    clear c8
    have HC17 := Aside0.mk H
    clear H
    go_enter Try.func5, Try.ntmps5
    go_upto_region 6 with (first | (go_at_call 8; (with_reducible refine (observatorylaw13_head.calls  t188 _ A4.out).mono ?_); rintro e w18 ⟨rfl, hb⟩; have n0_ := Aside0.mk (below_step (by repeat (first | (with_reducible first | exact HB.out | apply below_alloc | apply pw_below_drewN | apply below_drew1) | exact HB.out)) hb); clear HB; have HB := n0_; clear n0_; (try clear hb); (try clear hb2); (try clear hk); (try clear hi)) | (go_at_call 16; (with_reducible refine (observatorylaw13_position.calls a0 t189 _ A5.out).mono ?_); rintro e w' ⟨rfl, ⟨nd, rfl⟩⟩; (try first | exact ⟨rfl, _, World.drewN_drewN _ _ _⟩ | exact ⟨rfl, _, Eq.trans (World.drewN_drewN _ _ _) (congrArg (World.drewN _) (Nat.add_assoc _ _ _))⟩)) | (go_at_call 19; (with_reducible refine (observatorylaw13_through.calls k _ _ l1 t190 _ ?side1 ?side2 A6.out).mono ?_); (case side1 => repeat (first | exact (Kd.C_below HR1.out (by repeat (first | (with_reducible first | exact HB.out | apply below_alloc | apply pw_below_drewN | apply below_drew1) | exact HB.out))) | (with_reducible refine Kd.C_alloc ?_ _) | (with_reducible refine Kd.C_drewN ?_ _) | (with_reducible refine Kd.C_drew ?_))); (case side2 => exact HC1.out); rintro e w19 ⟨v191, rfl, ho0, hb⟩; have n0_ := Aside0.mk (Kd.R_lower ho0 (below_size (by repeat (first | (with_reducible first | exact HB.out | apply below_alloc | apply pw_below_drewN | apply below_drew1) | exact HB.out)))); have n1_ := Aside0.mk (below_step (by repeat (first | (with_reducible first | exact HB.out | apply below_alloc | apply pw_below_drewN | apply below_drew1) | exact HB.out)) hb); clear HB; have HO192 := n0_; have HB := n1_; clear n0_ n1_; (try clear hb); (try clear hb2); (try clear hk); (try clear hi); (try clear ho0); obtain ⟨Ao20, co20, eo20⟩ := Kd.R_slice HO192.out; subst eo20) | (go_at_call 13; (with_reducible refine (mount_Plan.calls t189 _ _ t190 t193 t194 t195 _ ?side1 ?side2 A7.out).mono ?_); (case side1 => repeat (first | exact (Kd.R_reads' HO192.out).2.2 | (with_reducible refine Kd.C_alloc ?_ _) | (with_reducible refine Kd.C_drewN ?_ _) | (with_reducible refine Kd.C_drew ?_))); (case side2 => exact (Kd.R_reads' HO192.out).2.1); rintro e w21 ⟨v196, rfl, ho0, hb⟩; have n0_ := Aside0.mk (Kd.R_elder' (by (with_reducible repeat (first | apply Kd.R_alloc | apply Kd.R_drewN | apply Kd.R_drew)); exact HO192.out) (Kd.R_base ho0) hb); have n1_ := Aside0.mk (Kd.R_lower (Kd.R_new' ho0 (Kd.R_lt (by (with_reducible repeat (first | apply Kd.R_alloc | apply Kd.R_drewN | apply Kd.R_drew)); exact HO192.out))) (below_size (by repeat (first | (with_reducible first | exact HB.out | apply below_alloc | apply pw_below_drewN | apply below_drew1) | exact HB.out)))); have n2_ := Aside0.mk (below_step (by repeat (first | (with_reducible first | exact HB.out | apply below_alloc | apply pw_below_drewN | apply below_drew1) | exact HB.out)) hb); clear HO192; clear HB; have HO192 := n0_; have HO197 := n1_; have HB := n2_; clear n0_ n1_ n2_; (try clear hb); (try clear hb2); (try clear hk); (try clear hi); (try clear ho0)))
    repeat (go_quiet (first | (go_at_call 8; (with_reducible refine (observatorylaw13_head.calls  t188 _ A4.out).mono ?_); rintro e w18 ⟨rfl, hb⟩; have n0_ := Aside0.mk (below_step (by repeat (first | (with_reducible first | exact HB.out | apply below_alloc | apply pw_below_drewN | apply below_drew1) | exact HB.out)) hb); clear HB; have HB := n0_; clear n0_; (try clear hb); (try clear hb2); (try clear hk); (try clear hi)) | (go_at_call 16; (with_reducible refine (observatorylaw13_position.calls a0 t189 _ A5.out).mono ?_); rintro e w' ⟨rfl, ⟨nd, rfl⟩⟩; (try first | exact ⟨rfl, _, World.drewN_drewN _ _ _⟩ | exact ⟨rfl, _, Eq.trans (World.drewN_drewN _ _ _) (congrArg (World.drewN _) (Nat.add_assoc _ _ _))⟩)) | (go_at_call 19; (with_reducible refine (observatorylaw13_through.calls k _ _ l1 t190 _ ?side1 ?side2 A6.out).mono ?_); (case side1 => repeat (first | exact (Kd.C_below HR1.out (by repeat (first | (with_reducible first | exact HB.out | apply below_alloc | apply pw_below_drewN | apply below_drew1) | exact HB.out))) | (with_reducible refine Kd.C_alloc ?_ _) | (with_reducible refine Kd.C_drewN ?_ _) | (with_reducible refine Kd.C_drew ?_))); (case side2 => exact HC1.out); rintro e w19 ⟨v191, rfl, ho0, hb⟩; have n0_ := Aside0.mk (Kd.R_lower ho0 (below_size (by repeat (first | (with_reducible first | exact HB.out | apply below_alloc | apply pw_below_drewN | apply below_drew1) | exact HB.out)))); have n1_ := Aside0.mk (below_step (by repeat (first | (with_reducible first | exact HB.out | apply below_alloc | apply pw_below_drewN | apply below_drew1) | exact HB.out)) hb); clear HB; have HO192 := n0_; have HB := n1_; clear n0_ n1_; (try clear hb); (try clear hb2); (try clear hk); (try clear hi); (try clear ho0); obtain ⟨Ao20, co20, eo20⟩ := Kd.R_slice HO192.out; subst eo20) | (go_at_call 13; (with_reducible refine (mount_Plan.calls t189 _ _ t190 t193 t194 t195 _ ?side1 ?side2 A7.out).mono ?_); (case side1 => repeat (first | exact (Kd.R_reads' HO192.out).2.2 | (with_reducible refine Kd.C_alloc ?_ _) | (with_reducible refine Kd.C_drewN ?_ _) | (with_reducible refine Kd.C_drew ?_))); (case side2 => exact (Kd.R_reads' HO192.out).2.1); rintro e w21 ⟨v196, rfl, ho0, hb⟩; have n0_ := Aside0.mk (Kd.R_elder' (by (with_reducible repeat (first | apply Kd.R_alloc | apply Kd.R_drewN | apply Kd.R_drew)); exact HO192.out) (Kd.R_base ho0) hb); have n1_ := Aside0.mk (Kd.R_lower (Kd.R_new' ho0 (Kd.R_lt (by (with_reducible repeat (first | apply Kd.R_alloc | apply Kd.R_drewN | apply Kd.R_drew)); exact HO192.out))) (below_size (by repeat (first | (with_reducible first | exact HB.out | apply below_alloc | apply pw_below_drewN | apply below_drew1) | exact HB.out)))); have n2_ := Aside0.mk (below_step (by repeat (first | (with_reducible first | exact HB.out | apply below_alloc | apply pw_below_drewN | apply below_drew1) | exact HB.out)) hb); clear HO192; clear HB; have HO192 := n0_; have HO197 := n1_; have HB := n2_; clear n0_ n1_ n2_; (try clear hb); (try clear hb2); (try clear hk); (try clear hi); (try clear ho0))); go_upto_region 6 with (first | (go_at_call 8; (with_reducible refine (observatorylaw13_head.calls  t188 _ A4.out).mono ?_); rintro e w18 ⟨rfl, hb⟩; have n0_ := Aside0.mk (below_step (by repeat (first | (with_reducible first | exact HB.out | apply below_alloc | apply pw_below_drewN | apply below_drew1) | exact HB.out)) hb); clear HB; have HB := n0_; clear n0_; (try clear hb); (try clear hb2); (try clear hk); (try clear hi)) | (go_at_call 16; (with_reducible refine (observatorylaw13_position.calls a0 t189 _ A5.out).mono ?_); rintro e w' ⟨rfl, ⟨nd, rfl⟩⟩; (try first | exact ⟨rfl, _, World.drewN_drewN _ _ _⟩ | exact ⟨rfl, _, Eq.trans (World.drewN_drewN _ _ _) (congrArg (World.drewN _) (Nat.add_assoc _ _ _))⟩)) | (go_at_call 19; (with_reducible refine (observatorylaw13_through.calls k _ _ l1 t190 _ ?side1 ?side2 A6.out).mono ?_); (case side1 => repeat (first | exact (Kd.C_below HR1.out (by repeat (first | (with_reducible first | exact HB.out | apply below_alloc | apply pw_below_drewN | apply below_drew1) | exact HB.out))) | (with_reducible refine Kd.C_alloc ?_ _) | (with_reducible refine Kd.C_drewN ?_ _) | (with_reducible refine Kd.C_drew ?_))); (case side2 => exact HC1.out); rintro e w19 ⟨v191, rfl, ho0, hb⟩; have n0_ := Aside0.mk (Kd.R_lower ho0 (below_size (by repeat (first | (with_reducible first | exact HB.out | apply below_alloc | apply pw_below_drewN | apply below_drew1) | exact HB.out)))); have n1_ := Aside0.mk (below_step (by repeat (first | (with_reducible first | exact HB.out | apply below_alloc | apply pw_below_drewN | apply below_drew1) | exact HB.out)) hb); clear HB; have HO192 := n0_; have HB := n1_; clear n0_ n1_; (try clear hb); (try clear hb2); (try clear hk); (try clear hi); (try clear ho0); obtain ⟨Ao20, co20, eo20⟩ := Kd.R_slice HO192.out; subst eo20) | (go_at_call 13; (with_reducible refine (mount_Plan.calls t189 _ _ t190 t193 t194 t195 _ ?side1 ?side2 A7.out).mono ?_); (case side1 => repeat (first | exact (Kd.R_reads' HO192.out).2.2 | (with_reducible refine Kd.C_alloc ?_ _) | (with_reducible refine Kd.C_drewN ?_ _) | (with_reducible refine Kd.C_drew ?_))); (case side2 => exact (Kd.R_reads' HO192.out).2.1); rintro e w21 ⟨v196, rfl, ho0, hb⟩; have n0_ := Aside0.mk (Kd.R_elder' (by (with_reducible repeat (first | apply Kd.R_alloc | apply Kd.R_drewN | apply Kd.R_drew)); exact HO192.out) (Kd.R_base ho0) hb); have n1_ := Aside0.mk (Kd.R_lower (Kd.R_new' ho0 (Kd.R_lt (by (with_reducible repeat (first | apply Kd.R_alloc | apply Kd.R_drewN | apply Kd.R_drew)); exact HO192.out))) (below_size (by repeat (first | (with_reducible first | exact HB.out | apply below_alloc | apply pw_below_drewN | apply below_drew1) | exact HB.out)))); have n2_ := Aside0.mk (below_step (by repeat (first | (with_reducible first | exact HB.out | apply below_alloc | apply pw_below_drewN | apply below_drew1) | exact HB.out)) hb); clear HO192; clear HB; have HO192 := n0_; have HO197 := n1_; have HB := n2_; clear n0_ n1_ n2_; (try clear hb); (try clear hb2); (try clear hk); (try clear hi); (try clear ho0))))
    (try simp only [Act.put, List.setIfInBounds_toArray, List.set_cons_zero, List.set_cons_succ])
    go_cut [59] (fun v59 wc => ∃ (kq : Nat) (x59_16 : Bool), v59 = .bool x59_16 ∧ Aside0 (observatorylaw13_MountPlans.j0 kq l2 t188 t189 t190 t193 t194 x59_16 = some r) ∧ Aside0 (kq ≤ k) ∧ Aside0 (Kd.R (Kd.int .i64) 3 wc w.heap.size (fun k_ => some k_ ≠ (v196 : Value).ownBlock) (.slice Ao20 t190.length co20) t190) ∧ Aside0 (Kd.R (Kd.int .i64) 3 wc w.heap.size (fun k_ => some k_ ≠ ((.slice Ao20 t190.length co20) : Value).ownBlock) v196 t193) ∧ Aside0 (Below w.heap.size w wc))
    case first =>
      have H := HC17.out
      clear HC17
      by_cases c22 : t195 = 0
      · rw [if_pos c22] at H
        have c22b0 : (t195 == 0) = true := beq_iff_eq.mpr c22
        have c22b1 : (t195 != 0) = false := bne_eq_false_iff_eq.mpr c22
        clear c22
        (first | rw [c22b0] | (simp only [i64_w, i32_w]; rw [c22b0]) | skip)
        have H' := Aside0.mk H
        clear H
        obtain ⟨Ao23, co23, eo23⟩ := Kd.R_slice HO197.out
        subst eo23
        go_wp2
        repeat (go_quiet (fail); try go_wp2)
        go_meet
        case rel => exact ⟨_, (((t193.length : Int) != (t190.length : Int))), (by first | rfl | (simp; done) | (simp [*]; done)), H', ⟨by first | omega | exact Nat.le_refl _⟩, ⟨by (with_reducible repeat (first | apply Kd.R_alloc | apply Kd.R_drewN | apply Kd.R_drew)); exact Kd.R_mono HO192.out (fun _ hk => hk.2)⟩, ⟨by (with_reducible repeat (first | apply Kd.R_alloc | apply Kd.R_drewN | apply Kd.R_drew)); exact Kd.R_mono HO197.out (fun _ hk => hk.2)⟩, ⟨by repeat (first | (with_reducible first | exact HB.out | apply below_alloc | apply pw_below_drewN | apply below_drew1) | exact HB.out)⟩⟩
      · rw [if_neg c22] at H
        have c22b0 : (t195 == 0) = false := beq_eq_false_iff_ne.mpr c22
        have c22b1 : (t195 != 0) = true := bne_iff_ne.mpr c22
        (first | rw [c22b0] | (simp only [i64_w, i32_w]; rw [c22b0]) | skip)
        have H' := Aside0.mk H
        clear H
        go_wp2
        repeat (go_quiet (fail); try go_wp2)
        go_meet
        case rel => exact ⟨_, (true), (by first | rfl | (simp; done) | (simp [*]; done)), H', ⟨by first | omega | exact Nat.le_refl _⟩, ⟨by (with_reducible repeat (first | apply Kd.R_alloc | apply Kd.R_drewN | apply Kd.R_drew)); exact Kd.R_mono HO192.out (fun _ hk => hk.2)⟩, ⟨by (with_reducible repeat (first | apply Kd.R_alloc | apply Kd.R_drewN | apply Kd.R_drew)); exact Kd.R_mono HO197.out (fun _ hk => hk.2)⟩, ⟨by repeat (first | (with_reducible first | exact HB.out | apply below_alloc | apply pw_below_drewN | apply below_drew1) | exact HB.out)⟩⟩
    case rest =>
      clear HC17
      try clear c1
      try clear c2
      try clear p2
      try clear c5
      try clear c8
      try clear c8b0
      try clear c8b1
      try clear c9
      try clear c10
      try clear c10b0
      try clear c10b1
      try clear c11
      try clear c11b0
      try clear c11b1
      try clear c11b2
      try clear c22
      try clear c22b0
      try clear c22b1
      obtain ⟨kq, x59_16, rfl, HA, HJ16, HO_9, HO_10, HB⟩ := hcut
      cases kq with
      | zero => exact absurd HA.out (by simp [observatorylaw13_MountPlans.j0])
      | succ kj16 =>
        have H := HA.out
        clear HA
        simp only [observatorylaw13_MountPlans.j0] at H
        by_cases c24 : x59_16 = true
        · subst c24
          have H1 : (some false) = some r := by rw [if_pos rfl] at H; exact H
          clear H
          have H := H1
          clear H1
          exact absurd ((Option.some.inj H).trans HT_.out) (by decide)
        · replace c24 := Bool.eq_false_iff.mpr c24
          subst c24
          have H1 : (observatorylaw13_MountPlans.l0 kj16 l2 t188 t190 t193 t194 0 0 t189 t189 0 0) = some r := by rw [if_neg (show ¬ (false = true) by decide)] at H; exact H
          clear H
          have H := H1
          clear H1
          have H' := Aside0.mk H
          clear H
          go_wp2
          repeat (go_quiet (fail); try go_wp2)
          go_loopg [13, 14, 15, 16, 17, 18] kj16 (fun kq v13 v14 v15 v16 v17 v18 w' => ∃ (x13_2 : Int) (x14_2 : Int) (x15_2 : Int) (x16_2 : Int) (x17_2 : Int) (x18_2 : Int), v13 = .int .i64 x13_2 ∧ v14 = .int .i64 x14_2 ∧ v15 = .int .i64 x15_2 ∧ v16 = .int .i64 x16_2 ∧ v17 = .int .i64 x17_2 ∧ v18 = .int .i64 x18_2 ∧ Aside0 (observatorylaw13_MountPlans.l0 kq l2 t188 t190 t193 t194 x13_2 x14_2 x15_2 x16_2 x17_2 x18_2 = some r) ∧ Aside0 (kq ≤ kj16) ∧ Aside0 (Kd.R (Kd.int .i64) 3 w' w.heap.size (fun k_ => some k_ ≠ (v196 : Value).ownBlock) (.slice Ao20 t190.length co20) t190) ∧ Aside0 (Kd.R (Kd.int .i64) 3 w' w.heap.size (fun k_ => some k_ ≠ ((.slice Ao20 t190.length co20) : Value).ownBlock) v196 t193) ∧ Aside0 (Below w.heap.size w w'))
          case atStart => exact ⟨(0), (0), (t189), (t189), (0), (0), (by first | rfl | (simp; done) | (simp [*]; done)), (by first | rfl | (simp; done) | (simp [*]; done)), (by first | rfl | (simp; done) | (simp [*]; done)), (by first | rfl | (simp; done) | (simp [*]; done)), (by first | rfl | (simp; done) | (simp [*]; done)), (by first | rfl | (simp; done) | (simp [*]; done)), H', ⟨Nat.le_refl _⟩, ⟨by (with_reducible repeat (first | apply Kd.R_alloc | apply Kd.R_drewN | apply Kd.R_drew)); exact HO_9.out⟩, ⟨by (with_reducible repeat (first | apply Kd.R_alloc | apply Kd.R_drewN | apply Kd.R_drew)); exact HO_10.out⟩, ⟨by repeat (first | (with_reducible first | exact HB.out | apply below_alloc | apply pw_below_drewN | apply below_drew1) | exact HB.out)⟩⟩
          case round =>
            clear H'
            try clear c1
            try clear c2
            try clear p2
            try clear c5
            try clear c8
            try clear c8b0
            try clear c8b1
            try clear c9
            try clear c10
            try clear c10b0
            try clear c10b1
            try clear c11
            try clear c11b0
            try clear c11b1
            try clear c11b2
            try clear c22
            try clear c22b0
            try clear c22b1
            try clear c24
            try clear p2
            obtain ⟨x13_2, x14_2, x15_2, x16_2, x17_2, x18_2, rfl, rfl, rfl, rfl, rfl, rfl, HA, HK2, HO_9, HO_10, HB⟩ := hrel
            cases gk with
            | zero => exact absurd HA.out (by simp [observatorylaw13_MountPlans.l0])
            | succ k2 =>
              have H := HA.out
              clear HA
              simp only [observatorylaw13_MountPlans.l0] at H
              by_cases c25 : x18_2 < (t193.length : Int)
              · rw [if_pos c25] at H
                have c25b0 : decide (x18_2 < (t193.length : Int)) = true := decide_eq_true c25
                clear c25
                have HC26 := Aside0.mk H
                clear H
                obtain ⟨Ao27, co27, eo27⟩ := Kd.R_slice HO_10.out
                subst eo27
                go_upto_region 14 with (fail)
                repeat (go_quiet (fail); go_upto_region 14 with (fail))
                go_cut [92] (fun v92 wc => ∃ (kq : Nat) (x92_25 : Bool), v92 = .bool x92_25 ∧ Aside0 (observatorylaw13_MountPlans.j2 kq l2 t188 t190 t193 t194 x13_2 x14_2 x15_2 x16_2 x17_2 x18_2 x92_25 = some r) ∧ Aside0 (kq ≤ k2) ∧ Aside0 (Kd.R (Kd.int .i64) 3 wc w.heap.size (fun k_ => some k_ ≠ ((.slice Ao27 t193.length co27) : Value).ownBlock) (.slice Ao20 t190.length co20) t190) ∧ Aside0 (Kd.R (Kd.int .i64) 3 wc w.heap.size (fun k_ => some k_ ≠ ((.slice Ao20 t190.length co20) : Value).ownBlock) (.slice Ao27 t193.length co27) t193) ∧ Aside0 (Below w.heap.size w wc))
                case first =>
                  have H := HC26.out
                  clear HC26
                  by_cases c28 : 0 ≤ x18_2
                  · rw [if_pos c28] at H
                    have c28b0 : decide (0 ≤ x18_2) = true := decide_eq_true c28
                    clear c28
                    (first | rw [c28b0] | (simp only [i64_w, i32_w]; rw [c28b0]) | skip)
                    by_cases c29 : (rd t193 x18_2) < (-48)
                    · rw [if_pos c29] at H
                      have c29b0 : decide ((rd t193 x18_2) < (-48)) = true := decide_eq_true c29
                      clear c29
                      have H' := Aside0.mk H
                      clear H
                      have p198 : 0 ≤ (x18_2 : Int) := of_decide_eq_true (by first | (with_reducible assumption) | assumption)
                      have q198 : x18_2 < (t193.length : Int) := of_decide_eq_true (by first | (with_reducible assumption) | assumption)
                      obtain ⟨ad198, e198, hx198_0⟩ := Kd.at_int (Kd.R_reads' HO_10.out).2.2 x18_2 p198 q198
                      cases e198
                      replace p198 := eq_true p198
                      replace q198 := eq_true q198
                      go_wp2
                      repeat (go_quiet (fail); try go_wp2)
                      go_meet
                      case rel => exact ⟨_, (true), (by first | rfl | (simp; done) | (simp [*]; done)), H', ⟨by have := HJ16.out; have := HK2.out; first | omega | exact Nat.le_refl _⟩, ⟨by (with_reducible repeat (first | apply Kd.R_alloc | apply Kd.R_drewN | apply Kd.R_drew)); exact HO_9.out⟩, ⟨by (with_reducible repeat (first | apply Kd.R_alloc | apply Kd.R_drewN | apply Kd.R_drew)); exact HO_10.out⟩, ⟨by repeat (first | (with_reducible first | exact HB.out | apply below_alloc | apply pw_below_drewN | apply below_drew1) | exact HB.out)⟩⟩
                    · rw [if_neg c29] at H
                      have c29b0 : decide ((rd t193 x18_2) < (-48)) = false := decide_eq_false c29
                      clear c29
                      by_cases c30 : (rd t193 x18_2) > 48
                      · rw [if_pos c30] at H
                        have c30b0 : decide (48 < (rd t193 x18_2)) = true := decide_eq_true c30
                        clear c30
                        have H' := Aside0.mk H
                        clear H
                        have p198 : 0 ≤ (x18_2 : Int) := of_decide_eq_true (by first | (with_reducible assumption) | assumption)
                        have q198 : x18_2 < (t193.length : Int) := of_decide_eq_true (by first | (with_reducible assumption) | assumption)
                        obtain ⟨ad198, e198, hx198_0⟩ := Kd.at_int (Kd.R_reads' HO_10.out).2.2 x18_2 p198 q198
                        cases e198
                        replace p198 := eq_true p198
                        replace q198 := eq_true q198
                        have p199 : 0 ≤ (x18_2 : Int) := of_decide_eq_true (by first | (with_reducible assumption) | assumption)
                        have q199 : x18_2 < (t193.length : Int) := of_decide_eq_true (by first | (with_reducible assumption) | assumption)
                        obtain ⟨ad199, e199, hx199_0⟩ := Kd.at_int (Kd.R_reads' HO_10.out).2.2 x18_2 p199 q199
                        obtain rfl : ad198 = ad199 := (by injection e199)
                        replace p199 := eq_true p199
                        replace q199 := eq_true q199
                        go_wp2
                        repeat (go_quiet (fail); try go_wp2)
                        go_meet
                        case rel => exact ⟨_, (true), (by first | rfl | (simp; done) | (simp [*]; done)), H', ⟨by have := HJ16.out; have := HK2.out; first | omega | exact Nat.le_refl _⟩, ⟨by (with_reducible repeat (first | apply Kd.R_alloc | apply Kd.R_drewN | apply Kd.R_drew)); exact HO_9.out⟩, ⟨by (with_reducible repeat (first | apply Kd.R_alloc | apply Kd.R_drewN | apply Kd.R_drew)); exact HO_10.out⟩, ⟨by repeat (first | (with_reducible first | exact HB.out | apply below_alloc | apply pw_below_drewN | apply below_drew1) | exact HB.out)⟩⟩
                      · rw [if_neg c30] at H
                        have c30b0 : decide (48 < (rd t193 x18_2)) = false := decide_eq_false c30
                        clear c30
                        by_cases c31 : x18_2 < (t190.length : Int)
                        · rw [if_pos c31] at H
                          have c31b0 : decide (x18_2 < (t190.length : Int)) = true := decide_eq_true c31
                          clear c31
                          have H' := Aside0.mk H
                          clear H
                          have p198 : 0 ≤ (x18_2 : Int) := of_decide_eq_true (by first | (with_reducible assumption) | assumption)
                          have q198 : x18_2 < (t193.length : Int) := of_decide_eq_true (by first | (with_reducible assumption) | assumption)
                          obtain ⟨ad198, e198, hx198_0⟩ := Kd.at_int (Kd.R_reads' HO_10.out).2.2 x18_2 p198 q198
                          cases e198
                          replace p198 := eq_true p198
                          replace q198 := eq_true q198
                          have p199 : 0 ≤ (x18_2 : Int) := of_decide_eq_true (by first | (with_reducible assumption) | assumption)
                          have q199 : x18_2 < (t193.length : Int) := of_decide_eq_true (by first | (with_reducible assumption) | assumption)
                          obtain ⟨ad199, e199, hx199_0⟩ := Kd.at_int (Kd.R_reads' HO_10.out).2.2 x18_2 p199 q199
                          obtain rfl : ad198 = ad199 := (by injection e199)
                          replace p199 := eq_true p199
                          replace q199 := eq_true q199
                          have p200 : 0 ≤ (x18_2 : Int) := of_decide_eq_true (by first | (with_reducible assumption) | assumption)
                          have q200 : x18_2 < (t193.length : Int) := of_decide_eq_true (by first | (with_reducible assumption) | assumption)
                          obtain ⟨ad200, e200, hx200_0⟩ := Kd.at_int (Kd.R_reads' HO_10.out).2.2 x18_2 p200 q200
                          obtain rfl : ad198 = ad200 := (by injection e200)
                          replace p200 := eq_true p200
                          replace q200 := eq_true q200
                          have p201 : 0 ≤ (x18_2 : Int) := of_decide_eq_true (by first | (with_reducible assumption) | assumption)
                          have q201 : x18_2 < (t190.length : Int) := of_decide_eq_true (by first | (with_reducible assumption) | assumption)
                          obtain ⟨ad201, e201, hx201_0⟩ := Kd.at_int (Kd.R_reads' HO_9.out).2.2 x18_2 p201 q201
                          cases e201
                          replace p201 := eq_true p201
                          replace q201 := eq_true q201
                          go_wp2
                          repeat (go_quiet (fail); try go_wp2)
                          go_meet
                          case rel => exact ⟨_, (((Int.tmod (wrap64 ((rd t193 x18_2) + 64)) 32) != (rd t190 x18_2))), (by first | rfl | (simp; done) | (simp [*]; done)), H', ⟨by have := HJ16.out; have := HK2.out; first | omega | exact Nat.le_refl _⟩, ⟨by (with_reducible repeat (first | apply Kd.R_alloc | apply Kd.R_drewN | apply Kd.R_drew)); exact HO_9.out⟩, ⟨by (with_reducible repeat (first | apply Kd.R_alloc | apply Kd.R_drewN | apply Kd.R_drew)); exact HO_10.out⟩, ⟨by repeat (first | (with_reducible first | exact HB.out | apply below_alloc | apply pw_below_drewN | apply below_drew1) | exact HB.out)⟩⟩
                        · rw [if_neg c31] at H
                          exact absurd H (by simp)
                  · rw [if_neg c28] at H
                    exact absurd H (by simp)
                case rest =>
                  clear HC26
                  try clear c1
                  try clear p1
                  try clear q1
                  try clear hx1
                  try clear c2
                  try clear p2
                  try clear q2
                  try clear hx2
                  try clear c3
                  try clear c5
                  try clear p6
                  try clear c8
                  try clear c8b0
                  try clear c8b1
                  try clear c9
                  try clear c10
                  try clear c10b0
                  try clear c10b1
                  try clear c11
                  try clear c11b0
                  try clear c11b1
                  try clear c11b2
                  try clear p19
                  try clear q19
                  try clear hx19
                  try clear p20
                  try clear q20
                  try clear hx20
                  try clear c22
                  try clear c22b0
                  try clear c22b1
                  try clear c24
                  try clear c25
                  try clear c25b0
                  try clear c28
                  try clear c28b0
                  try clear c29
                  try clear c29b0
                  try clear c30
                  try clear c30b0
                  try clear c31
                  try clear c31b0
                  try clear hx198_0
                  try clear hx199_0
                  try clear hx200_0
                  try clear hx201_0
                  try clear p198
                  try clear p199
                  try clear p2
                  try clear p200
                  try clear p201
                  try clear q198
                  try clear q199
                  try clear q200
                  try clear q201
                  obtain ⟨kq, x92_25, rfl, HA, HJ25, HO_9, HO_10, HB⟩ := hcut
                  cases kq with
                  | zero => exact absurd HA.out (by simp [observatorylaw13_MountPlans.j2])
                  | succ kj25 =>
                    have H := HA.out
                    clear HA
                    simp only [observatorylaw13_MountPlans.j2] at H
                    by_cases c32 : x92_25 = true
                    · subst c32
                      have H1 : (some false) = some r := by rw [if_pos rfl] at H; exact H
                      clear H
                      have H := H1
                      clear H1
                      exact absurd ((Option.some.inj H).trans HT_.out) (by decide)
                    · replace c32 := Bool.eq_false_iff.mpr c32
                      subst c32
                      have H1 : (if 0 ≤ x18_2 then (if x18_2 < (t190.length : Int) then ((mount_Reach.f kj25 (rd t190 x18_2)).bind fun bt203 => (if bt203.2 = 0 then (observatorylaw13_MountPlans.j3 kj25 l2 t188 t190 t193 t194 x13_2 x14_2 x15_2 x16_2 x17_2 x18_2 bt203.1 ((bt203.1.length : Int) == 0)) else (observatorylaw13_MountPlans.j3 kj25 l2 t188 t190 t193 t194 x13_2 x14_2 x15_2 x16_2 x17_2 x18_2 bt203.1 true))) else (none)) else (none)) = some r := by rw [if_neg (show ¬ (false = true) by decide)] at H; exact H
                      clear H
                      have H := H1
                      clear H1
                      by_cases c33 : 0 ≤ x18_2
                      · rw [if_pos c33] at H
                        have c33b0 : decide (0 ≤ x18_2) = true := decide_eq_true c33
                        clear c33
                        by_cases c34 : x18_2 < (t190.length : Int)
                        · rw [if_pos c34] at H
                          have c34b0 : decide (x18_2 < (t190.length : Int)) = true := decide_eq_true c34
                          clear c34
                          replace H := Option.bind_eq_some_iff.mp H
                          obtain ⟨⟨t203, t204⟩, A350, H⟩ := H
                          replace H : (if t204 = 0 then (observatorylaw13_MountPlans.j3 kj25 l2 t188 t190 t193 t194 x13_2 x14_2 x15_2 x16_2 x17_2 x18_2 t203 ((t203.length : Int) == 0)) else (observatorylaw13_MountPlans.j3 kj25 l2 t188 t190 t193 t194 x13_2 x14_2 x15_2 x16_2 x17_2 x18_2 t203 true)) = some r := H
                          have A35 := Aside0.mk A350
                          clear A350
                          have HC36 := Aside0.mk H
                          clear H
                          have p202 : 0 ≤ (x18_2 : Int) := of_decide_eq_true (by first | (with_reducible assumption) | assumption)
                          have q202 : x18_2 < (t190.length : Int) := of_decide_eq_true (by first | (with_reducible assumption) | assumption)
                          obtain ⟨ad202, e202, hx202_0⟩ := Kd.at_int (Kd.R_reads' HO_9.out).2.2 x18_2 p202 q202
                          cases e202
                          replace p202 := eq_true p202
                          replace q202 := eq_true q202
                          go_upto_region 17 with (first | (go_at_call 9; (with_reducible refine (mount_Reach.calls kj25 (rd t190 x18_2) t203 t204 _ A35.out).mono ?_); rintro e w37 ⟨v205, rfl, ho0, hb⟩; have n0_ := Aside0.mk (Kd.R_elder' (by (with_reducible repeat (first | apply Kd.R_alloc | apply Kd.R_drewN | apply Kd.R_drew)); exact HO_9.out) (Kd.R_base ho0) hb); have n1_ := Aside0.mk (Kd.R_elder' (by (with_reducible repeat (first | apply Kd.R_alloc | apply Kd.R_drewN | apply Kd.R_drew)); exact HO_10.out) (Kd.R_base ho0) hb); have n2_ := Aside0.mk (Kd.R_lower (Kd.R_new' (Kd.R_new' ho0 (Kd.R_lt (by (with_reducible repeat (first | apply Kd.R_alloc | apply Kd.R_drewN | apply Kd.R_drew)); exact HO_9.out))) (Kd.R_lt (by (with_reducible repeat (first | apply Kd.R_alloc | apply Kd.R_drewN | apply Kd.R_drew)); exact HO_10.out))) (below_size (by repeat (first | (with_reducible first | exact HB.out | apply below_alloc | apply pw_below_drewN | apply below_drew1) | exact HB.out)))); have n3_ := Aside0.mk (below_step (by repeat (first | (with_reducible first | exact HB.out | apply below_alloc | apply pw_below_drewN | apply below_drew1) | exact HB.out)) hb); clear HO_9; clear HO_10; clear HB; have HO_9 := n0_; have HO_10 := n1_; have HO206 := n2_; have HB := n3_; clear n0_ n1_ n2_ n3_; (try clear hb); (try clear hb2); (try clear hk); (try clear hi); (try clear ho0)))
                          repeat (go_quiet (first | (go_at_call 9; (with_reducible refine (mount_Reach.calls kj25 (rd t190 x18_2) t203 t204 _ A35.out).mono ?_); rintro e w37 ⟨v205, rfl, ho0, hb⟩; have n0_ := Aside0.mk (Kd.R_elder' (by (with_reducible repeat (first | apply Kd.R_alloc | apply Kd.R_drewN | apply Kd.R_drew)); exact HO_9.out) (Kd.R_base ho0) hb); have n1_ := Aside0.mk (Kd.R_elder' (by (with_reducible repeat (first | apply Kd.R_alloc | apply Kd.R_drewN | apply Kd.R_drew)); exact HO_10.out) (Kd.R_base ho0) hb); have n2_ := Aside0.mk (Kd.R_lower (Kd.R_new' (Kd.R_new' ho0 (Kd.R_lt (by (with_reducible repeat (first | apply Kd.R_alloc | apply Kd.R_drewN | apply Kd.R_drew)); exact HO_9.out))) (Kd.R_lt (by (with_reducible repeat (first | apply Kd.R_alloc | apply Kd.R_drewN | apply Kd.R_drew)); exact HO_10.out))) (below_size (by repeat (first | (with_reducible first | exact HB.out | apply below_alloc | apply pw_below_drewN | apply below_drew1) | exact HB.out)))); have n3_ := Aside0.mk (below_step (by repeat (first | (with_reducible first | exact HB.out | apply below_alloc | apply pw_below_drewN | apply below_drew1) | exact HB.out)) hb); clear HO_9; clear HO_10; clear HB; have HO_9 := n0_; have HO_10 := n1_; have HO206 := n2_; have HB := n3_; clear n0_ n1_ n2_ n3_; (try clear hb); (try clear hb2); (try clear hk); (try clear hi); (try clear ho0))); go_upto_region 17 with (first | (go_at_call 9; (with_reducible refine (mount_Reach.calls kj25 (rd t190 x18_2) t203 t204 _ A35.out).mono ?_); rintro e w37 ⟨v205, rfl, ho0, hb⟩; have n0_ := Aside0.mk (Kd.R_elder' (by (with_reducible repeat (first | apply Kd.R_alloc | apply Kd.R_drewN | apply Kd.R_drew)); exact HO_9.out) (Kd.R_base ho0) hb); have n1_ := Aside0.mk (Kd.R_elder' (by (with_reducible repeat (first | apply Kd.R_alloc | apply Kd.R_drewN | apply Kd.R_drew)); exact HO_10.out) (Kd.R_base ho0) hb); have n2_ := Aside0.mk (Kd.R_lower (Kd.R_new' (Kd.R_new' ho0 (Kd.R_lt (by (with_reducible repeat (first | apply Kd.R_alloc | apply Kd.R_drewN | apply Kd.R_drew)); exact HO_9.out))) (Kd.R_lt (by (with_reducible repeat (first | apply Kd.R_alloc | apply Kd.R_drewN | apply Kd.R_drew)); exact HO_10.out))) (below_size (by repeat (first | (with_reducible first | exact HB.out | apply below_alloc | apply pw_below_drewN | apply below_drew1) | exact HB.out)))); have n3_ := Aside0.mk (below_step (by repeat (first | (with_reducible first | exact HB.out | apply below_alloc | apply pw_below_drewN | apply below_drew1) | exact HB.out)) hb); clear HO_9; clear HO_10; clear HB; have HO_9 := n0_; have HO_10 := n1_; have HO206 := n2_; have HB := n3_; clear n0_ n1_ n2_ n3_; (try clear hb); (try clear hb2); (try clear hk); (try clear hi); (try clear ho0))))
                          (try simp only [Act.put, List.setIfInBounds_toArray, List.set_cons_zero, List.set_cons_succ])
                          go_cut [107] (fun v107 wc => ∃ (kq : Nat) (x107_35 : Bool), v107 = .bool x107_35 ∧ Aside0 (observatorylaw13_MountPlans.j3 kq l2 t188 t190 t193 t194 x13_2 x14_2 x15_2 x16_2 x17_2 x18_2 t203 x107_35 = some r) ∧ Aside0 (kq ≤ kj25) ∧ Aside0 (Kd.R (Kd.int .i64) 3 wc w.heap.size (fun k_ => some k_ ≠ ((.slice Ao27 t193.length co27) : Value).ownBlock ∧ some k_ ≠ (v205 : Value).ownBlock) (.slice (some ad202) t190.length co20) t190) ∧ Aside0 (Kd.R (Kd.int .i64) 3 wc w.heap.size (fun k_ => some k_ ≠ ((.slice (some ad202) t190.length co20) : Value).ownBlock ∧ some k_ ≠ (v205 : Value).ownBlock) (.slice Ao27 t193.length co27) t193) ∧ Aside0 (Kd.R (Kd.int .i64) 3 wc w.heap.size (fun k_ => some k_ ≠ ((.slice (some ad202) t190.length co20) : Value).ownBlock ∧ some k_ ≠ ((.slice Ao27 t193.length co27) : Value).ownBlock) v205 t203) ∧ Aside0 (Below w.heap.size w wc))
                          case first =>
                            have H := HC36.out
                            clear HC36
                            by_cases c38 : t204 = 0
                            · rw [if_pos c38] at H
                              have c38b0 : (t204 == 0) = true := beq_iff_eq.mpr c38
                              have c38b1 : (t204 != 0) = false := bne_eq_false_iff_eq.mpr c38
                              clear c38
                              (first | rw [c38b0] | (simp only [i64_w, i32_w]; rw [c38b0]) | skip)
                              have H' := Aside0.mk H
                              clear H
                              obtain ⟨Ao39, co39, eo39⟩ := Kd.R_slice HO206.out
                              subst eo39
                              go_wp2
                              repeat (go_quiet (fail); try go_wp2)
                              go_meet
                              case rel => exact ⟨_, (((t203.length : Int) == 0)), (by first | rfl | (simp; done) | (simp [*]; done)), H', ⟨by have := HJ16.out; have := HK2.out; have := HJ25.out; first | omega | exact Nat.le_refl _⟩, ⟨by (with_reducible repeat (first | apply Kd.R_alloc | apply Kd.R_drewN | apply Kd.R_drew)); exact HO_9.out⟩, ⟨by (with_reducible repeat (first | apply Kd.R_alloc | apply Kd.R_drewN | apply Kd.R_drew)); exact HO_10.out⟩, ⟨by (with_reducible repeat (first | apply Kd.R_alloc | apply Kd.R_drewN | apply Kd.R_drew)); exact Kd.R_mono HO206.out (fun _ hk => ⟨hk.1.2, hk.2⟩)⟩, ⟨by repeat (first | (with_reducible first | exact HB.out | apply below_alloc | apply pw_below_drewN | apply below_drew1) | exact HB.out)⟩⟩
                            · rw [if_neg c38] at H
                              have c38b0 : (t204 == 0) = false := beq_eq_false_iff_ne.mpr c38
                              have c38b1 : (t204 != 0) = true := bne_iff_ne.mpr c38
                              (first | rw [c38b0] | (simp only [i64_w, i32_w]; rw [c38b0]) | skip)
                              have H' := Aside0.mk H
                              clear H
                              go_wp2
                              repeat (go_quiet (fail); try go_wp2)
                              go_meet
                              case rel => exact ⟨_, (true), (by first | rfl | (simp; done) | (simp [*]; done)), H', ⟨by have := HJ16.out; have := HK2.out; have := HJ25.out; first | omega | exact Nat.le_refl _⟩, ⟨by (with_reducible repeat (first | apply Kd.R_alloc | apply Kd.R_drewN | apply Kd.R_drew)); exact HO_9.out⟩, ⟨by (with_reducible repeat (first | apply Kd.R_alloc | apply Kd.R_drewN | apply Kd.R_drew)); exact HO_10.out⟩, ⟨by (with_reducible repeat (first | apply Kd.R_alloc | apply Kd.R_drewN | apply Kd.R_drew)); exact Kd.R_mono HO206.out (fun _ hk => ⟨hk.1.2, hk.2⟩)⟩, ⟨by repeat (first | (with_reducible first | exact HB.out | apply below_alloc | apply pw_below_drewN | apply below_drew1) | exact HB.out)⟩⟩
                          case rest =>
                            clear HC36
                            try clear c1
                            try clear p1
                            try clear q1
                            try clear hx1
                            try clear c2
                            try clear p2
                            try clear q2
                            try clear hx2
                            try clear c3
                            try clear c5
                            try clear p6
                            try clear c8
                            try clear c8b0
                            try clear c8b1
                            try clear c9
                            try clear c10
                            try clear c10b0
                            try clear c10b1
                            try clear c11
                            try clear c11b0
                            try clear c11b1
                            try clear c11b2
                            try clear p19
                            try clear q19
                            try clear hx19
                            try clear p20
                            try clear q20
                            try clear hx20
                            try clear c22
                            try clear c22b0
                            try clear c22b1
                            try clear c24
                            try clear c25
                            try clear c25b0
                            try clear c28
                            try clear c28b0
                            try clear c29
                            try clear c29b0
                            try clear c30
                            try clear c30b0
                            try clear c31
                            try clear c31b0
                            try clear c32
                            try clear c33
                            try clear c33b0
                            try clear c34
                            try clear c34b0
                            try clear c38
                            try clear c38b0
                            try clear c38b1
                            try clear hx198_0
                            try clear hx199_0
                            try clear hx200_0
                            try clear hx201_0
                            try clear hx202_0
                            try clear p1
                            try clear p19
                            try clear p198
                            try clear p199
                            try clear p2
                            try clear p20
                            try clear p200
                            try clear p201
                            try clear p202
                            try clear p6
                            try clear q1
                            try clear q19
                            try clear q198
                            try clear q199
                            try clear q2
                            try clear q20
                            try clear q200
                            try clear q201
                            try clear q202
                            obtain ⟨kq, x107_35, rfl, HA, HJ35, HO_9, HO_10, HO_19, HB⟩ := hcut
                            cases kq with
                            | zero => exact absurd HA.out (by simp [observatorylaw13_MountPlans.j3])
                            | succ kj35 =>
                              have H := HA.out
                              clear HA
                              simp only [observatorylaw13_MountPlans.j3] at H
                              by_cases c40 : x107_35 = true
                              · subst c40
                                have H1 : (some false) = some r := by rw [if_pos rfl] at H; exact H
                                clear H
                                have H := H1
                                clear H1
                                exact absurd ((Option.some.inj H).trans HT_.out) (by decide)
                              · replace c40 := Bool.eq_false_iff.mpr c40
                                subst c40
                                have H1 : (if 0 ≤ x18_2 then (if x18_2 < (t193.length : Int) then (if x18_2 < (l2.length : Int) then (if (t203.length : Int) = 0 then (none) else (if 0 ≤ (Int.tmod (wrap64 (rd l2 x18_2)) (t203.length : Int)) then (if (Int.tmod (wrap64 (rd l2 x18_2)) (t203.length : Int)) < (t203.length : Int) then (observatorylaw13_MountPlans.j4 kj35 l2 t188 t190 t193 t194 x13_2 x14_2 x15_2 x16_2 x17_2 x18_2 (rd t203 (Int.tmod (wrap64 (rd l2 x18_2)) (t203.length : Int)))) else (none)) else (none))) else (observatorylaw13_MountPlans.j4 kj35 l2 t188 t190 t193 t194 x13_2 x14_2 x15_2 x16_2 x17_2 x18_2 (rd t193 x18_2))) else (none)) else (none)) = some r := by rw [if_neg (show ¬ (false = true) by decide)] at H; exact H
                                clear H
                                have H := H1
                                clear H1
                                by_cases c41 : 0 ≤ x18_2
                                · rw [if_pos c41] at H
                                  have c41b0 : decide (0 ≤ x18_2) = true := decide_eq_true c41
                                  clear c41
                                  by_cases c42 : x18_2 < (t193.length : Int)
                                  · rw [if_pos c42] at H
                                    have c42b0 : decide (x18_2 < (t193.length : Int)) = true := decide_eq_true c42
                                    clear c42
                                    have HC43 := Aside0.mk H
                                    clear H
                                    have p207 : 0 ≤ (x18_2 : Int) := of_decide_eq_true (by first | (with_reducible assumption) | assumption)
                                    have q207 : x18_2 < (t193.length : Int) := of_decide_eq_true (by first | (with_reducible assumption) | assumption)
                                    obtain ⟨ad207, e207, hx207_0⟩ := Kd.at_int (Kd.R_reads' HO_10.out).2.2 x18_2 p207 q207
                                    cases e207
                                    replace p207 := eq_true p207
                                    replace q207 := eq_true q207
                                    go_upto_if 115 with (fail)
                                    repeat (go_quiet (fail); go_upto_if 115 with (fail))
                                    go_cut [21] (fun v21 wc => ∃ (kq : Nat) (x21_42 : Int), v21 = .int .i64 x21_42 ∧ Aside0 (observatorylaw13_MountPlans.j4 kq l2 t188 t190 t193 t194 x13_2 x14_2 x15_2 x16_2 x17_2 x18_2 x21_42 = some r) ∧ Aside0 (kq ≤ kj35) ∧ Aside0 (Kd.R (Kd.int .i64) 3 wc w.heap.size (fun k_ => some k_ ≠ ((.slice (some ad207) t193.length co27) : Value).ownBlock) (.slice (some ad202) t190.length co20) t190) ∧ Aside0 (Kd.R (Kd.int .i64) 3 wc w.heap.size (fun k_ => some k_ ≠ ((.slice (some ad202) t190.length co20) : Value).ownBlock) (.slice (some ad207) t193.length co27) t193) ∧ Aside0 (Below w.heap.size w wc))
                                    case first =>
                                      have H := HC43.out
                                      clear HC43
                                      by_cases c44 : x18_2 < (l2.length : Int)
                                      · rw [if_pos c44] at H
                                        have c44b0 : decide (x18_2 < (l2.length : Int)) = true := decide_eq_true c44
                                        clear c44
                                        (first | rw [c44b0] | (simp only [i64_w, i32_w]; rw [c44b0]) | skip)
                                        by_cases c45 : (t203.length : Int) = 0
                                        · rw [if_pos c45] at H
                                          exact absurd H (by simp)
                                        · rw [if_neg c45] at H
                                          have c45b0 : ((t203.length : Int) == 0) = false := beq_eq_false_iff_ne.mpr c45
                                          have c45b1 : ((t203.length : Int) != 0) = true := bne_iff_ne.mpr c45
                                          have c45b2 : ¬ (t203 = []) := fun h_ => c45 (by rw [h_]; rfl)
                                          obtain ⟨ji46, hji46⟩ : ∃ j_ : Int, (Int.tmod (wrap64 (rd l2 x18_2)) (t203.length : Int)) = j_ := ⟨_, rfl⟩
                                          replace H : (if 0 ≤ (ji46) then (if (ji46) < (t203.length : Int) then (observatorylaw13_MountPlans.j4 kj35 l2 t188 t190 t193 t194 x13_2 x14_2 x15_2 x16_2 x17_2 x18_2 (rd t203 (ji46))) else (none)) else (none)) = some r := by first | (rw [hji46] at H; exact H) | (simp only [hji46] at H ⊢; exact H)
                                          by_cases c47 : 0 ≤ (ji46)
                                          · rw [if_pos c47] at H
                                            have c47b0 : decide (0 ≤ (ji46)) = true := decide_eq_true c47
                                            clear c47
                                            by_cases c48 : (ji46) < (t203.length : Int)
                                            · rw [if_pos c48] at H
                                              have c48b0 : decide ((ji46) < (t203.length : Int)) = true := decide_eq_true c48
                                              clear c48
                                              have H' := Aside0.mk H
                                              clear H
                                              have p208 : 0 ≤ (x18_2 : Int) := of_decide_eq_true (by first | (with_reducible assumption) | assumption)
                                              have q208 : x18_2 < (l2.length : Int) := of_decide_eq_true (by first | (with_reducible assumption) | assumption)
                                              obtain ⟨ad208, e208, hx208_0⟩ := Kd.at_int HR2.out x18_2 p208 q208
                                              cases e208
                                              replace hx208_0 := (HB.out.cell (World.block_lt_of_cell? w _ hx208_0)).trans hx208_0
                                              replace p208 := eq_true p208
                                              replace q208 := eq_true q208
                                              obtain ⟨Ao49, co49, eo49⟩ := Kd.R_slice HO_19.out
                                              subst eo49
                                              have p209 : 0 ≤ ((ji46) : Int) := of_decide_eq_true (by first | (with_reducible assumption) | assumption)
                                              have q209 : (ji46) < (t203.length : Int) := of_decide_eq_true (by first | (with_reducible assumption) | assumption)
                                              obtain ⟨ad209, e209, hx209_0⟩ := Kd.at_int (Kd.R_reads' HO_19.out).2.2 (ji46) p209 q209
                                              cases e209
                                              replace p209 := eq_true p209
                                              replace q209 := eq_true q209
                                              go_wp2
                                              repeat (go_quiet (fail); try go_wp2)
                                              go_meet
                                              case rel => exact ⟨_, (rd t203 (ji46)), (by first | rfl | (simp; done) | (simp only [← hji46] <;> (first | rfl | simp)) | (simp [*]; done)), H', ⟨by have := HJ16.out; have := HK2.out; have := HJ25.out; have := HJ35.out; first | omega | exact Nat.le_refl _⟩, ⟨by (with_reducible repeat (first | apply Kd.R_alloc | apply Kd.R_drewN | apply Kd.R_drew)); exact Kd.R_mono HO_9.out (fun _ hk => hk.1)⟩, ⟨by (with_reducible repeat (first | apply Kd.R_alloc | apply Kd.R_drewN | apply Kd.R_drew)); exact Kd.R_mono HO_10.out (fun _ hk => hk.1)⟩, ⟨by repeat (first | (with_reducible first | exact HB.out | apply below_alloc | apply pw_below_drewN | apply below_drew1) | exact HB.out)⟩⟩
                                            · rw [if_neg c48] at H
                                              exact absurd H (by simp)
                                          · rw [if_neg c47] at H
                                            exact absurd H (by simp)
                                      · rw [if_neg c44] at H
                                        have c44b0 : decide (x18_2 < (l2.length : Int)) = false := decide_eq_false c44
                                        clear c44
                                        (first | rw [c44b0] | (simp only [i64_w, i32_w]; rw [c44b0]) | skip)
                                        have H' := Aside0.mk H
                                        clear H
                                        go_wp2
                                        repeat (go_quiet (fail); try go_wp2)
                                        go_meet
                                        case rel => exact ⟨_, (rd t193 x18_2), (by first | rfl | (simp; done) | (simp [*]; done)), H', ⟨by have := HJ16.out; have := HK2.out; have := HJ25.out; have := HJ35.out; first | omega | exact Nat.le_refl _⟩, ⟨by (with_reducible repeat (first | apply Kd.R_alloc | apply Kd.R_drewN | apply Kd.R_drew)); exact Kd.R_mono HO_9.out (fun _ hk => hk.1)⟩, ⟨by (with_reducible repeat (first | apply Kd.R_alloc | apply Kd.R_drewN | apply Kd.R_drew)); exact Kd.R_mono HO_10.out (fun _ hk => hk.1)⟩, ⟨by repeat (first | (with_reducible first | exact HB.out | apply below_alloc | apply pw_below_drewN | apply below_drew1) | exact HB.out)⟩⟩
                                    case rest =>
                                      clear HC43
                                      try clear c1
                                      try clear p1
                                      try clear q1
                                      try clear hx1
                                      try clear c2
                                      try clear p2
                                      try clear q2
                                      try clear hx2
                                      try clear c3
                                      try clear c4
                                      try clear c5
                                      try clear p6
                                      try clear c8
                                      try clear c8b0
                                      try clear c8b1
                                      try clear c9
                                      try clear c10
                                      try clear c10b0
                                      try clear c10b1
                                      try clear c11
                                      try clear c11b0
                                      try clear c11b1
                                      try clear c11b2
                                      try clear p19
                                      try clear q19
                                      try clear hx19
                                      try clear p20
                                      try clear q20
                                      try clear hx20
                                      try clear c22
                                      try clear c22b0
                                      try clear c22b1
                                      try clear c24
                                      try clear c25
                                      try clear c25b0
                                      try clear c28
                                      try clear c28b0
                                      try clear c29
                                      try clear c29b0
                                      try clear c30
                                      try clear c30b0
                                      try clear c31
                                      try clear c31b0
                                      try clear c32
                                      try clear c33
                                      try clear c33b0
                                      try clear c34
                                      try clear c34b0
                                      try clear c38
                                      try clear c38b0
                                      try clear c38b1
                                      try clear c40
                                      try clear c41
                                      try clear c41b0
                                      try clear c42
                                      try clear c42b0
                                      try clear c44
                                      try clear c44b0
                                      try clear c45
                                      try clear c45b0
                                      try clear c45b1
                                      try clear c45b2
                                      try clear c47
                                      try clear c47b0
                                      try clear c48
                                      try clear c48b0
                                      try clear hx198_0
                                      try clear hx199_0
                                      try clear hx200_0
                                      try clear hx201_0
                                      try clear hx202_0
                                      try clear hx207_0
                                      try clear hx208_0
                                      try clear hx209_0
                                      try clear p1
                                      try clear p19
                                      try clear p198
                                      try clear p199
                                      try clear p2
                                      try clear p20
                                      try clear p200
                                      try clear p201
                                      try clear p202
                                      try clear p207
                                      try clear p208
                                      try clear p209
                                      try clear p6
                                      try clear q1
                                      try clear q19
                                      try clear q198
                                      try clear q199
                                      try clear q2
                                      try clear q20
                                      try clear q200
                                      try clear q201
                                      try clear q202
                                      try clear q207
                                      try clear q208
                                      try clear q209
                                      obtain ⟨kq, x21_42, rfl, HA, HJ42, HO_9, HO_10, HB⟩ := hcut
                                      cases kq with
                                      | zero => exact absurd HA.out (by simp [observatorylaw13_MountPlans.j4])
                                      | succ kj42 =>
                                        have H := HA.out
                                        clear HA
                                        simp only [observatorylaw13_MountPlans.j4] at H
                                        have HC50 := Aside0.mk H
                                        clear H
                                        go_upto_region 22 with (fail)
                                        repeat (go_quiet (fail); go_upto_region 22 with (fail))
                                        go_cut [136] (fun v136 wc => ∃ (kq : Nat) (x136_49 : Bool), v136 = .bool x136_49 ∧ Aside0 (observatorylaw13_MountPlans.j5 kq l2 t188 t190 t193 t194 x13_2 x14_2 x15_2 x16_2 x17_2 x18_2 x21_42 x136_49 = some r) ∧ Aside0 (kq ≤ kj42) ∧ Aside0 (Kd.R (Kd.int .i64) 3 wc w.heap.size (fun k_ => some k_ ≠ ((.slice (some ad207) t193.length co27) : Value).ownBlock) (.slice (some ad202) t190.length co20) t190) ∧ Aside0 (Kd.R (Kd.int .i64) 3 wc w.heap.size (fun k_ => some k_ ≠ ((.slice (some ad202) t190.length co20) : Value).ownBlock) (.slice (some ad207) t193.length co27) t193) ∧ Aside0 (Below w.heap.size w wc))
                                        case first =>
                                          have H := HC50.out
                                          clear HC50
                                          by_cases c51 : x17_2 = 0
                                          · rw [if_pos c51] at H
                                            have c51b0 : (x17_2 == 0) = true := beq_iff_eq.mpr c51
                                            have c51b1 : (x17_2 != 0) = false := bne_eq_false_iff_eq.mpr c51
                                            clear c51
                                            (first | rw [c51b0] | (simp only [i64_w, i32_w]; rw [c51b0]) | skip)
                                            by_cases c52 : 0 ≤ x18_2
                                            · rw [if_pos c52] at H
                                              have c52b0 : decide (0 ≤ x18_2) = true := decide_eq_true c52
                                              clear c52
                                              by_cases c53 : x18_2 < (t193.length : Int)
                                              · rw [if_pos c53] at H
                                                have c53b0 : decide (x18_2 < (t193.length : Int)) = true := decide_eq_true c53
                                                clear c53
                                                have H' := Aside0.mk H
                                                clear H
                                                have p210 : 0 ≤ (x18_2 : Int) := of_decide_eq_true (by first | (with_reducible assumption) | assumption)
                                                have q210 : x18_2 < (t193.length : Int) := of_decide_eq_true (by first | (with_reducible assumption) | assumption)
                                                obtain ⟨ad210, e210, hx210_0⟩ := Kd.at_int (Kd.R_reads' HO_10.out).2.2 x18_2 p210 q210
                                                obtain rfl : ad207 = ad210 := (by injection e210)
                                                replace p210 := eq_true p210
                                                replace q210 := eq_true q210
                                                go_wp2
                                                repeat (go_quiet (fail); try go_wp2)
                                                go_meet
                                                case rel => exact ⟨_, (decide (x21_42 < (rd t193 x18_2))), (by first | rfl | (simp; done) | (simp [*]; done)), H', ⟨by have := HJ16.out; have := HK2.out; have := HJ25.out; have := HJ35.out; have := HJ42.out; first | omega | exact Nat.le_refl _⟩, ⟨by (with_reducible repeat (first | apply Kd.R_alloc | apply Kd.R_drewN | apply Kd.R_drew)); exact HO_9.out⟩, ⟨by (with_reducible repeat (first | apply Kd.R_alloc | apply Kd.R_drewN | apply Kd.R_drew)); exact HO_10.out⟩, ⟨by repeat (first | (with_reducible first | exact HB.out | apply below_alloc | apply pw_below_drewN | apply below_drew1) | exact HB.out)⟩⟩
                                              · rw [if_neg c53] at H
                                                exact absurd H (by simp)
                                            · rw [if_neg c52] at H
                                              exact absurd H (by simp)
                                          · rw [if_neg c51] at H
                                            have c51b0 : (x17_2 == 0) = false := beq_eq_false_iff_ne.mpr c51
                                            have c51b1 : (x17_2 != 0) = true := bne_iff_ne.mpr c51
                                            (first | rw [c51b0] | (simp only [i64_w, i32_w]; rw [c51b0]) | skip)
                                            have H' := Aside0.mk H
                                            clear H
                                            go_wp2
                                            repeat (go_quiet (fail); try go_wp2)
                                            go_meet
                                            case rel => exact ⟨_, (false), (by first | rfl | (simp; done) | (simp [*]; done)), H', ⟨by have := HJ16.out; have := HK2.out; have := HJ25.out; have := HJ35.out; have := HJ42.out; first | omega | exact Nat.le_refl _⟩, ⟨by (with_reducible repeat (first | apply Kd.R_alloc | apply Kd.R_drewN | apply Kd.R_drew)); exact HO_9.out⟩, ⟨by (with_reducible repeat (first | apply Kd.R_alloc | apply Kd.R_drewN | apply Kd.R_drew)); exact HO_10.out⟩, ⟨by repeat (first | (with_reducible first | exact HB.out | apply below_alloc | apply pw_below_drewN | apply below_drew1) | exact HB.out)⟩⟩
                                        case rest =>
                                          clear HC50
                                          try clear c1
                                          try clear p1
                                          try clear q1
                                          try clear hx1
                                          try clear c2
                                          try clear p2
                                          try clear q2
                                          try clear hx2
                                          try clear c3
                                          try clear c4
                                          try clear c5
                                          try clear p6
                                          try clear c8
                                          try clear c8b0
                                          try clear c8b1
                                          try clear c9
                                          try clear c10
                                          try clear c10b0
                                          try clear c10b1
                                          try clear c11
                                          try clear c11b0
                                          try clear c11b1
                                          try clear c11b2
                                          try clear p19
                                          try clear q19
                                          try clear hx19
                                          try clear p20
                                          try clear q20
                                          try clear hx20
                                          try clear p21
                                          try clear q21
                                          try clear hx21
                                          try clear c22
                                          try clear c22b0
                                          try clear c22b1
                                          try clear c24
                                          try clear c25
                                          try clear c25b0
                                          try clear c28
                                          try clear c28b0
                                          try clear c29
                                          try clear c29b0
                                          try clear c30
                                          try clear c30b0
                                          try clear c31
                                          try clear c31b0
                                          try clear c32
                                          try clear c33
                                          try clear c33b0
                                          try clear c34
                                          try clear c34b0
                                          try clear c38
                                          try clear c38b0
                                          try clear c38b1
                                          try clear c40
                                          try clear c41
                                          try clear c41b0
                                          try clear c42
                                          try clear c42b0
                                          try clear c44
                                          try clear c44b0
                                          try clear c45
                                          try clear c45b0
                                          try clear c45b1
                                          try clear c45b2
                                          try clear c47
                                          try clear c47b0
                                          try clear c48
                                          try clear c48b0
                                          try clear c51
                                          try clear c51b0
                                          try clear c51b1
                                          try clear c52
                                          try clear c52b0
                                          try clear c53
                                          try clear c53b0
                                          try clear hx198_0
                                          try clear hx199_0
                                          try clear hx200_0
                                          try clear hx201_0
                                          try clear hx202_0
                                          try clear hx207_0
                                          try clear hx208_0
                                          try clear hx209_0
                                          try clear hx210_0
                                          try clear p1
                                          try clear p19
                                          try clear p198
                                          try clear p199
                                          try clear p2
                                          try clear p20
                                          try clear p200
                                          try clear p201
                                          try clear p202
                                          try clear p207
                                          try clear p208
                                          try clear p209
                                          try clear p210
                                          try clear p6
                                          try clear q1
                                          try clear q19
                                          try clear q198
                                          try clear q199
                                          try clear q2
                                          try clear q20
                                          try clear q200
                                          try clear q201
                                          try clear q202
                                          try clear q207
                                          try clear q208
                                          try clear q209
                                          try clear q210
                                          obtain ⟨kq, x136_49, rfl, HA, HJ49, HO_9, HO_10, HB⟩ := hcut
                                          cases kq with
                                          | zero => exact absurd HA.out (by simp [observatorylaw13_MountPlans.j5])
                                          | succ kj49 =>
                                            have H := HA.out
                                            clear HA
                                            simp only [observatorylaw13_MountPlans.j5] at H
                                            have HC54 := Aside0.mk H
                                            clear H
                                            go_upto_if 136 with (fail)
                                            repeat (go_quiet (fail); go_upto_if 136 with (fail))
                                            go_cut [17] (fun v17 wc => ∃ (kq : Nat) (x17_53 : Int), v17 = .int .i64 x17_53 ∧ Aside0 (observatorylaw13_MountPlans.j6 kq l2 t188 t190 t193 t194 x13_2 x14_2 x15_2 x16_2 x17_53 x18_2 x21_42 = some r) ∧ Aside0 (kq ≤ kj49) ∧ Aside0 (Kd.R (Kd.int .i64) 3 wc w.heap.size (fun k_ => some k_ ≠ ((.slice (some ad207) t193.length co27) : Value).ownBlock) (.slice (some ad202) t190.length co20) t190) ∧ Aside0 (Kd.R (Kd.int .i64) 3 wc w.heap.size (fun k_ => some k_ ≠ ((.slice (some ad202) t190.length co20) : Value).ownBlock) (.slice (some ad207) t193.length co27) t193) ∧ Aside0 (Below w.heap.size w wc))
                                            case first =>
                                              have H := HC54.out
                                              clear HC54
                                              by_cases c55 : x136_49 = true
                                              · subst c55
                                                have H1 : (observatorylaw13_MountPlans.j6 kj49 l2 t188 t190 t193 t194 x13_2 x14_2 x15_2 x16_2 (-1) x18_2 x21_42) = some r := by rw [if_pos rfl] at H; exact H
                                                clear H
                                                have H := H1
                                                clear H1
                                                have H' := Aside0.mk H
                                                clear H
                                                go_wp2
                                                repeat (go_quiet (fail); try go_wp2)
                                                go_meet
                                                case rel => exact ⟨_, ((-1)), (by first | rfl | (simp; done) | (simp [*]; done)), H', ⟨by have := HJ16.out; have := HK2.out; have := HJ25.out; have := HJ35.out; have := HJ42.out; have := HJ49.out; first | omega | exact Nat.le_refl _⟩, ⟨by (with_reducible repeat (first | apply Kd.R_alloc | apply Kd.R_drewN | apply Kd.R_drew)); exact HO_9.out⟩, ⟨by (with_reducible repeat (first | apply Kd.R_alloc | apply Kd.R_drewN | apply Kd.R_drew)); exact HO_10.out⟩, ⟨by repeat (first | (with_reducible first | exact HB.out | apply below_alloc | apply pw_below_drewN | apply below_drew1) | exact HB.out)⟩⟩
                                              · replace c55 := Bool.eq_false_iff.mpr c55
                                                subst c55
                                                have H1 : (observatorylaw13_MountPlans.j6 kj49 l2 t188 t190 t193 t194 x13_2 x14_2 x15_2 x16_2 x17_2 x18_2 x21_42) = some r := by rw [if_neg (show ¬ (false = true) by decide)] at H; exact H
                                                clear H
                                                have H := H1
                                                clear H1
                                                have H' := Aside0.mk H
                                                clear H
                                                go_wp2
                                                repeat (go_quiet (fail); try go_wp2)
                                                go_meet
                                                case rel => exact ⟨_, (x17_2), (by first | rfl | (simp; done) | (simp [*]; done)), H', ⟨by have := HJ16.out; have := HK2.out; have := HJ25.out; have := HJ35.out; have := HJ42.out; have := HJ49.out; first | omega | exact Nat.le_refl _⟩, ⟨by (with_reducible repeat (first | apply Kd.R_alloc | apply Kd.R_drewN | apply Kd.R_drew)); exact HO_9.out⟩, ⟨by (with_reducible repeat (first | apply Kd.R_alloc | apply Kd.R_drewN | apply Kd.R_drew)); exact HO_10.out⟩, ⟨by repeat (first | (with_reducible first | exact HB.out | apply below_alloc | apply pw_below_drewN | apply below_drew1) | exact HB.out)⟩⟩
                                            case rest =>
                                              clear HC54
                                              try clear c1
                                              try clear p1
                                              try clear q1
                                              try clear hx1
                                              try clear c2
                                              try clear p2
                                              try clear q2
                                              try clear hx2
                                              try clear c3
                                              try clear c4
                                              try clear c5
                                              try clear p6
                                              try clear c8
                                              try clear c8b0
                                              try clear c8b1
                                              try clear c9
                                              try clear c10
                                              try clear c10b0
                                              try clear c10b1
                                              try clear c11
                                              try clear c11b0
                                              try clear c11b1
                                              try clear c11b2
                                              try clear p19
                                              try clear q19
                                              try clear hx19
                                              try clear p20
                                              try clear q20
                                              try clear hx20
                                              try clear p21
                                              try clear q21
                                              try clear hx21
                                              try clear c22
                                              try clear c22b0
                                              try clear c22b1
                                              try clear c24
                                              try clear c25
                                              try clear c25b0
                                              try clear c28
                                              try clear c28b0
                                              try clear c29
                                              try clear c29b0
                                              try clear c30
                                              try clear c30b0
                                              try clear c31
                                              try clear c31b0
                                              try clear c32
                                              try clear c33
                                              try clear c33b0
                                              try clear c34
                                              try clear c34b0
                                              try clear c38
                                              try clear c38b0
                                              try clear c38b1
                                              try clear c40
                                              try clear c41
                                              try clear c41b0
                                              try clear c42
                                              try clear c42b0
                                              try clear c44
                                              try clear c44b0
                                              try clear c45
                                              try clear c45b0
                                              try clear c45b1
                                              try clear c45b2
                                              try clear c47
                                              try clear c47b0
                                              try clear c48
                                              try clear c48b0
                                              try clear c51
                                              try clear c51b0
                                              try clear c51b1
                                              try clear c52
                                              try clear c52b0
                                              try clear c53
                                              try clear c53b0
                                              try clear c55
                                              try clear hx198_0
                                              try clear hx199_0
                                              try clear hx200_0
                                              try clear hx201_0
                                              try clear hx202_0
                                              try clear hx207_0
                                              try clear hx208_0
                                              try clear hx209_0
                                              try clear hx210_0
                                              try clear p1
                                              try clear p19
                                              try clear p198
                                              try clear p199
                                              try clear p2
                                              try clear p20
                                              try clear p200
                                              try clear p201
                                              try clear p202
                                              try clear p207
                                              try clear p208
                                              try clear p209
                                              try clear p21
                                              try clear p210
                                              try clear p6
                                              try clear q1
                                              try clear q19
                                              try clear q198
                                              try clear q199
                                              try clear q2
                                              try clear q20
                                              try clear q200
                                              try clear q201
                                              try clear q202
                                              try clear q207
                                              try clear q208
                                              try clear q209
                                              try clear q21
                                              try clear q210
                                              obtain ⟨kq, x17_53, rfl, HA, HJ53, HO_9, HO_10, HB⟩ := hcut
                                              cases kq with
                                              | zero => exact absurd HA.out (by simp [observatorylaw13_MountPlans.j6])
                                              | succ kj53 =>
                                                have H := HA.out
                                                clear HA
                                                simp only [observatorylaw13_MountPlans.j6] at H
                                                have HC56 := Aside0.mk H
                                                clear H
                                                go_upto_region 24 with (fail)
                                                repeat (go_quiet (fail); go_upto_region 24 with (fail))
                                                go_cut [146] (fun v146 wc => ∃ (kq : Nat) (x146_55 : Bool), v146 = .bool x146_55 ∧ Aside0 (observatorylaw13_MountPlans.j7 kq l2 t188 t190 t193 t194 x13_2 x14_2 x15_2 x16_2 x17_53 x18_2 x21_42 x146_55 = some r) ∧ Aside0 (kq ≤ kj53) ∧ Aside0 (Kd.R (Kd.int .i64) 3 wc w.heap.size (fun k_ => some k_ ≠ ((.slice (some ad207) t193.length co27) : Value).ownBlock) (.slice (some ad202) t190.length co20) t190) ∧ Aside0 (Kd.R (Kd.int .i64) 3 wc w.heap.size (fun k_ => some k_ ≠ ((.slice (some ad202) t190.length co20) : Value).ownBlock) (.slice (some ad207) t193.length co27) t193) ∧ Aside0 (Below w.heap.size w wc))
                                                case first =>
                                                  have H := HC56.out
                                                  clear HC56
                                                  by_cases c57 : x17_53 = 0
                                                  · rw [if_pos c57] at H
                                                    have c57b0 : (x17_53 == 0) = true := beq_iff_eq.mpr c57
                                                    have c57b1 : (x17_53 != 0) = false := bne_eq_false_iff_eq.mpr c57
                                                    clear c57
                                                    (first | rw [c57b0] | (simp only [i64_w, i32_w]; rw [c57b0]) | skip)
                                                    by_cases c58 : 0 ≤ x18_2
                                                    · rw [if_pos c58] at H
                                                      have c58b0 : decide (0 ≤ x18_2) = true := decide_eq_true c58
                                                      clear c58
                                                      by_cases c59 : x18_2 < (t193.length : Int)
                                                      · rw [if_pos c59] at H
                                                        have c59b0 : decide (x18_2 < (t193.length : Int)) = true := decide_eq_true c59
                                                        clear c59
                                                        have H' := Aside0.mk H
                                                        clear H
                                                        have p211 : 0 ≤ (x18_2 : Int) := of_decide_eq_true (by first | (with_reducible assumption) | assumption)
                                                        have q211 : x18_2 < (t193.length : Int) := of_decide_eq_true (by first | (with_reducible assumption) | assumption)
                                                        obtain ⟨ad211, e211, hx211_0⟩ := Kd.at_int (Kd.R_reads' HO_10.out).2.2 x18_2 p211 q211
                                                        obtain rfl : ad207 = ad211 := (by injection e211)
                                                        replace p211 := eq_true p211
                                                        replace q211 := eq_true q211
                                                        go_wp2
                                                        repeat (go_quiet (fail); try go_wp2)
                                                        go_meet
                                                        case rel => exact ⟨_, (decide (x21_42 > (rd t193 x18_2))), (by first | rfl | (simp; done) | (simp [*]; done)), H', ⟨by have := HJ16.out; have := HK2.out; have := HJ25.out; have := HJ35.out; have := HJ42.out; have := HJ49.out; have := HJ53.out; first | omega | exact Nat.le_refl _⟩, ⟨by (with_reducible repeat (first | apply Kd.R_alloc | apply Kd.R_drewN | apply Kd.R_drew)); exact HO_9.out⟩, ⟨by (with_reducible repeat (first | apply Kd.R_alloc | apply Kd.R_drewN | apply Kd.R_drew)); exact HO_10.out⟩, ⟨by repeat (first | (with_reducible first | exact HB.out | apply below_alloc | apply pw_below_drewN | apply below_drew1) | exact HB.out)⟩⟩
                                                      · rw [if_neg c59] at H
                                                        exact absurd H (by simp)
                                                    · rw [if_neg c58] at H
                                                      exact absurd H (by simp)
                                                  · rw [if_neg c57] at H
                                                    have c57b0 : (x17_53 == 0) = false := beq_eq_false_iff_ne.mpr c57
                                                    have c57b1 : (x17_53 != 0) = true := bne_iff_ne.mpr c57
                                                    (first | rw [c57b0] | (simp only [i64_w, i32_w]; rw [c57b0]) | skip)
                                                    have H' := Aside0.mk H
                                                    clear H
                                                    go_wp2
                                                    repeat (go_quiet (fail); try go_wp2)
                                                    go_meet
                                                    case rel => exact ⟨_, (false), (by first | rfl | (simp; done) | (simp [*]; done)), H', ⟨by have := HJ16.out; have := HK2.out; have := HJ25.out; have := HJ35.out; have := HJ42.out; have := HJ49.out; have := HJ53.out; first | omega | exact Nat.le_refl _⟩, ⟨by (with_reducible repeat (first | apply Kd.R_alloc | apply Kd.R_drewN | apply Kd.R_drew)); exact HO_9.out⟩, ⟨by (with_reducible repeat (first | apply Kd.R_alloc | apply Kd.R_drewN | apply Kd.R_drew)); exact HO_10.out⟩, ⟨by repeat (first | (with_reducible first | exact HB.out | apply below_alloc | apply pw_below_drewN | apply below_drew1) | exact HB.out)⟩⟩
                                                case rest =>
                                                  clear HC56
                                                  try clear c1
                                                  try clear p1
                                                  try clear q1
                                                  try clear hx1
                                                  try clear c2
                                                  try clear p2
                                                  try clear q2
                                                  try clear hx2
                                                  try clear c3
                                                  try clear c4
                                                  try clear c5
                                                  try clear p6
                                                  try clear c8
                                                  try clear c8b0
                                                  try clear c8b1
                                                  try clear c9
                                                  try clear c10
                                                  try clear c10b0
                                                  try clear c10b1
                                                  try clear c11
                                                  try clear c11b0
                                                  try clear c11b1
                                                  try clear c11b2
                                                  try clear p19
                                                  try clear q19
                                                  try clear hx19
                                                  try clear p20
                                                  try clear q20
                                                  try clear hx20
                                                  try clear p21
                                                  try clear q21
                                                  try clear hx21
                                                  try clear c22
                                                  try clear c22b0
                                                  try clear c22b1
                                                  try clear c24
                                                  try clear c25
                                                  try clear c25b0
                                                  try clear c28
                                                  try clear c28b0
                                                  try clear c29
                                                  try clear c29b0
                                                  try clear c30
                                                  try clear c30b0
                                                  try clear c31
                                                  try clear c31b0
                                                  try clear c32
                                                  try clear c33
                                                  try clear c33b0
                                                  try clear c34
                                                  try clear c34b0
                                                  try clear c38
                                                  try clear c38b0
                                                  try clear c38b1
                                                  try clear c40
                                                  try clear c41
                                                  try clear c41b0
                                                  try clear c42
                                                  try clear c42b0
                                                  try clear c44
                                                  try clear c44b0
                                                  try clear c45
                                                  try clear c45b0
                                                  try clear c45b1
                                                  try clear c45b2
                                                  try clear c47
                                                  try clear c47b0
                                                  try clear c48
                                                  try clear c48b0
                                                  try clear c51
                                                  try clear c51b0
                                                  try clear c51b1
                                                  try clear c52
                                                  try clear c52b0
                                                  try clear c53
                                                  try clear c53b0
                                                  try clear c55
                                                  try clear c57
                                                  try clear c57b0
                                                  try clear c57b1
                                                  try clear c58
                                                  try clear c58b0
                                                  try clear c59
                                                  try clear c59b0
                                                  try clear hx198_0
                                                  try clear hx199_0
                                                  try clear hx200_0
                                                  try clear hx201_0
                                                  try clear hx202_0
                                                  try clear hx207_0
                                                  try clear hx208_0
                                                  try clear hx209_0
                                                  try clear hx210_0
                                                  try clear hx211_0
                                                  try clear p1
                                                  try clear p19
                                                  try clear p198
                                                  try clear p199
                                                  try clear p2
                                                  try clear p20
                                                  try clear p200
                                                  try clear p201
                                                  try clear p202
                                                  try clear p207
                                                  try clear p208
                                                  try clear p209
                                                  try clear p21
                                                  try clear p210
                                                  try clear p211
                                                  try clear p6
                                                  try clear q1
                                                  try clear q19
                                                  try clear q198
                                                  try clear q199
                                                  try clear q2
                                                  try clear q20
                                                  try clear q200
                                                  try clear q201
                                                  try clear q202
                                                  try clear q207
                                                  try clear q208
                                                  try clear q209
                                                  try clear q21
                                                  try clear q210
                                                  try clear q211
                                                  obtain ⟨kq, x146_55, rfl, HA, HJ55, HO_9, HO_10, HB⟩ := hcut
                                                  cases kq with
                                                  | zero => exact absurd HA.out (by simp [observatorylaw13_MountPlans.j7])
                                                  | succ kj55 =>
                                                    have H := HA.out
                                                    clear HA
                                                    simp only [observatorylaw13_MountPlans.j7] at H
                                                    by_cases c60 : x146_55 = true
                                                    · subst c60
                                                      have H1 : (if 0 ≤ x18_2 then (if x18_2 < (t193.length : Int) then ((observatorylaw13_dist.f x15_2 (rd t193 x18_2)).bind fun t213 => ((observatorylaw13_dist.f x16_2 x21_42).bind fun t214 => (observatorylaw13_MountPlans.l0 kj55 l2 t188 t190 t193 t194 (wrap64 (x13_2 + t213)) (wrap64 (x14_2 + t214)) (rd t193 x18_2) x21_42 1 (wrap64 (x18_2 + 1))))) else (none)) else (none)) = some r := by rw [if_pos rfl] at H; exact H
                                                      clear H
                                                      have H := H1
                                                      clear H1
                                                      by_cases c61 : 0 ≤ x18_2
                                                      · rw [if_pos c61] at H
                                                        have c61b0 : decide (0 ≤ x18_2) = true := decide_eq_true c61
                                                        clear c61
                                                        by_cases c62 : x18_2 < (t193.length : Int)
                                                        · rw [if_pos c62] at H
                                                          have c62b0 : decide (x18_2 < (t193.length : Int)) = true := decide_eq_true c62
                                                          clear c62
                                                          replace H := Option.bind_eq_some_iff.mp H
                                                          obtain ⟨t213, A630, H⟩ := H
                                                          replace H : ((observatorylaw13_dist.f x16_2 x21_42).bind fun t214 => (observatorylaw13_MountPlans.l0 kj55 l2 t188 t190 t193 t194 (wrap64 (x13_2 + t213)) (wrap64 (x14_2 + t214)) (rd t193 x18_2) x21_42 1 (wrap64 (x18_2 + 1)))) = some r := H
                                                          have A63 := Aside0.mk A630
                                                          clear A630
                                                          replace H := Option.bind_eq_some_iff.mp H
                                                          obtain ⟨t214, A640, H⟩ := H
                                                          replace H : (observatorylaw13_MountPlans.l0 kj55 l2 t188 t190 t193 t194 (wrap64 (x13_2 + t213)) (wrap64 (x14_2 + t214)) (rd t193 x18_2) x21_42 1 (wrap64 (x18_2 + 1))) = some r := H
                                                          have A64 := Aside0.mk A640
                                                          clear A640
                                                          have H' := Aside0.mk H
                                                          clear H
                                                          have p212 : 0 ≤ (x18_2 : Int) := of_decide_eq_true (by first | (with_reducible assumption) | assumption)
                                                          have q212 : x18_2 < (t193.length : Int) := of_decide_eq_true (by first | (with_reducible assumption) | assumption)
                                                          obtain ⟨ad212, e212, hx212_0⟩ := Kd.at_int (Kd.R_reads' HO_10.out).2.2 x18_2 p212 q212
                                                          obtain rfl : ad207 = ad212 := (by injection e212)
                                                          replace p212 := eq_true p212
                                                          replace q212 := eq_true q212
                                                          go_wp2_with (first | (go_at_call 17; (with_reducible refine (observatorylaw13_dist.calls x15_2 (rd t193 x18_2) t213 _ A63.out).mono ?_); rintro e w65 ⟨rfl, hb⟩; have n0_ := Aside0.mk (Kd.R_below (by (with_reducible repeat (first | apply Kd.R_alloc | apply Kd.R_drewN | apply Kd.R_drew)); exact HO_9.out) hb); have n1_ := Aside0.mk (Kd.R_below (by (with_reducible repeat (first | apply Kd.R_alloc | apply Kd.R_drewN | apply Kd.R_drew)); exact HO_10.out) hb); have n2_ := Aside0.mk (below_step (by repeat (first | (with_reducible first | exact HB.out | apply below_alloc | apply pw_below_drewN | apply below_drew1) | exact HB.out)) hb); clear HO_9; clear HO_10; clear HB; have HO_9 := n0_; have HO_10 := n1_; have HB := n2_; clear n0_ n1_ n2_; (try clear hb); (try clear hb2); (try clear hk); (try clear hi)) | (go_at_call 17; (with_reducible refine (observatorylaw13_dist.calls x16_2 x21_42 t214 _ A64.out).mono ?_); rintro e w66 ⟨rfl, hb⟩; have n0_ := Aside0.mk (Kd.R_below (by (with_reducible repeat (first | apply Kd.R_alloc | apply Kd.R_drewN | apply Kd.R_drew)); exact HO_9.out) hb); have n1_ := Aside0.mk (Kd.R_below (by (with_reducible repeat (first | apply Kd.R_alloc | apply Kd.R_drewN | apply Kd.R_drew)); exact HO_10.out) hb); have n2_ := Aside0.mk (below_step (by repeat (first | (with_reducible first | exact HB.out | apply below_alloc | apply pw_below_drewN | apply below_drew1) | exact HB.out)) hb); clear HO_9; clear HO_10; clear HB; have HO_9 := n0_; have HO_10 := n1_; have HB := n2_; clear n0_ n1_ n2_; (try clear hb); (try clear hb2); (try clear hk); (try clear hi); have p215 : 0 ≤ (x18_2 : Int) := of_decide_eq_true (by first | (with_reducible assumption) | assumption); have q215 : x18_2 < (t193.length : Int) := of_decide_eq_true (by first | (with_reducible assumption) | assumption); obtain ⟨ad215, e215, hx215_0⟩ := Kd.at_int (Kd.R_reads' HO_10.out).2.2 x18_2 p215 q215; obtain rfl : ad207 = ad215 := (by injection e215); replace p215 := eq_true p215; replace q215 := eq_true q215))
                                                          repeat (go_quiet (first | (go_at_call 17; (with_reducible refine (observatorylaw13_dist.calls x15_2 (rd t193 x18_2) t213 _ A63.out).mono ?_); rintro e w65 ⟨rfl, hb⟩; have n0_ := Aside0.mk (Kd.R_below (by (with_reducible repeat (first | apply Kd.R_alloc | apply Kd.R_drewN | apply Kd.R_drew)); exact HO_9.out) hb); have n1_ := Aside0.mk (Kd.R_below (by (with_reducible repeat (first | apply Kd.R_alloc | apply Kd.R_drewN | apply Kd.R_drew)); exact HO_10.out) hb); have n2_ := Aside0.mk (below_step (by repeat (first | (with_reducible first | exact HB.out | apply below_alloc | apply pw_below_drewN | apply below_drew1) | exact HB.out)) hb); clear HO_9; clear HO_10; clear HB; have HO_9 := n0_; have HO_10 := n1_; have HB := n2_; clear n0_ n1_ n2_; (try clear hb); (try clear hb2); (try clear hk); (try clear hi)) | (go_at_call 17; (with_reducible refine (observatorylaw13_dist.calls x16_2 x21_42 t214 _ A64.out).mono ?_); rintro e w66 ⟨rfl, hb⟩; have n0_ := Aside0.mk (Kd.R_below (by (with_reducible repeat (first | apply Kd.R_alloc | apply Kd.R_drewN | apply Kd.R_drew)); exact HO_9.out) hb); have n1_ := Aside0.mk (Kd.R_below (by (with_reducible repeat (first | apply Kd.R_alloc | apply Kd.R_drewN | apply Kd.R_drew)); exact HO_10.out) hb); have n2_ := Aside0.mk (below_step (by repeat (first | (with_reducible first | exact HB.out | apply below_alloc | apply pw_below_drewN | apply below_drew1) | exact HB.out)) hb); clear HO_9; clear HO_10; clear HB; have HO_9 := n0_; have HO_10 := n1_; have HB := n2_; clear n0_ n1_ n2_; (try clear hb); (try clear hb2); (try clear hk); (try clear hi); have p215 : 0 ≤ (x18_2 : Int) := of_decide_eq_true (by first | (with_reducible assumption) | assumption); have q215 : x18_2 < (t193.length : Int) := of_decide_eq_true (by first | (with_reducible assumption) | assumption); obtain ⟨ad215, e215, hx215_0⟩ := Kd.at_int (Kd.R_reads' HO_10.out).2.2 x18_2 p215 q215; obtain rfl : ad207 = ad215 := (by injection e215); replace p215 := eq_true p215; replace q215 := eq_true q215)); try go_wp2_with (first | (go_at_call 17; (with_reducible refine (observatorylaw13_dist.calls x15_2 (rd t193 x18_2) t213 _ A63.out).mono ?_); rintro e w65 ⟨rfl, hb⟩; have n0_ := Aside0.mk (Kd.R_below (by (with_reducible repeat (first | apply Kd.R_alloc | apply Kd.R_drewN | apply Kd.R_drew)); exact HO_9.out) hb); have n1_ := Aside0.mk (Kd.R_below (by (with_reducible repeat (first | apply Kd.R_alloc | apply Kd.R_drewN | apply Kd.R_drew)); exact HO_10.out) hb); have n2_ := Aside0.mk (below_step (by repeat (first | (with_reducible first | exact HB.out | apply below_alloc | apply pw_below_drewN | apply below_drew1) | exact HB.out)) hb); clear HO_9; clear HO_10; clear HB; have HO_9 := n0_; have HO_10 := n1_; have HB := n2_; clear n0_ n1_ n2_; (try clear hb); (try clear hb2); (try clear hk); (try clear hi)) | (go_at_call 17; (with_reducible refine (observatorylaw13_dist.calls x16_2 x21_42 t214 _ A64.out).mono ?_); rintro e w66 ⟨rfl, hb⟩; have n0_ := Aside0.mk (Kd.R_below (by (with_reducible repeat (first | apply Kd.R_alloc | apply Kd.R_drewN | apply Kd.R_drew)); exact HO_9.out) hb); have n1_ := Aside0.mk (Kd.R_below (by (with_reducible repeat (first | apply Kd.R_alloc | apply Kd.R_drewN | apply Kd.R_drew)); exact HO_10.out) hb); have n2_ := Aside0.mk (below_step (by repeat (first | (with_reducible first | exact HB.out | apply below_alloc | apply pw_below_drewN | apply below_drew1) | exact HB.out)) hb); clear HO_9; clear HO_10; clear HB; have HO_9 := n0_; have HO_10 := n1_; have HB := n2_; clear n0_ n1_ n2_; (try clear hb); (try clear hb2); (try clear hk); (try clear hi); have p215 : 0 ≤ (x18_2 : Int) := of_decide_eq_true (by first | (with_reducible assumption) | assumption); have q215 : x18_2 < (t193.length : Int) := of_decide_eq_true (by first | (with_reducible assumption) | assumption); obtain ⟨ad215, e215, hx215_0⟩ := Kd.at_int (Kd.R_reads' HO_10.out).2.2 x18_2 p215 q215; obtain rfl : ad207 = ad215 := (by injection e215); replace p215 := eq_true p215; replace q215 := eq_true q215)))
                                                          go_roundg kj55
                                                          case measure => have := HJ16.out; have := HK2.out; have := HJ25.out; have := HJ35.out; have := HJ42.out; have := HJ49.out; have := HJ53.out; have := HJ55.out; omega
                                                          case rel => exact ⟨(wrap64 (x13_2 + t213)), (wrap64 (x14_2 + t214)), (rd t193 x18_2), (x21_42), (1), (wrap64 (x18_2 + 1)), (by first | rfl | (simp; done) | (simp [*]; done)), (by first | rfl | (simp; done) | (simp [*]; done)), (by first | rfl | (simp; done) | (simp [*]; done)), (by first | rfl | (simp; done) | (simp [*]; done)), (by first | rfl | (simp; done) | (simp [*]; done)), (by first | rfl | (simp; done) | (simp [*]; done)), H', ⟨by have := HJ16.out; have := HK2.out; have := HJ25.out; have := HJ35.out; have := HJ42.out; have := HJ49.out; have := HJ53.out; have := HJ55.out; omega⟩, ⟨by (with_reducible repeat (first | apply Kd.R_alloc | apply Kd.R_drewN | apply Kd.R_drew)); exact HO_9.out⟩, ⟨by (with_reducible repeat (first | apply Kd.R_alloc | apply Kd.R_drewN | apply Kd.R_drew)); exact HO_10.out⟩, ⟨by repeat (first | (with_reducible first | exact HB.out | apply below_alloc | apply pw_below_drewN | apply below_drew1) | exact HB.out)⟩⟩
                                                        · rw [if_neg c62] at H
                                                          exact absurd H (by simp)
                                                      · rw [if_neg c61] at H
                                                        exact absurd H (by simp)
                                                    · replace c60 := Bool.eq_false_iff.mpr c60
                                                      subst c60
                                                      have H1 : (if 0 ≤ x18_2 then (if x18_2 < (t193.length : Int) then ((observatorylaw13_dist.f x15_2 (rd t193 x18_2)).bind fun t217 => ((observatorylaw13_dist.f x16_2 x21_42).bind fun t218 => (observatorylaw13_MountPlans.l0 kj55 l2 t188 t190 t193 t194 (wrap64 (x13_2 + t217)) (wrap64 (x14_2 + t218)) (rd t193 x18_2) x21_42 x17_53 (wrap64 (x18_2 + 1))))) else (none)) else (none)) = some r := by rw [if_neg (show ¬ (false = true) by decide)] at H; exact H
                                                      clear H
                                                      have H := H1
                                                      clear H1
                                                      by_cases c67 : 0 ≤ x18_2
                                                      · rw [if_pos c67] at H
                                                        have c67b0 : decide (0 ≤ x18_2) = true := decide_eq_true c67
                                                        clear c67
                                                        by_cases c68 : x18_2 < (t193.length : Int)
                                                        · rw [if_pos c68] at H
                                                          have c68b0 : decide (x18_2 < (t193.length : Int)) = true := decide_eq_true c68
                                                          clear c68
                                                          replace H := Option.bind_eq_some_iff.mp H
                                                          obtain ⟨t217, A690, H⟩ := H
                                                          replace H : ((observatorylaw13_dist.f x16_2 x21_42).bind fun t218 => (observatorylaw13_MountPlans.l0 kj55 l2 t188 t190 t193 t194 (wrap64 (x13_2 + t217)) (wrap64 (x14_2 + t218)) (rd t193 x18_2) x21_42 x17_53 (wrap64 (x18_2 + 1)))) = some r := H
                                                          have A69 := Aside0.mk A690
                                                          clear A690
                                                          replace H := Option.bind_eq_some_iff.mp H
                                                          obtain ⟨t218, A700, H⟩ := H
                                                          replace H : (observatorylaw13_MountPlans.l0 kj55 l2 t188 t190 t193 t194 (wrap64 (x13_2 + t217)) (wrap64 (x14_2 + t218)) (rd t193 x18_2) x21_42 x17_53 (wrap64 (x18_2 + 1))) = some r := H
                                                          have A70 := Aside0.mk A700
                                                          clear A700
                                                          have H' := Aside0.mk H
                                                          clear H
                                                          have p216 : 0 ≤ (x18_2 : Int) := of_decide_eq_true (by first | (with_reducible assumption) | assumption)
                                                          have q216 : x18_2 < (t193.length : Int) := of_decide_eq_true (by first | (with_reducible assumption) | assumption)
                                                          obtain ⟨ad216, e216, hx216_0⟩ := Kd.at_int (Kd.R_reads' HO_10.out).2.2 x18_2 p216 q216
                                                          obtain rfl : ad207 = ad216 := (by injection e216)
                                                          replace p216 := eq_true p216
                                                          replace q216 := eq_true q216
                                                          go_wp2_with (first | (go_at_call 17; (with_reducible refine (observatorylaw13_dist.calls x15_2 (rd t193 x18_2) t217 _ A69.out).mono ?_); rintro e w71 ⟨rfl, hb⟩; have n0_ := Aside0.mk (Kd.R_below (by (with_reducible repeat (first | apply Kd.R_alloc | apply Kd.R_drewN | apply Kd.R_drew)); exact HO_9.out) hb); have n1_ := Aside0.mk (Kd.R_below (by (with_reducible repeat (first | apply Kd.R_alloc | apply Kd.R_drewN | apply Kd.R_drew)); exact HO_10.out) hb); have n2_ := Aside0.mk (below_step (by repeat (first | (with_reducible first | exact HB.out | apply below_alloc | apply pw_below_drewN | apply below_drew1) | exact HB.out)) hb); clear HO_9; clear HO_10; clear HB; have HO_9 := n0_; have HO_10 := n1_; have HB := n2_; clear n0_ n1_ n2_; (try clear hb); (try clear hb2); (try clear hk); (try clear hi)) | (go_at_call 17; (with_reducible refine (observatorylaw13_dist.calls x16_2 x21_42 t218 _ A70.out).mono ?_); rintro e w72 ⟨rfl, hb⟩; have n0_ := Aside0.mk (Kd.R_below (by (with_reducible repeat (first | apply Kd.R_alloc | apply Kd.R_drewN | apply Kd.R_drew)); exact HO_9.out) hb); have n1_ := Aside0.mk (Kd.R_below (by (with_reducible repeat (first | apply Kd.R_alloc | apply Kd.R_drewN | apply Kd.R_drew)); exact HO_10.out) hb); have n2_ := Aside0.mk (below_step (by repeat (first | (with_reducible first | exact HB.out | apply below_alloc | apply pw_below_drewN | apply below_drew1) | exact HB.out)) hb); clear HO_9; clear HO_10; clear HB; have HO_9 := n0_; have HO_10 := n1_; have HB := n2_; clear n0_ n1_ n2_; (try clear hb); (try clear hb2); (try clear hk); (try clear hi); have p219 : 0 ≤ (x18_2 : Int) := of_decide_eq_true (by first | (with_reducible assumption) | assumption); have q219 : x18_2 < (t193.length : Int) := of_decide_eq_true (by first | (with_reducible assumption) | assumption); obtain ⟨ad219, e219, hx219_0⟩ := Kd.at_int (Kd.R_reads' HO_10.out).2.2 x18_2 p219 q219; obtain rfl : ad207 = ad219 := (by injection e219); replace p219 := eq_true p219; replace q219 := eq_true q219))
                                                          repeat (go_quiet (first | (go_at_call 17; (with_reducible refine (observatorylaw13_dist.calls x15_2 (rd t193 x18_2) t217 _ A69.out).mono ?_); rintro e w71 ⟨rfl, hb⟩; have n0_ := Aside0.mk (Kd.R_below (by (with_reducible repeat (first | apply Kd.R_alloc | apply Kd.R_drewN | apply Kd.R_drew)); exact HO_9.out) hb); have n1_ := Aside0.mk (Kd.R_below (by (with_reducible repeat (first | apply Kd.R_alloc | apply Kd.R_drewN | apply Kd.R_drew)); exact HO_10.out) hb); have n2_ := Aside0.mk (below_step (by repeat (first | (with_reducible first | exact HB.out | apply below_alloc | apply pw_below_drewN | apply below_drew1) | exact HB.out)) hb); clear HO_9; clear HO_10; clear HB; have HO_9 := n0_; have HO_10 := n1_; have HB := n2_; clear n0_ n1_ n2_; (try clear hb); (try clear hb2); (try clear hk); (try clear hi)) | (go_at_call 17; (with_reducible refine (observatorylaw13_dist.calls x16_2 x21_42 t218 _ A70.out).mono ?_); rintro e w72 ⟨rfl, hb⟩; have n0_ := Aside0.mk (Kd.R_below (by (with_reducible repeat (first | apply Kd.R_alloc | apply Kd.R_drewN | apply Kd.R_drew)); exact HO_9.out) hb); have n1_ := Aside0.mk (Kd.R_below (by (with_reducible repeat (first | apply Kd.R_alloc | apply Kd.R_drewN | apply Kd.R_drew)); exact HO_10.out) hb); have n2_ := Aside0.mk (below_step (by repeat (first | (with_reducible first | exact HB.out | apply below_alloc | apply pw_below_drewN | apply below_drew1) | exact HB.out)) hb); clear HO_9; clear HO_10; clear HB; have HO_9 := n0_; have HO_10 := n1_; have HB := n2_; clear n0_ n1_ n2_; (try clear hb); (try clear hb2); (try clear hk); (try clear hi); have p219 : 0 ≤ (x18_2 : Int) := of_decide_eq_true (by first | (with_reducible assumption) | assumption); have q219 : x18_2 < (t193.length : Int) := of_decide_eq_true (by first | (with_reducible assumption) | assumption); obtain ⟨ad219, e219, hx219_0⟩ := Kd.at_int (Kd.R_reads' HO_10.out).2.2 x18_2 p219 q219; obtain rfl : ad207 = ad219 := (by injection e219); replace p219 := eq_true p219; replace q219 := eq_true q219)); try go_wp2_with (first | (go_at_call 17; (with_reducible refine (observatorylaw13_dist.calls x15_2 (rd t193 x18_2) t217 _ A69.out).mono ?_); rintro e w71 ⟨rfl, hb⟩; have n0_ := Aside0.mk (Kd.R_below (by (with_reducible repeat (first | apply Kd.R_alloc | apply Kd.R_drewN | apply Kd.R_drew)); exact HO_9.out) hb); have n1_ := Aside0.mk (Kd.R_below (by (with_reducible repeat (first | apply Kd.R_alloc | apply Kd.R_drewN | apply Kd.R_drew)); exact HO_10.out) hb); have n2_ := Aside0.mk (below_step (by repeat (first | (with_reducible first | exact HB.out | apply below_alloc | apply pw_below_drewN | apply below_drew1) | exact HB.out)) hb); clear HO_9; clear HO_10; clear HB; have HO_9 := n0_; have HO_10 := n1_; have HB := n2_; clear n0_ n1_ n2_; (try clear hb); (try clear hb2); (try clear hk); (try clear hi)) | (go_at_call 17; (with_reducible refine (observatorylaw13_dist.calls x16_2 x21_42 t218 _ A70.out).mono ?_); rintro e w72 ⟨rfl, hb⟩; have n0_ := Aside0.mk (Kd.R_below (by (with_reducible repeat (first | apply Kd.R_alloc | apply Kd.R_drewN | apply Kd.R_drew)); exact HO_9.out) hb); have n1_ := Aside0.mk (Kd.R_below (by (with_reducible repeat (first | apply Kd.R_alloc | apply Kd.R_drewN | apply Kd.R_drew)); exact HO_10.out) hb); have n2_ := Aside0.mk (below_step (by repeat (first | (with_reducible first | exact HB.out | apply below_alloc | apply pw_below_drewN | apply below_drew1) | exact HB.out)) hb); clear HO_9; clear HO_10; clear HB; have HO_9 := n0_; have HO_10 := n1_; have HB := n2_; clear n0_ n1_ n2_; (try clear hb); (try clear hb2); (try clear hk); (try clear hi); have p219 : 0 ≤ (x18_2 : Int) := of_decide_eq_true (by first | (with_reducible assumption) | assumption); have q219 : x18_2 < (t193.length : Int) := of_decide_eq_true (by first | (with_reducible assumption) | assumption); obtain ⟨ad219, e219, hx219_0⟩ := Kd.at_int (Kd.R_reads' HO_10.out).2.2 x18_2 p219 q219; obtain rfl : ad207 = ad219 := (by injection e219); replace p219 := eq_true p219; replace q219 := eq_true q219)))
                                                          go_roundg kj55
                                                          case measure => have := HJ16.out; have := HK2.out; have := HJ25.out; have := HJ35.out; have := HJ42.out; have := HJ49.out; have := HJ53.out; have := HJ55.out; omega
                                                          case rel => exact ⟨(wrap64 (x13_2 + t217)), (wrap64 (x14_2 + t218)), (rd t193 x18_2), (x21_42), (x17_53), (wrap64 (x18_2 + 1)), (by first | rfl | (simp; done) | (simp [*]; done)), (by first | rfl | (simp; done) | (simp [*]; done)), (by first | rfl | (simp; done) | (simp [*]; done)), (by first | rfl | (simp; done) | (simp [*]; done)), (by first | rfl | (simp; done) | (simp [*]; done)), (by first | rfl | (simp; done) | (simp [*]; done)), H', ⟨by have := HJ16.out; have := HK2.out; have := HJ25.out; have := HJ35.out; have := HJ42.out; have := HJ49.out; have := HJ53.out; have := HJ55.out; omega⟩, ⟨by (with_reducible repeat (first | apply Kd.R_alloc | apply Kd.R_drewN | apply Kd.R_drew)); exact HO_9.out⟩, ⟨by (with_reducible repeat (first | apply Kd.R_alloc | apply Kd.R_drewN | apply Kd.R_drew)); exact HO_10.out⟩, ⟨by repeat (first | (with_reducible first | exact HB.out | apply below_alloc | apply pw_below_drewN | apply below_drew1) | exact HB.out)⟩⟩
                                                        · rw [if_neg c68] at H
                                                          exact absurd H (by simp)
                                                      · rw [if_neg c67] at H
                                                        exact absurd H (by simp)
                                  · rw [if_neg c42] at H
                                    exact absurd H (by simp)
                                · rw [if_neg c41] at H
                                  exact absurd H (by simp)
                        · rw [if_neg c34] at H
                          exact absurd H (by simp)
                      · rw [if_neg c33] at H
                        exact absurd H (by simp)
              · rw [if_neg c25] at H
                have c25b0 : decide (x18_2 < (t193.length : Int)) = false := decide_eq_false c25
                clear c25
                by_cases c73 : t188 = true
                · subst c73
                  have H1 : (if x13_2 = t194 then (if x14_2 > t194 then (some true) else (if x14_2 = t194 then (some (decide (x17_2 ≥ 0))) else (some false))) else (some false)) = some r := by rw [if_pos rfl] at H; exact H
                  clear H
                  have H := H1
                  clear H1
                  by_cases c74 : x13_2 = t194
                  · rw [if_pos c74] at H
                    have c74b0 : (x13_2 == t194) = true := beq_iff_eq.mpr c74
                    have c74b1 : (x13_2 != t194) = false := bne_eq_false_iff_eq.mpr c74
                    clear c74
                    by_cases c75 : x14_2 > t194
                    · rw [if_pos c75] at H
                      have c75b0 : decide (t194 < x14_2) = true := decide_eq_true c75
                      clear c75
                      obtain rfl := Option.some.inj H
                      obtain ⟨Ao76, co76, eo76⟩ := Kd.R_slice HO_10.out
                      subst eo76
                      go_wp2
                      repeat (go_quiet (fail); try go_wp2)
                      go_ret
                      exact ⟨by first | rfl | (simp [errW_none, errW_some] <;> rfl) | (simp [*, errW_none, errW_some] <;> rfl), by repeat (first | (with_reducible first | exact HB.out | apply below_alloc | apply pw_below_drewN | apply below_drew1) | exact HB.out)⟩
                    · rw [if_neg c75] at H
                      have c75b0 : decide (t194 < x14_2) = false := decide_eq_false c75
                      clear c75
                      by_cases c77 : x14_2 = t194
                      · rw [if_pos c77] at H
                        have c77b0 : (x14_2 == t194) = true := beq_iff_eq.mpr c77
                        have c77b1 : (x14_2 != t194) = false := bne_eq_false_iff_eq.mpr c77
                        clear c77
                        obtain rfl := Option.some.inj H
                        obtain ⟨Ao78, co78, eo78⟩ := Kd.R_slice HO_10.out
                        subst eo78
                        go_wp2
                        repeat (go_quiet (fail); try go_wp2)
                        go_ret
                        exact ⟨by first | rfl | (simp [errW_none, errW_some] <;> rfl) | (simp [*, errW_none, errW_some] <;> rfl), by repeat (first | (with_reducible first | exact HB.out | apply below_alloc | apply pw_below_drewN | apply below_drew1) | exact HB.out)⟩
                      · rw [if_neg c77] at H
                        have c77b0 : (x14_2 == t194) = false := beq_eq_false_iff_ne.mpr c77
                        have c77b1 : (x14_2 != t194) = true := bne_iff_ne.mpr c77
                        exact absurd ((Option.some.inj H).trans HT_.out) (by decide)
                  · rw [if_neg c74] at H
                    have c74b0 : (x13_2 == t194) = false := beq_eq_false_iff_ne.mpr c74
                    have c74b1 : (x13_2 != t194) = true := bne_iff_ne.mpr c74
                    exact absurd ((Option.some.inj H).trans HT_.out) (by decide)
                · replace c73 := Bool.eq_false_iff.mpr c73
                  subst c73
                  have H1 : (some false) = some r := by rw [if_neg (show ¬ (false = true) by decide)] at H; exact H
                  clear H
                  have H := H1
                  clear H1
                  exact absurd ((Option.some.inj H).trans HT_.out) (by decide)

/-- THE ONE PURE STATEMENT of observatorylaw13_MountPlans: yours. -/
def observatorylaw13_MountPlans.Pure : Prop := ∀ (a0 : Int) (l1 : List Int) (l2 : List Int), (Lit.int .u8 a0).wf = true → l1.length ≤ maxLen → l1.length * 1 ≤ 140737488351232 → (∀ x ∈ l1, (Lit.int .u8 x).wf = true) → l2.length ≤ maxLen → l2.length * 1 ≤ 140737488351232 → (∀ x ∈ l2, (Lit.int .u8 x).wf = true) → ∃ k, observatorylaw13_MountPlans.f k a0 l1 l2 = some true
theorem observatorylaw13_MountPlans.walk (P : observatorylaw13_MountPlans.Pure) (a0 : Int) (a1 : Option Addr) (len1 cap1 : Nat) (z1 : List Int) (a2 : Option Addr) (len2 cap2 : Nat) (z2 : List Int) (w : World) (w0 : (Lit.int .u8 a0).wf = true) (w1 : (a1 = none ∧ len1 = 0 ∧ cap1 = 0 ∧ z1 = []) ∨ ∃ x, a1 = some x ∧ len1 ≤ cap1 ∧ cap1 ≤ maxLen ∧ z1.length = cap1 ∧ (∀ i, i < z1.length → w.cell? (x.add i) = some (.int .u8 (z1.getD i 0))) ∧ ∀ n ∈ z1, (Lit.int .u8 n).wf = true) (y1 : len1 * 1 ≤ 140737488351232) (w2 : (a2 = none ∧ len2 = 0 ∧ cap2 = 0 ∧ z2 = []) ∨ ∃ x, a2 = some x ∧ len2 ≤ cap2 ∧ cap2 ≤ maxLen ∧ z2.length = cap2 ∧ (∀ i, i < z2.length → w.cell? (x.add i) = some (.int .u8 (z2.getD i 0))) ∧ ∀ n ∈ z2, (Lit.int .u8 n).wf = true) (y2 : len2 * 1 ≤ 140737488351232) :
    Calls Try.prog 5 #[.int .u8 a0, .slice a1 len1 cap1, .slice a2 len2 cap2] w fun e w' => e = .returned (.bool true) ∧ Below w.heap.size w w' := by
  obtain ⟨l1, rfl, hr1, hm1, hw1, hc1⟩ := ReadsInt.ofRowC w1
  obtain ⟨l2, rfl, hr2, hm2, hw2, hc2⟩ := ReadsInt.ofRowC w2
  obtain ⟨k, h⟩ := P a0 l1 l2 w0 hm1 y1 hw1 hm2 y2 hw2
  refine (observatorylaw13_MountPlans.calls k a0 _ _ l1 _ _ l2 true w rfl (Kd.C_of_reads (d := (0 : Int)) (h1 := fun _ => rfl) hr1) hc1 (Kd.C_of_reads (d := (0 : Int)) (h1 := fun _ => rfl) hr2) hc2 h).mono ?_
  rintro e w' ⟨rfl, hd⟩
  exact ⟨rfl, hd⟩

end Go.Proofs.Ytopbajcnihboiaa.Px
