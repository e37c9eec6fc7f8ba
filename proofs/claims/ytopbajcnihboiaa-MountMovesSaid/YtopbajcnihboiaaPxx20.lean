-- By a program of this session (a turned copy of the kit's print.py): a function of the translation as a Lean function, and the proof that the code computes it. Lean checks it.
import Derived.Test.YtopbajcnihboiaaPxx0
import Derived.Test.YtopbajcnihboiaaPxx3
import Derived.Test.YtopbajcnihboiaaPxx7
import Derived.Test.YtopbajcnihboiaaPxx17
import Derived.Test.YtopbajcnihboiaaPxx18
import Derived.Test.YtopbajcnihboiaaPxx19
import Derived.Test.YtopbajcnihboiaaExtE
namespace Go.Proofs.Ytopbajcnihboiaa.Px
open Go.RowKit Go.Proofs.YtopbajcnihboiaaW.PrintWords Go.Proofs.YtopbajcnihboiaaW.PrintLast Go.Proofs.YtopbajcnihboiaaW.PrintMore
attribute [local go_sem] max2_int min2_int max_two min_two max_three min_three max_four min_four   -- for this text's walks alone
set_option linter.unusedVariables false
set_option linter.unusedSimpArgs false

/-! ### observatorylaw13_MountMoves: function 4 -/
mutual
def observatorylaw13_MountMoves.j0 : Nat → Bool → Int → Int → List Int → Int → Int → Bool → Option (Bool)
  | 0, _, _, _, _, _, _, _ => none
  | k + 1, x7, x8, x9, x10, x12, x13, x67 => if x67 = true then (some false) else (observatorylaw13_MountMoves.l0 k x7 x8 x9 x10 x12 x13 false 0)
def observatorylaw13_MountMoves.l0 : Nat → Bool → Int → Int → List Int → Int → Int → Bool → Int → Option (Bool)
  | 0, _, _, _, _, _, _, _, _ => none
  | k + 1, x7, x8, x9, x10, x12, x13, x15, x16 => if x16 < (x10.length : Int) then (if 0 ≤ x16 then (if (rd x10 x16) < (-48) then (observatorylaw13_MountMoves.j2 k x7 x8 x9 x10 x12 x13 x15 x16 true) else (if (rd x10 x16) > 48 then (observatorylaw13_MountMoves.j2 k x7 x8 x9 x10 x12 x13 x15 x16 true) else (if (Int.tmod (wrap64 ((rd x10 x16) + 64)) 32) = x9 then (if x16 > 0 then (if 0 ≤ (wrap64 (x16 - 1)) then (if (wrap64 (x16 - 1)) < (x10.length : Int) then (observatorylaw13_MountMoves.j2 k x7 x8 x9 x10 x12 x13 x15 x16 ((rd x10 x16) != (wrap64 ((rd x10 (wrap64 (x16 - 1))) + 32)))) else (none)) else (none)) else (observatorylaw13_MountMoves.j2 k x7 x8 x9 x10 x12 x13 x15 x16 false)) else (observatorylaw13_MountMoves.j2 k x7 x8 x9 x10 x12 x13 x15 x16 true)))) else (none)) else (if x7 = true then (if x15 = true then ((observatorylaw13_dist.f x8 x12).bind fun t171 => (if x13 = t171 then (if x13 < 32 then ((observatorylaw13_around.f x8 x9).bind fun t172 => (some (decide (x13 ≥ t172)))) else (some false)) else (some false))) else (some false)) else (some false))
def observatorylaw13_MountMoves.j2 : Nat → Bool → Int → Int → List Int → Int → Int → Bool → Int → Bool → Option (Bool)
  | 0, _, _, _, _, _, _, _, _, _ => none
  | k + 1, x7, x8, x9, x10, x12, x13, x15, x16, x112 => if x112 = true then (some false) else (if x15 = true then (observatorylaw13_MountMoves.j3 k x7 x8 x9 x10 x12 x13 true x16) else (if 0 ≤ x16 then (if x16 < (x10.length : Int) then (observatorylaw13_MountMoves.j3 k x7 x8 x9 x10 x12 x13 ((rd x10 x16) == x12) x16) else (none)) else (none)))
def observatorylaw13_MountMoves.j3 : Nat → Bool → Int → Int → List Int → Int → Int → Bool → Int → Option (Bool)
  | 0, _, _, _, _, _, _, _, _ => none
  | k + 1, x7, x8, x9, x10, x12, x13, x15, x16 => if 0 ≤ x16 then (if x16 < (x10.length : Int) then ((observatorylaw13_dist.f x8 (rd x10 x16)).bind fun t180 => (if t180 < x13 then (some false) else ((observatorylaw13_dist.f x8 (rd x10 x16)).bind fun t182 => (if t182 = x13 then (if (rd x10 x16) < x12 then (some false) else (observatorylaw13_MountMoves.l0 k x7 x8 x9 x10 x12 x13 x15 (wrap64 (x16 + 1)))) else (observatorylaw13_MountMoves.l0 k x7 x8 x9 x10 x12 x13 x15 (wrap64 (x16 + 1))))))) else (none)) else (none)
end
def observatorylaw13_MountMoves.f (k : Nat) (a0 : Int) (a1 : Int) (a2 : Int) : Option (Bool) := (observatorylaw13_head.f).bind fun t160 => ((observatorylaw13_position.f a0).bind fun t161 => ((mount_Reach.f k (Int.tmod (wrap64 (a1)) 32)).bind fun bt162 => ((mount_Move.f t161 (Int.tmod (wrap64 (a1)) 32)).bind fun bt166 => (if bt162.2 = 0 then (if bt166.2.2 = 0 then (if (bt162.1.length : Int) < 3 then (observatorylaw13_MountMoves.j0 k t160 t161 (Int.tmod (wrap64 (a1)) 32) bt162.1 bt166.1 bt166.2.1 true) else (if (bt162.1.length : Int) > 4 then (observatorylaw13_MountMoves.j0 k t160 t161 (Int.tmod (wrap64 (a1)) 32) bt162.1 bt166.1 bt166.2.1 true) else (if 0 < (bt162.1.length : Int) then (if (wrap64 ((rd bt162.1 0) - 32)) ≥ (-48) then (observatorylaw13_MountMoves.j0 k t160 t161 (Int.tmod (wrap64 (a1)) 32) bt162.1 bt166.1 bt166.2.1 true) else (if 0 ≤ (wrap64 ((bt162.1.length : Int) - 1)) then (if (wrap64 ((bt162.1.length : Int) - 1)) < (bt162.1.length : Int) then (observatorylaw13_MountMoves.j0 k t160 t161 (Int.tmod (wrap64 (a1)) 32) bt162.1 bt166.1 bt166.2.1 (decide ((wrap64 ((rd bt162.1 (wrap64 ((bt162.1.length : Int) - 1))) + 32)) ≤ 48))) else (none)) else (none))) else (none)))) else (observatorylaw13_MountMoves.j0 k t160 t161 (Int.tmod (wrap64 (a1)) 32) bt162.1 bt166.1 bt166.2.1 true)) else (observatorylaw13_MountMoves.j0 k t160 t161 (Int.tmod (wrap64 (a1)) 32) bt162.1 bt166.1 bt166.2.1 true)))))
theorem observatorylaw13_MountMoves.mono_l : ∀ k, (∀ y0 y1 y2 y3 y4 y5 y6, LeO (observatorylaw13_MountMoves.j0 k y0 y1 y2 y3 y4 y5 y6) (observatorylaw13_MountMoves.j0 (k + 1) y0 y1 y2 y3 y4 y5 y6)) ∧ (∀ y0 y1 y2 y3 y4 y5 y6 y7, LeO (observatorylaw13_MountMoves.l0 k y0 y1 y2 y3 y4 y5 y6 y7) (observatorylaw13_MountMoves.l0 (k + 1) y0 y1 y2 y3 y4 y5 y6 y7)) ∧ (∀ y0 y1 y2 y3 y4 y5 y6 y7 y8, LeO (observatorylaw13_MountMoves.j2 k y0 y1 y2 y3 y4 y5 y6 y7 y8) (observatorylaw13_MountMoves.j2 (k + 1) y0 y1 y2 y3 y4 y5 y6 y7 y8)) ∧ (∀ y0 y1 y2 y3 y4 y5 y6 y7, LeO (observatorylaw13_MountMoves.j3 k y0 y1 y2 y3 y4 y5 y6 y7) (observatorylaw13_MountMoves.j3 (k + 1) y0 y1 y2 y3 y4 y5 y6 y7))
  | 0 => ⟨fun _ _ _ _ _ _ _ r h => by simp [observatorylaw13_MountMoves.j0] at h, fun _ _ _ _ _ _ _ _ r h => by simp [observatorylaw13_MountMoves.l0] at h, fun _ _ _ _ _ _ _ _ _ r h => by simp [observatorylaw13_MountMoves.j2] at h, fun _ _ _ _ _ _ _ _ r h => by simp [observatorylaw13_MountMoves.j3] at h⟩
  | k + 1 => by
    obtain ⟨ih0, ih1, ih2, ih3⟩ := observatorylaw13_MountMoves.mono_l k
    refine ⟨?_, ?_, ?_, ?_⟩
    · intro y0 y1 y2 y3 y4 y5 y6
      unfold observatorylaw13_MountMoves.j0
      repeat' first
      | (with_reducible exact ih0 _ _ _ _ _ _ _)
      | (with_reducible exact ih1 _ _ _ _ _ _ _ _)
      | (with_reducible exact ih2 _ _ _ _ _ _ _ _ _)
      | (with_reducible exact ih3 _ _ _ _ _ _ _ _)
      | (with_reducible exact mount_Reach.mono _ _)
      | (with_reducible exact LeO.refl _)
      | (with_reducible exact LeO.none _)
      | (with_reducible refine LeO.ite ?_ ?_)
      | (with_reducible refine LeO.bind ?_ (fun _ => ?_))
      | exact ih0 _ _ _ _ _ _ _
      | exact ih1 _ _ _ _ _ _ _ _
      | exact ih2 _ _ _ _ _ _ _ _ _
      | exact ih3 _ _ _ _ _ _ _ _
      | exact mount_Reach.mono _ _
      | exact LeO.none _
      | refine LeO.ite ?_ ?_
      | refine LeO.bind ?_ (fun _ => ?_)
    · intro y0 y1 y2 y3 y4 y5 y6 y7
      unfold observatorylaw13_MountMoves.l0
      repeat' first
      | (with_reducible exact ih0 _ _ _ _ _ _ _)
      | (with_reducible exact ih1 _ _ _ _ _ _ _ _)
      | (with_reducible exact ih2 _ _ _ _ _ _ _ _ _)
      | (with_reducible exact ih3 _ _ _ _ _ _ _ _)
      | (with_reducible exact mount_Reach.mono _ _)
      | (with_reducible exact LeO.refl _)
      | (with_reducible exact LeO.none _)
      | (with_reducible refine LeO.ite ?_ ?_)
      | (with_reducible refine LeO.bind ?_ (fun _ => ?_))
      | exact ih0 _ _ _ _ _ _ _
      | exact ih1 _ _ _ _ _ _ _ _
      | exact ih2 _ _ _ _ _ _ _ _ _
      | exact ih3 _ _ _ _ _ _ _ _
      | exact mount_Reach.mono _ _
      | exact LeO.none _
      | refine LeO.ite ?_ ?_
      | refine LeO.bind ?_ (fun _ => ?_)
    · intro y0 y1 y2 y3 y4 y5 y6 y7 y8
      unfold observatorylaw13_MountMoves.j2
      repeat' first
      | (with_reducible exact ih0 _ _ _ _ _ _ _)
      | (with_reducible exact ih1 _ _ _ _ _ _ _ _)
      | (with_reducible exact ih2 _ _ _ _ _ _ _ _ _)
      | (with_reducible exact ih3 _ _ _ _ _ _ _ _)
      | (with_reducible exact mount_Reach.mono _ _)
      | (with_reducible exact LeO.refl _)
      | (with_reducible exact LeO.none _)
      | (with_reducible refine LeO.ite ?_ ?_)
      | (with_reducible refine LeO.bind ?_ (fun _ => ?_))
      | exact ih0 _ _ _ _ _ _ _
      | exact ih1 _ _ _ _ _ _ _ _
      | exact ih2 _ _ _ _ _ _ _ _ _
      | exact ih3 _ _ _ _ _ _ _ _
      | exact mount_Reach.mono _ _
      | exact LeO.none _
      | refine LeO.ite ?_ ?_
      | refine LeO.bind ?_ (fun _ => ?_)
    · intro y0 y1 y2 y3 y4 y5 y6 y7
      unfold observatorylaw13_MountMoves.j3
      repeat' first
      | (with_reducible exact ih0 _ _ _ _ _ _ _)
      | (with_reducible exact ih1 _ _ _ _ _ _ _ _)
      | (with_reducible exact ih2 _ _ _ _ _ _ _ _ _)
      | (with_reducible exact ih3 _ _ _ _ _ _ _ _)
      | (with_reducible exact mount_Reach.mono _ _)
      | (with_reducible exact LeO.refl _)
      | (with_reducible exact LeO.none _)
      | (with_reducible refine LeO.ite ?_ ?_)
      | (with_reducible refine LeO.bind ?_ (fun _ => ?_))
      | exact ih0 _ _ _ _ _ _ _
      | exact ih1 _ _ _ _ _ _ _ _
      | exact ih2 _ _ _ _ _ _ _ _ _
      | exact ih3 _ _ _ _ _ _ _ _
      | exact mount_Reach.mono _ _
      | exact LeO.none _
      | refine LeO.ite ?_ ?_
      | refine LeO.bind ?_ (fun _ => ?_)
theorem observatorylaw13_MountMoves.mono : ∀ a0 a1 a2 k, LeO (observatorylaw13_MountMoves.f k a0 a1 a2) (observatorylaw13_MountMoves.f (k + 1) a0 a1 a2) := by
  intro a0 a1 a2 k
  obtain ⟨ih0, ih1, ih2, ih3⟩ := observatorylaw13_MountMoves.mono_l k
  unfold observatorylaw13_MountMoves.f
  repeat' first
      | (with_reducible exact ih0 _ _ _ _ _ _ _)
      | (with_reducible exact ih1 _ _ _ _ _ _ _ _)
      | (with_reducible exact ih2 _ _ _ _ _ _ _ _ _)
      | (with_reducible exact ih3 _ _ _ _ _ _ _ _)
      | (with_reducible exact mount_Reach.mono _ _)
      | (with_reducible exact LeO.refl _)
      | (with_reducible exact LeO.none _)
      | (with_reducible refine LeO.ite ?_ ?_)
      | (with_reducible refine LeO.bind ?_ (fun _ => ?_))
      | exact ih0 _ _ _ _ _ _ _
      | exact ih1 _ _ _ _ _ _ _ _
      | exact ih2 _ _ _ _ _ _ _ _ _
      | exact ih3 _ _ _ _ _ _ _ _
      | exact mount_Reach.mono _ _
      | exact LeO.none _
      | refine LeO.ite ?_ ?_
      | refine LeO.bind ?_ (fun _ => ?_)
set_option maxHeartbeats 8000000 in
set_option maxRecDepth 100000 in
theorem observatorylaw13_MountMoves.calls (k : Nat) (a0 : Int) (a1 : Int) (a2 : Int) (r : Bool) (w : World) (hT : r = true) (h : observatorylaw13_MountMoves.f k a0 a1 a2 = some r) :
    Calls Try.prog 4 #[.int .u8 a0, .int .u8 a1, .int .u8 a2] w fun e w' => e = .returned (.bool r) ∧ Below w.heap.size w w' := by
  have HB := Aside0.mk (Below.refl w.heap.size w)
  have HT_ := Aside0.mk hT
  clear hT
  have H : ((observatorylaw13_head.f).bind fun t160 => ((observatorylaw13_position.f a0).bind fun t161 => ((mount_Reach.f k (Int.tmod (wrap64 (a1)) 32)).bind fun bt162 => ((mount_Move.f t161 (Int.tmod (wrap64 (a1)) 32)).bind fun bt166 => (if bt162.2 = 0 then (if bt166.2.2 = 0 then (if (bt162.1.length : Int) < 3 then (observatorylaw13_MountMoves.j0 k t160 t161 (Int.tmod (wrap64 (a1)) 32) bt162.1 bt166.1 bt166.2.1 true) else (if (bt162.1.length : Int) > 4 then (observatorylaw13_MountMoves.j0 k t160 t161 (Int.tmod (wrap64 (a1)) 32) bt162.1 bt166.1 bt166.2.1 true) else (if 0 < (bt162.1.length : Int) then (if (wrap64 ((rd bt162.1 0) - 32)) ≥ (-48) then (observatorylaw13_MountMoves.j0 k t160 t161 (Int.tmod (wrap64 (a1)) 32) bt162.1 bt166.1 bt166.2.1 true) else (if 0 ≤ (wrap64 ((bt162.1.length : Int) - 1)) then (if (wrap64 ((bt162.1.length : Int) - 1)) < (bt162.1.length : Int) then (observatorylaw13_MountMoves.j0 k t160 t161 (Int.tmod (wrap64 (a1)) 32) bt162.1 bt166.1 bt166.2.1 (decide ((wrap64 ((rd bt162.1 (wrap64 ((bt162.1.length : Int) - 1))) + 32)) ≤ 48))) else (none)) else (none))) else (none)))) else (observatorylaw13_MountMoves.j0 k t160 t161 (Int.tmod (wrap64 (a1)) 32) bt162.1 bt166.1 bt166.2.1 true)) else (observatorylaw13_MountMoves.j0 k t160 t161 (Int.tmod (wrap64 (a1)) 32) bt162.1 bt166.1 bt166.2.1 true)))))) = some r := h
  clear h
  replace H := Option.bind_eq_some_iff.mp H
  obtain ⟨t160, A40, H⟩ := H
  replace H : ((observatorylaw13_position.f a0).bind fun t161 => ((mount_Reach.f k (Int.tmod (wrap64 (a1)) 32)).bind fun bt162 => ((mount_Move.f t161 (Int.tmod (wrap64 (a1)) 32)).bind fun bt166 => (if bt162.2 = 0 then (if bt166.2.2 = 0 then (if (bt162.1.length : Int) < 3 then (observatorylaw13_MountMoves.j0 k t160 t161 (Int.tmod (wrap64 (a1)) 32) bt162.1 bt166.1 bt166.2.1 true) else (if (bt162.1.length : Int) > 4 then (observatorylaw13_MountMoves.j0 k t160 t161 (Int.tmod (wrap64 (a1)) 32) bt162.1 bt166.1 bt166.2.1 true) else (if 0 < (bt162.1.length : Int) then (if (wrap64 ((rd bt162.1 0) - 32)) ≥ (-48) then (observatorylaw13_MountMoves.j0 k t160 t161 (Int.tmod (wrap64 (a1)) 32) bt162.1 bt166.1 bt166.2.1 true) else (if 0 ≤ (wrap64 ((bt162.1.length : Int) - 1)) then (if (wrap64 ((bt162.1.length : Int) - 1)) < (bt162.1.length : Int) then (observatorylaw13_MountMoves.j0 k t160 t161 (Int.tmod (wrap64 (a1)) 32) bt162.1 bt166.1 bt166.2.1 (decide ((wrap64 ((rd bt162.1 (wrap64 ((bt162.1.length : Int) - 1))) + 32)) ≤ 48))) else (none)) else (none))) else (none)))) else (observatorylaw13_MountMoves.j0 k t160 t161 (Int.tmod (wrap64 (a1)) 32) bt162.1 bt166.1 bt166.2.1 true)) else (observatorylaw13_MountMoves.j0 k t160 t161 (Int.tmod (wrap64 (a1)) 32) bt162.1 bt166.1 bt166.2.1 true))))) = some r := H
  have A4 := Aside0.mk A40
  clear A40
  replace H := Option.bind_eq_some_iff.mp H
  obtain ⟨t161, A50, H⟩ := H
  replace H : ((mount_Reach.f k (Int.tmod (wrap64 (a1)) 32)).bind fun bt162 => ((mount_Move.f t161 (Int.tmod (wrap64 (a1)) 32)).bind fun bt166 => (if bt162.2 = 0 then (if bt166.2.2 = 0 then (if (bt162.1.length : Int) < 3 then (observatorylaw13_MountMoves.j0 k t160 t161 (Int.tmod (wrap64 (a1)) 32) bt162.1 bt166.1 bt166.2.1 true) else (if (bt162.1.length : Int) > 4 then (observatorylaw13_MountMoves.j0 k t160 t161 (Int.tmod (wrap64 (a1)) 32) bt162.1 bt166.1 bt166.2.1 true) else (if 0 < (bt162.1.length : Int) then (if (wrap64 ((rd bt162.1 0) - 32)) ≥ (-48) then (observatorylaw13_MountMoves.j0 k t160 t161 (Int.tmod (wrap64 (a1)) 32) bt162.1 bt166.1 bt166.2.1 true) else (if 0 ≤ (wrap64 ((bt162.1.length : Int) - 1)) then (if (wrap64 ((bt162.1.length : Int) - 1)) < (bt162.1.length : Int) then (observatorylaw13_MountMoves.j0 k t160 t161 (Int.tmod (wrap64 (a1)) 32) bt162.1 bt166.1 bt166.2.1 (decide ((wrap64 ((rd bt162.1 (wrap64 ((bt162.1.length : Int) - 1))) + 32)) ≤ 48))) else (none)) else (none))) else (none)))) else (observatorylaw13_MountMoves.j0 k t160 t161 (Int.tmod (wrap64 (a1)) 32) bt162.1 bt166.1 bt166.2.1 true)) else (observatorylaw13_MountMoves.j0 k t160 t161 (Int.tmod (wrap64 (a1)) 32) bt162.1 bt166.1 bt166.2.1 true)))) = some r := H
  have A5 := Aside0.mk A50
  clear A50
  replace H := Option.bind_eq_some_iff.mp H
  obtain ⟨⟨t162, t163⟩, A60, H⟩ := H
  replace H : ((mount_Move.f t161 (Int.tmod (wrap64 (a1)) 32)).bind fun bt166 => (if t163 = 0 then (if bt166.2.2 = 0 then (if (t162.length : Int) < 3 then (observatorylaw13_MountMoves.j0 k t160 t161 (Int.tmod (wrap64 (a1)) 32) t162 bt166.1 bt166.2.1 true) else (if (t162.length : Int) > 4 then (observatorylaw13_MountMoves.j0 k t160 t161 (Int.tmod (wrap64 (a1)) 32) t162 bt166.1 bt166.2.1 true) else (if 0 < (t162.length : Int) then (if (wrap64 ((rd t162 0) - 32)) ≥ (-48) then (observatorylaw13_MountMoves.j0 k t160 t161 (Int.tmod (wrap64 (a1)) 32) t162 bt166.1 bt166.2.1 true) else (if 0 ≤ (wrap64 ((t162.length : Int) - 1)) then (if (wrap64 ((t162.length : Int) - 1)) < (t162.length : Int) then (observatorylaw13_MountMoves.j0 k t160 t161 (Int.tmod (wrap64 (a1)) 32) t162 bt166.1 bt166.2.1 (decide ((wrap64 ((rd t162 (wrap64 ((t162.length : Int) - 1))) + 32)) ≤ 48))) else (none)) else (none))) else (none)))) else (observatorylaw13_MountMoves.j0 k t160 t161 (Int.tmod (wrap64 (a1)) 32) t162 bt166.1 bt166.2.1 true)) else (observatorylaw13_MountMoves.j0 k t160 t161 (Int.tmod (wrap64 (a1)) 32) t162 bt166.1 bt166.2.1 true))) = some r := H
  have A6 := Aside0.mk A60
  clear A60
  replace H := Option.bind_eq_some_iff.mp H
  obtain ⟨⟨t166, t167, t168⟩, A70, H⟩ := H
  replace H : (if t163 = 0 then (if t168 = 0 then (if (t162.length : Int) < 3 then (observatorylaw13_MountMoves.j0 k t160 t161 (Int.tmod (wrap64 (a1)) 32) t162 t166 t167 true) else (if (t162.length : Int) > 4 then (observatorylaw13_MountMoves.j0 k t160 t161 (Int.tmod (wrap64 (a1)) 32) t162 t166 t167 true) else (if 0 < (t162.length : Int) then (if (wrap64 ((rd t162 0) - 32)) ≥ (-48) then (observatorylaw13_MountMoves.j0 k t160 t161 (Int.tmod (wrap64 (a1)) 32) t162 t166 t167 true) else (if 0 ≤ (wrap64 ((t162.length : Int) - 1)) then (if (wrap64 ((t162.length : Int) - 1)) < (t162.length : Int) then (observatorylaw13_MountMoves.j0 k t160 t161 (Int.tmod (wrap64 (a1)) 32) t162 t166 t167 (decide ((wrap64 ((rd t162 (wrap64 ((t162.length : Int) - 1))) + 32)) ≤ 48))) else (none)) else (none))) else (none)))) else (observatorylaw13_MountMoves.j0 k t160 t161 (Int.tmod (wrap64 (a1)) 32) t162 t166 t167 true)) else (observatorylaw13_MountMoves.j0 k t160 t161 (Int.tmod (wrap64 (a1)) 32) t162 t166 t167 true)) = some r := H
  have A7 := Aside0.mk A70
  clear A70
  have HC8 := Aside0.mk H
  clear H
  go_enter Try.func4, Try.ntmps4
  go_upto_region 5 with (first | (go_at_call 8; (with_reducible refine (observatorylaw13_head.calls  t160 _ A4.out).mono ?_); rintro e w9 ⟨rfl, hb⟩; have n0_ := Aside0.mk (below_step (by repeat (first | (with_reducible first | exact HB.out | apply below_alloc | apply pw_below_drewN | apply below_drew1) | exact HB.out)) hb); clear HB; have HB := n0_; clear n0_; (try clear hb); (try clear hb2); (try clear hk); (try clear hi)) | (go_at_call 16; (with_reducible refine (observatorylaw13_position.calls a0 t161 _ A5.out).mono ?_); rintro e w' ⟨rfl, ⟨nd, rfl⟩⟩; (try first | exact ⟨rfl, _, World.drewN_drewN _ _ _⟩ | exact ⟨rfl, _, Eq.trans (World.drewN_drewN _ _ _) (congrArg (World.drewN _) (Nat.add_assoc _ _ _))⟩)) | (go_at_call 9; (with_reducible refine (mount_Reach.calls k (Int.tmod (wrap64 (a1)) 32) t162 t163 _ A6.out).mono ?_); rintro e w10 ⟨v164, rfl, ho0, hb⟩; have n0_ := Aside0.mk (Kd.R_lower ho0 (below_size (by repeat (first | (with_reducible first | exact HB.out | apply below_alloc | apply pw_below_drewN | apply below_drew1) | exact HB.out)))); have n1_ := Aside0.mk (below_step (by repeat (first | (with_reducible first | exact HB.out | apply below_alloc | apply pw_below_drewN | apply below_drew1) | exact HB.out)) hb); clear HB; have HO165 := n0_; have HB := n1_; clear n0_ n1_; (try clear hb); (try clear hb2); (try clear hk); (try clear hi); (try clear ho0)) | (go_at_call 11; (with_reducible refine (mount_Move.calls t161 (Int.tmod (wrap64 (a1)) 32) t166 t167 t168 _ A7.out).mono ?_); rintro e w11 ⟨rfl, hb⟩; have n0_ := Aside0.mk (Kd.R_below (by (with_reducible repeat (first | apply Kd.R_alloc | apply Kd.R_drewN | apply Kd.R_drew)); exact HO165.out) hb); have n1_ := Aside0.mk (below_step (by repeat (first | (with_reducible first | exact HB.out | apply below_alloc | apply pw_below_drewN | apply below_drew1) | exact HB.out)) hb); clear HO165; clear HB; have HO165 := n0_; have HB := n1_; clear n0_ n1_; (try clear hb); (try clear hb2); (try clear hk); (try clear hi)))
  repeat (go_quiet (first | (go_at_call 8; (with_reducible refine (observatorylaw13_head.calls  t160 _ A4.out).mono ?_); rintro e w9 ⟨rfl, hb⟩; have n0_ := Aside0.mk (below_step (by repeat (first | (with_reducible first | exact HB.out | apply below_alloc | apply pw_below_drewN | apply below_drew1) | exact HB.out)) hb); clear HB; have HB := n0_; clear n0_; (try clear hb); (try clear hb2); (try clear hk); (try clear hi)) | (go_at_call 16; (with_reducible refine (observatorylaw13_position.calls a0 t161 _ A5.out).mono ?_); rintro e w' ⟨rfl, ⟨nd, rfl⟩⟩; (try first | exact ⟨rfl, _, World.drewN_drewN _ _ _⟩ | exact ⟨rfl, _, Eq.trans (World.drewN_drewN _ _ _) (congrArg (World.drewN _) (Nat.add_assoc _ _ _))⟩)) | (go_at_call 9; (with_reducible refine (mount_Reach.calls k (Int.tmod (wrap64 (a1)) 32) t162 t163 _ A6.out).mono ?_); rintro e w10 ⟨v164, rfl, ho0, hb⟩; have n0_ := Aside0.mk (Kd.R_lower ho0 (below_size (by repeat (first | (with_reducible first | exact HB.out | apply below_alloc | apply pw_below_drewN | apply below_drew1) | exact HB.out)))); have n1_ := Aside0.mk (below_step (by repeat (first | (with_reducible first | exact HB.out | apply below_alloc | apply pw_below_drewN | apply below_drew1) | exact HB.out)) hb); clear HB; have HO165 := n0_; have HB := n1_; clear n0_ n1_; (try clear hb); (try clear hb2); (try clear hk); (try clear hi); (try clear ho0)) | (go_at_call 11; (with_reducible refine (mount_Move.calls t161 (Int.tmod (wrap64 (a1)) 32) t166 t167 t168 _ A7.out).mono ?_); rintro e w11 ⟨rfl, hb⟩; have n0_ := Aside0.mk (Kd.R_below (by (with_reducible repeat (first | apply Kd.R_alloc | apply Kd.R_drewN | apply Kd.R_drew)); exact HO165.out) hb); have n1_ := Aside0.mk (below_step (by repeat (first | (with_reducible first | exact HB.out | apply below_alloc | apply pw_below_drewN | apply below_drew1) | exact HB.out)) hb); clear HO165; clear HB; have HO165 := n0_; have HB := n1_; clear n0_ n1_; (try clear hb); (try clear hb2); (try clear hk); (try clear hi))); go_upto_region 5 with (first | (go_at_call 8; (with_reducible refine (observatorylaw13_head.calls  t160 _ A4.out).mono ?_); rintro e w9 ⟨rfl, hb⟩; have n0_ := Aside0.mk (below_step (by repeat (first | (with_reducible first | exact HB.out | apply below_alloc | apply pw_below_drewN | apply below_drew1) | exact HB.out)) hb); clear HB; have HB := n0_; clear n0_; (try clear hb); (try clear hb2); (try clear hk); (try clear hi)) | (go_at_call 16; (with_reducible refine (observatorylaw13_position.calls a0 t161 _ A5.out).mono ?_); rintro e w' ⟨rfl, ⟨nd, rfl⟩⟩; (try first | exact ⟨rfl, _, World.drewN_drewN _ _ _⟩ | exact ⟨rfl, _, Eq.trans (World.drewN_drewN _ _ _) (congrArg (World.drewN _) (Nat.add_assoc _ _ _))⟩)) | (go_at_call 9; (with_reducible refine (mount_Reach.calls k (Int.tmod (wrap64 (a1)) 32) t162 t163 _ A6.out).mono ?_); rintro e w10 ⟨v164, rfl, ho0, hb⟩; have n0_ := Aside0.mk (Kd.R_lower ho0 (below_size (by repeat (first | (with_reducible first | exact HB.out | apply below_alloc | apply pw_below_drewN | apply below_drew1) | exact HB.out)))); have n1_ := Aside0.mk (below_step (by repeat (first | (with_reducible first | exact HB.out | apply below_alloc | apply pw_below_drewN | apply below_drew1) | exact HB.out)) hb); clear HB; have HO165 := n0_; have HB := n1_; clear n0_ n1_; (try clear hb); (try clear hb2); (try clear hk); (try clear hi); (try clear ho0)) | (go_at_call 11; (with_reducible refine (mount_Move.calls t161 (Int.tmod (wrap64 (a1)) 32) t166 t167 t168 _ A7.out).mono ?_); rintro e w11 ⟨rfl, hb⟩; have n0_ := Aside0.mk (Kd.R_below (by (with_reducible repeat (first | apply Kd.R_alloc | apply Kd.R_drewN | apply Kd.R_drew)); exact HO165.out) hb); have n1_ := Aside0.mk (below_step (by repeat (first | (with_reducible first | exact HB.out | apply below_alloc | apply pw_below_drewN | apply below_drew1) | exact HB.out)) hb); clear HO165; clear HB; have HO165 := n0_; have HB := n1_; clear n0_ n1_; (try clear hb); (try clear hb2); (try clear hk); (try clear hi))))
  (try simp only [Act.put, List.setIfInBounds_toArray, List.set_cons_zero, List.set_cons_succ])
  go_cut [67] (fun v67 wc => ∃ (kq : Nat) (x67_7 : Bool), v67 = .bool x67_7 ∧ Aside0 (observatorylaw13_MountMoves.j0 kq t160 t161 (Int.tmod (wrap64 (a1)) 32) t162 t166 t167 x67_7 = some r) ∧ Aside0 (kq ≤ k) ∧ Aside0 (Kd.R (Kd.int .i64) 3 wc w.heap.size (fun _ => True) v164 t162) ∧ Aside0 (Below w.heap.size w wc))
  case first =>
    have H := HC8.out
    clear HC8
    by_cases c12 : t163 = 0
    · rw [if_pos c12] at H
      have c12b0 : (t163 == 0) = true := beq_iff_eq.mpr c12
      have c12b1 : (t163 != 0) = false := bne_eq_false_iff_eq.mpr c12
      clear c12
      (first | rw [c12b0] | (simp only [i64_w, i32_w]; rw [c12b0]) | skip)
      by_cases c13 : t168 = 0
      · rw [if_pos c13] at H
        have c13b0 : (t168 == 0) = true := beq_iff_eq.mpr c13
        have c13b1 : (t168 != 0) = false := bne_eq_false_iff_eq.mpr c13
        clear c13
        by_cases c14 : (t162.length : Int) < 3
        · rw [if_pos c14] at H
          have c14b0 : decide ((t162.length : Int) < 3) = true := decide_eq_true c14
          have c14b1 : decide (t162.length < 3) = true := decide_eq_true (by omega)
          clear c14
          have H' := Aside0.mk H
          clear H
          obtain ⟨Ao15, co15, eo15⟩ := Kd.R_slice HO165.out
          subst eo15
          go_wp2
          repeat (go_quiet (fail); try go_wp2)
          go_meet
          case rel => exact ⟨_, (true), (by first | rfl | (simp; done) | (simp [*]; done)), H', ⟨by first | omega | exact Nat.le_refl _⟩, ⟨by (with_reducible repeat (first | apply Kd.R_alloc | apply Kd.R_drewN | apply Kd.R_drew)); exact HO165.out⟩, ⟨by repeat (first | (with_reducible first | exact HB.out | apply below_alloc | apply pw_below_drewN | apply below_drew1) | exact HB.out)⟩⟩
        · rw [if_neg c14] at H
          have c14b0 : decide ((t162.length : Int) < 3) = false := decide_eq_false c14
          have c14b1 : decide (t162.length < 3) = false := decide_eq_false (by omega)
          clear c14
          by_cases c16 : (t162.length : Int) > 4
          · rw [if_pos c16] at H
            have c16b0 : decide (4 < (t162.length : Int)) = true := decide_eq_true c16
            have c16b1 : decide (4 < t162.length) = true := decide_eq_true (by omega)
            clear c16
            have H' := Aside0.mk H
            clear H
            obtain ⟨Ao17, co17, eo17⟩ := Kd.R_slice HO165.out
            subst eo17
            go_wp2
            repeat (go_quiet (fail); try go_wp2)
            go_meet
            case rel => exact ⟨_, (true), (by first | rfl | (simp; done) | (simp [*]; done)), H', ⟨by first | omega | exact Nat.le_refl _⟩, ⟨by (with_reducible repeat (first | apply Kd.R_alloc | apply Kd.R_drewN | apply Kd.R_drew)); exact HO165.out⟩, ⟨by repeat (first | (with_reducible first | exact HB.out | apply below_alloc | apply pw_below_drewN | apply below_drew1) | exact HB.out)⟩⟩
          · rw [if_neg c16] at H
            have c16b0 : decide (4 < (t162.length : Int)) = false := decide_eq_false c16
            have c16b1 : decide (4 < t162.length) = false := decide_eq_false (by omega)
            clear c16
            by_cases c18 : 0 < (t162.length : Int)
            · rw [if_pos c18] at H
              have c18b0 : decide (0 < (t162.length : Int)) = true := decide_eq_true c18
              have c18b1 : decide (0 < t162.length) = true := decide_eq_true (by omega)
              clear c18
              by_cases c19 : (wrap64 ((rd t162 0) - 32)) ≥ (-48)
              · rw [if_pos c19] at H
                have c19b0 : decide ((-48) ≤ (wrap64 ((rd t162 0) - 32))) = true := decide_eq_true c19
                clear c19
                have H' := Aside0.mk H
                clear H
                obtain ⟨Ao20, co20, eo20⟩ := Kd.R_slice HO165.out
                subst eo20
                have p169 : 0 ≤ (0 : Int) := (by omega)
                have q169 : 0 < (t162.length : Int) := of_decide_eq_true (by first | (with_reducible assumption) | assumption)
                obtain ⟨ad169, e169, hx169_0⟩ := Kd.at_int (Kd.R_reads' HO165.out).2.2 0 p169 q169
                cases e169
                have qi169 : (0 < t162.length) = True := eq_true (by omega)
                (try rw [show ((0 : Int)).toNat = 0 from rfl] at hx169_0)
                (try rw [Addr.add_zero'] at hx169_0)
                replace p169 := eq_true p169
                replace q169 := eq_true q169
                go_wp2
                repeat (go_quiet (fail); try go_wp2)
                go_meet
                case rel => exact ⟨_, (true), (by first | rfl | (simp; done) | (simp [*]; done)), H', ⟨by first | omega | exact Nat.le_refl _⟩, ⟨by (with_reducible repeat (first | apply Kd.R_alloc | apply Kd.R_drewN | apply Kd.R_drew)); exact HO165.out⟩, ⟨by repeat (first | (with_reducible first | exact HB.out | apply below_alloc | apply pw_below_drewN | apply below_drew1) | exact HB.out)⟩⟩
              · rw [if_neg c19] at H
                have c19b0 : decide ((-48) ≤ (wrap64 ((rd t162 0) - 32))) = false := decide_eq_false c19
                clear c19
                obtain ⟨ji21, hji21⟩ : ∃ j_ : Int, (wrap64 ((t162.length : Int) - 1)) = j_ := ⟨_, rfl⟩
                replace H : (if 0 ≤ (ji21) then (if (ji21) < (t162.length : Int) then (observatorylaw13_MountMoves.j0 k t160 t161 (Int.tmod (wrap64 (a1)) 32) t162 t166 t167 (decide ((wrap64 ((rd t162 (ji21)) + 32)) ≤ 48))) else (none)) else (none)) = some r := by first | (rw [hji21] at H; exact H) | (simp only [hji21] at H ⊢; exact H)
                have hji21w : (IntKind.i64.wrap ((t162.length : Int) - 1)) = ji21 := (i64_w _).trans hji21
                by_cases c22 : 0 ≤ (ji21)
                · rw [if_pos c22] at H
                  have c22b0 : decide (0 ≤ (ji21)) = true := decide_eq_true c22
                  clear c22
                  by_cases c23 : (ji21) < (t162.length : Int)
                  · rw [if_pos c23] at H
                    have c23b0 : decide ((ji21) < (t162.length : Int)) = true := decide_eq_true c23
                    clear c23
                    have H' := Aside0.mk H
                    clear H
                    obtain ⟨Ao24, co24, eo24⟩ := Kd.R_slice HO165.out
                    subst eo24
                    have p169 : 0 ≤ (0 : Int) := (by omega)
                    have q169 : 0 < (t162.length : Int) := of_decide_eq_true (by first | (with_reducible assumption) | assumption)
                    obtain ⟨ad169, e169, hx169_0⟩ := Kd.at_int (Kd.R_reads' HO165.out).2.2 0 p169 q169
                    cases e169
                    have qi169 : (0 < t162.length) = True := eq_true (by omega)
                    (try rw [show ((0 : Int)).toNat = 0 from rfl] at hx169_0)
                    (try rw [Addr.add_zero'] at hx169_0)
                    replace p169 := eq_true p169
                    replace q169 := eq_true q169
                    have p170 : 0 ≤ ((ji21) : Int) := of_decide_eq_true (by first | (with_reducible assumption) | assumption)
                    have q170 : (ji21) < (t162.length : Int) := of_decide_eq_true (by first | (with_reducible assumption) | assumption)
                    obtain ⟨ad170, e170, hx170_0⟩ := Kd.at_int (Kd.R_reads' HO165.out).2.2 (ji21) p170 q170
                    obtain rfl : ad169 = ad170 := (by injection e170)
                    replace p170 := eq_true p170
                    replace q170 := eq_true q170
                    go_wp2
                    repeat (go_quiet (fail); try go_wp2)
                    go_meet
                    case rel => exact ⟨_, (decide ((wrap64 ((rd t162 (ji21)) + 32)) ≤ 48)), (by first | rfl | (simp; done) | (simp only [← hji21] <;> (first | rfl | simp)) | (simp [*]; done)), H', ⟨by first | omega | exact Nat.le_refl _⟩, ⟨by (with_reducible repeat (first | apply Kd.R_alloc | apply Kd.R_drewN | apply Kd.R_drew)); exact HO165.out⟩, ⟨by repeat (first | (with_reducible first | exact HB.out | apply below_alloc | apply pw_below_drewN | apply below_drew1) | exact HB.out)⟩⟩
                  · rw [if_neg c23] at H
                    exact absurd H (by simp)
                · rw [if_neg c22] at H
                  exact absurd H (by simp)
            · rw [if_neg c18] at H
              exact absurd H (by simp)
      · rw [if_neg c13] at H
        have c13b0 : (t168 == 0) = false := beq_eq_false_iff_ne.mpr c13
        have c13b1 : (t168 != 0) = true := bne_iff_ne.mpr c13
        have H' := Aside0.mk H
        clear H
        go_wp2
        repeat (go_quiet (fail); try go_wp2)
        go_meet
        case rel => exact ⟨_, (true), (by first | rfl | (simp; done) | (simp [*]; done)), H', ⟨by first | omega | exact Nat.le_refl _⟩, ⟨by (with_reducible repeat (first | apply Kd.R_alloc | apply Kd.R_drewN | apply Kd.R_drew)); exact HO165.out⟩, ⟨by repeat (first | (with_reducible first | exact HB.out | apply below_alloc | apply pw_below_drewN | apply below_drew1) | exact HB.out)⟩⟩
    · rw [if_neg c12] at H
      have c12b0 : (t163 == 0) = false := beq_eq_false_iff_ne.mpr c12
      have c12b1 : (t163 != 0) = true := bne_iff_ne.mpr c12
      (first | rw [c12b0] | (simp only [i64_w, i32_w]; rw [c12b0]) | skip)
      have H' := Aside0.mk H
      clear H
      go_wp2
      repeat (go_quiet (fail); try go_wp2)
      go_meet
      case rel => exact ⟨_, (true), (by first | rfl | (simp; done) | (simp [*]; done)), H', ⟨by first | omega | exact Nat.le_refl _⟩, ⟨by (with_reducible repeat (first | apply Kd.R_alloc | apply Kd.R_drewN | apply Kd.R_drew)); exact HO165.out⟩, ⟨by repeat (first | (with_reducible first | exact HB.out | apply below_alloc | apply pw_below_drewN | apply below_drew1) | exact HB.out)⟩⟩
  case rest =>
    clear HC8
    try clear c1
    try clear p1
    try clear q1
    try clear hx1
    try clear qi1
    try clear c2
    try clear p2
    try clear c4
    try clear p6
    try clear c12
    try clear c12b0
    try clear c12b1
    try clear c13
    try clear c13b0
    try clear c13b1
    try clear c14
    try clear c14b0
    try clear c14b1
    try clear c16
    try clear c16b0
    try clear c16b1
    try clear p16
    try clear q16
    try clear hx16
    try clear qi16
    try clear p17
    try clear q17
    try clear hx17
    try clear c18
    try clear c18b0
    try clear c18b1
    try clear c19
    try clear c19b0
    try clear c22
    try clear c22b0
    try clear c23
    try clear c23b0
    try clear hx169_0
    try clear hx170_0
    try clear p169
    try clear p170
    try clear q169
    try clear q170
    obtain ⟨kq, x67_7, rfl, HA, HJ7, HO_10, HB⟩ := hcut
    cases kq with
    | zero => exact absurd HA.out (by simp [observatorylaw13_MountMoves.j0])
    | succ kj7 =>
      have H := HA.out
      clear HA
      simp only [observatorylaw13_MountMoves.j0] at H
      by_cases c25 : x67_7 = true
      · subst c25
        have H1 : (some false) = some r := by rw [if_pos rfl] at H; exact H
        clear H
        have H := H1
        clear H1
        exact absurd ((Option.some.inj H).trans HT_.out) (by decide)
      · replace c25 := Bool.eq_false_iff.mpr c25
        subst c25
        have H1 : (observatorylaw13_MountMoves.l0 kj7 t160 t161 (Int.tmod (wrap64 (a1)) 32) t162 t166 t167 false 0) = some r := by rw [if_neg (show ¬ (false = true) by decide)] at H; exact H
        clear H
        have H := H1
        clear H1
        have H' := Aside0.mk H
        clear H
        go_wp2
        repeat (go_quiet (fail); try go_wp2)
        go_loopg [15, 16] kj7 (fun kq v15 v16 w' => ∃ (x15_2 : Bool) (x16_2 : Int), v15 = .bool x15_2 ∧ v16 = .int .i64 x16_2 ∧ Aside0 (observatorylaw13_MountMoves.l0 kq t160 t161 (Int.tmod (wrap64 (a1)) 32) t162 t166 t167 x15_2 x16_2 = some r) ∧ Aside0 (kq ≤ kj7) ∧ Aside0 (Kd.R (Kd.int .i64) 3 w' w.heap.size (fun _ => True) v164 t162) ∧ Aside0 (Below w.heap.size w w'))
        case atStart => exact ⟨(false), (0), (by first | rfl | (simp; done) | (simp [*]; done)), (by first | rfl | (simp; done) | (simp [*]; done)), H', ⟨Nat.le_refl _⟩, ⟨by (with_reducible repeat (first | apply Kd.R_alloc | apply Kd.R_drewN | apply Kd.R_drew)); exact HO_10.out⟩, ⟨by repeat (first | (with_reducible first | exact HB.out | apply below_alloc | apply pw_below_drewN | apply below_drew1) | exact HB.out)⟩⟩
        case round =>
          clear H'
          try clear c1
          try clear p1
          try clear q1
          try clear hx1
          try clear qi1
          try clear c2
          try clear p2
          try clear c4
          try clear p6
          try clear c12
          try clear c12b0
          try clear c12b1
          try clear c13
          try clear c13b0
          try clear c13b1
          try clear c14
          try clear c14b0
          try clear c14b1
          try clear c16
          try clear c16b0
          try clear c16b1
          try clear p16
          try clear q16
          try clear hx16
          try clear qi16
          try clear p17
          try clear q17
          try clear hx17
          try clear c18
          try clear c18b0
          try clear c18b1
          try clear c19
          try clear c19b0
          try clear c22
          try clear c22b0
          try clear c23
          try clear c23b0
          try clear c25
          try clear hx169_0
          try clear hx170_0
          try clear p1
          try clear p16
          try clear p169
          try clear p17
          try clear p170
          try clear p2
          try clear p6
          try clear q1
          try clear q16
          try clear q169
          try clear q17
          try clear q170
          obtain ⟨x15_2, x16_2, rfl, rfl, HA, HK2, HO_10, HB⟩ := hrel
          cases gk with
          | zero => exact absurd HA.out (by simp [observatorylaw13_MountMoves.l0])
          | succ k2 =>
            have H := HA.out
            clear HA
            simp only [observatorylaw13_MountMoves.l0] at H
            by_cases c26 : x16_2 < (t162.length : Int)
            · rw [if_pos c26] at H
              have c26b0 : decide (x16_2 < (t162.length : Int)) = true := decide_eq_true c26
              clear c26
              have HC27 := Aside0.mk H
              clear H
              obtain ⟨Ao28, co28, eo28⟩ := Kd.R_slice HO_10.out
              subst eo28
              go_upto_region 11 with (fail)
              repeat (go_quiet (fail); go_upto_region 11 with (fail))
              go_cut [112] (fun v112 wc => ∃ (kq : Nat) (x112_26 : Bool), v112 = .bool x112_26 ∧ Aside0 (observatorylaw13_MountMoves.j2 kq t160 t161 (Int.tmod (wrap64 (a1)) 32) t162 t166 t167 x15_2 x16_2 x112_26 = some r) ∧ Aside0 (kq ≤ k2) ∧ Aside0 (Kd.R (Kd.int .i64) 3 wc w.heap.size (fun _ => True) (.slice Ao28 t162.length co28) t162) ∧ Aside0 (Below w.heap.size w wc))
              case first =>
                have H := HC27.out
                clear HC27
                by_cases c29 : 0 ≤ x16_2
                · rw [if_pos c29] at H
                  have c29b0 : decide (0 ≤ x16_2) = true := decide_eq_true c29
                  clear c29
                  (first | rw [c29b0] | (simp only [i64_w, i32_w]; rw [c29b0]) | skip)
                  by_cases c30 : (rd t162 x16_2) < (-48)
                  · rw [if_pos c30] at H
                    have c30b0 : decide ((rd t162 x16_2) < (-48)) = true := decide_eq_true c30
                    clear c30
                    have H' := Aside0.mk H
                    clear H
                    have p173 : 0 ≤ (x16_2 : Int) := of_decide_eq_true (by first | (with_reducible assumption) | assumption)
                    have q173 : x16_2 < (t162.length : Int) := of_decide_eq_true (by first | (with_reducible assumption) | assumption)
                    obtain ⟨ad173, e173, hx173_0⟩ := Kd.at_int (Kd.R_reads' HO_10.out).2.2 x16_2 p173 q173
                    cases e173
                    replace p173 := eq_true p173
                    replace q173 := eq_true q173
                    go_wp2
                    repeat (go_quiet (fail); try go_wp2)
                    go_meet
                    case rel => exact ⟨_, (true), (by first | rfl | (simp; done) | (simp [*]; done)), H', ⟨by have := HJ7.out; have := HK2.out; first | omega | exact Nat.le_refl _⟩, ⟨by (with_reducible repeat (first | apply Kd.R_alloc | apply Kd.R_drewN | apply Kd.R_drew)); exact HO_10.out⟩, ⟨by repeat (first | (with_reducible first | exact HB.out | apply below_alloc | apply pw_below_drewN | apply below_drew1) | exact HB.out)⟩⟩
                  · rw [if_neg c30] at H
                    have c30b0 : decide ((rd t162 x16_2) < (-48)) = false := decide_eq_false c30
                    clear c30
                    by_cases c31 : (rd t162 x16_2) > 48
                    · rw [if_pos c31] at H
                      have c31b0 : decide (48 < (rd t162 x16_2)) = true := decide_eq_true c31
                      clear c31
                      have H' := Aside0.mk H
                      clear H
                      have p173 : 0 ≤ (x16_2 : Int) := of_decide_eq_true (by first | (with_reducible assumption) | assumption)
                      have q173 : x16_2 < (t162.length : Int) := of_decide_eq_true (by first | (with_reducible assumption) | assumption)
                      obtain ⟨ad173, e173, hx173_0⟩ := Kd.at_int (Kd.R_reads' HO_10.out).2.2 x16_2 p173 q173
                      cases e173
                      replace p173 := eq_true p173
                      replace q173 := eq_true q173
                      have p174 : 0 ≤ (x16_2 : Int) := of_decide_eq_true (by first | (with_reducible assumption) | assumption)
                      have q174 : x16_2 < (t162.length : Int) := of_decide_eq_true (by first | (with_reducible assumption) | assumption)
                      obtain ⟨ad174, e174, hx174_0⟩ := Kd.at_int (Kd.R_reads' HO_10.out).2.2 x16_2 p174 q174
                      obtain rfl : ad173 = ad174 := (by injection e174)
                      replace p174 := eq_true p174
                      replace q174 := eq_true q174
                      go_wp2
                      repeat (go_quiet (fail); try go_wp2)
                      go_meet
                      case rel => exact ⟨_, (true), (by first | rfl | (simp; done) | (simp [*]; done)), H', ⟨by have := HJ7.out; have := HK2.out; first | omega | exact Nat.le_refl _⟩, ⟨by (with_reducible repeat (first | apply Kd.R_alloc | apply Kd.R_drewN | apply Kd.R_drew)); exact HO_10.out⟩, ⟨by repeat (first | (with_reducible first | exact HB.out | apply below_alloc | apply pw_below_drewN | apply below_drew1) | exact HB.out)⟩⟩
                    · rw [if_neg c31] at H
                      have c31b0 : decide (48 < (rd t162 x16_2)) = false := decide_eq_false c31
                      clear c31
                      by_cases c32 : (Int.tmod (wrap64 ((rd t162 x16_2) + 64)) 32) = (Int.tmod (wrap64 (a1)) 32)
                      · rw [if_pos c32] at H
                        have c32b0 : ((Int.tmod (wrap64 ((rd t162 x16_2) + 64)) 32) == (Int.tmod (wrap64 (a1)) 32)) = true := beq_iff_eq.mpr c32
                        have c32b1 : ((Int.tmod (wrap64 ((rd t162 x16_2) + 64)) 32) != (Int.tmod (wrap64 (a1)) 32)) = false := bne_eq_false_iff_eq.mpr c32
                        clear c32
                        by_cases c33 : x16_2 > 0
                        · rw [if_pos c33] at H
                          have c33b0 : decide (0 < x16_2) = true := decide_eq_true c33
                          clear c33
                          obtain ⟨ji34, hji34⟩ : ∃ j_ : Int, (wrap64 (x16_2 - 1)) = j_ := ⟨_, rfl⟩
                          replace H : (if 0 ≤ (ji34) then (if (ji34) < (t162.length : Int) then (observatorylaw13_MountMoves.j2 k2 t160 t161 (Int.tmod (wrap64 (a1)) 32) t162 t166 t167 x15_2 x16_2 ((rd t162 x16_2) != (wrap64 ((rd t162 (ji34)) + 32)))) else (none)) else (none)) = some r := by first | (rw [hji34] at H; exact H) | (simp only [hji34] at H ⊢; exact H)
                          have hji34w : (IntKind.i64.wrap (x16_2 - 1)) = ji34 := (i64_w _).trans hji34
                          by_cases c35 : 0 ≤ (ji34)
                          · rw [if_pos c35] at H
                            have c35b0 : decide (0 ≤ (ji34)) = true := decide_eq_true c35
                            clear c35
                            by_cases c36 : (ji34) < (t162.length : Int)
                            · rw [if_pos c36] at H
                              have c36b0 : decide ((ji34) < (t162.length : Int)) = true := decide_eq_true c36
                              clear c36
                              have H' := Aside0.mk H
                              clear H
                              have p173 : 0 ≤ (x16_2 : Int) := of_decide_eq_true (by first | (with_reducible assumption) | assumption)
                              have q173 : x16_2 < (t162.length : Int) := of_decide_eq_true (by first | (with_reducible assumption) | assumption)
                              obtain ⟨ad173, e173, hx173_0⟩ := Kd.at_int (Kd.R_reads' HO_10.out).2.2 x16_2 p173 q173
                              cases e173
                              replace p173 := eq_true p173
                              replace q173 := eq_true q173
                              have p174 : 0 ≤ (x16_2 : Int) := of_decide_eq_true (by first | (with_reducible assumption) | assumption)
                              have q174 : x16_2 < (t162.length : Int) := of_decide_eq_true (by first | (with_reducible assumption) | assumption)
                              obtain ⟨ad174, e174, hx174_0⟩ := Kd.at_int (Kd.R_reads' HO_10.out).2.2 x16_2 p174 q174
                              obtain rfl : ad173 = ad174 := (by injection e174)
                              replace p174 := eq_true p174
                              replace q174 := eq_true q174
                              have p175 : 0 ≤ (x16_2 : Int) := of_decide_eq_true (by first | (with_reducible assumption) | assumption)
                              have q175 : x16_2 < (t162.length : Int) := of_decide_eq_true (by first | (with_reducible assumption) | assumption)
                              obtain ⟨ad175, e175, hx175_0⟩ := Kd.at_int (Kd.R_reads' HO_10.out).2.2 x16_2 p175 q175
                              obtain rfl : ad173 = ad175 := (by injection e175)
                              replace p175 := eq_true p175
                              replace q175 := eq_true q175
                              have p176 : 0 ≤ (x16_2 : Int) := of_decide_eq_true (by first | (with_reducible assumption) | assumption)
                              have q176 : x16_2 < (t162.length : Int) := of_decide_eq_true (by first | (with_reducible assumption) | assumption)
                              obtain ⟨ad176, e176, hx176_0⟩ := Kd.at_int (Kd.R_reads' HO_10.out).2.2 x16_2 p176 q176
                              obtain rfl : ad173 = ad176 := (by injection e176)
                              replace p176 := eq_true p176
                              replace q176 := eq_true q176
                              have p177 : 0 ≤ ((ji34) : Int) := of_decide_eq_true (by first | (with_reducible assumption) | assumption)
                              have q177 : (ji34) < (t162.length : Int) := of_decide_eq_true (by first | (with_reducible assumption) | assumption)
                              obtain ⟨ad177, e177, hx177_0⟩ := Kd.at_int (Kd.R_reads' HO_10.out).2.2 (ji34) p177 q177
                              obtain rfl : ad173 = ad177 := (by injection e177)
                              replace p177 := eq_true p177
                              replace q177 := eq_true q177
                              go_wp2
                              repeat (go_quiet (fail); try go_wp2)
                              go_meet
                              case rel => exact ⟨_, (((rd t162 x16_2) != (wrap64 ((rd t162 (ji34)) + 32)))), (by first | rfl | (simp; done) | (simp only [← hji34] <;> (first | rfl | simp)) | (simp [*]; done)), H', ⟨by have := HJ7.out; have := HK2.out; first | omega | exact Nat.le_refl _⟩, ⟨by (with_reducible repeat (first | apply Kd.R_alloc | apply Kd.R_drewN | apply Kd.R_drew)); exact HO_10.out⟩, ⟨by repeat (first | (with_reducible first | exact HB.out | apply below_alloc | apply pw_below_drewN | apply below_drew1) | exact HB.out)⟩⟩
                            · rw [if_neg c36] at H
                              exact absurd H (by simp)
                          · rw [if_neg c35] at H
                            exact absurd H (by simp)
                        · rw [if_neg c33] at H
                          have c33b0 : decide (0 < x16_2) = false := decide_eq_false c33
                          clear c33
                          have H' := Aside0.mk H
                          clear H
                          have p173 : 0 ≤ (x16_2 : Int) := of_decide_eq_true (by first | (with_reducible assumption) | assumption)
                          have q173 : x16_2 < (t162.length : Int) := of_decide_eq_true (by first | (with_reducible assumption) | assumption)
                          obtain ⟨ad173, e173, hx173_0⟩ := Kd.at_int (Kd.R_reads' HO_10.out).2.2 x16_2 p173 q173
                          cases e173
                          replace p173 := eq_true p173
                          replace q173 := eq_true q173
                          have p174 : 0 ≤ (x16_2 : Int) := of_decide_eq_true (by first | (with_reducible assumption) | assumption)
                          have q174 : x16_2 < (t162.length : Int) := of_decide_eq_true (by first | (with_reducible assumption) | assumption)
                          obtain ⟨ad174, e174, hx174_0⟩ := Kd.at_int (Kd.R_reads' HO_10.out).2.2 x16_2 p174 q174
                          obtain rfl : ad173 = ad174 := (by injection e174)
                          replace p174 := eq_true p174
                          replace q174 := eq_true q174
                          have p175 : 0 ≤ (x16_2 : Int) := of_decide_eq_true (by first | (with_reducible assumption) | assumption)
                          have q175 : x16_2 < (t162.length : Int) := of_decide_eq_true (by first | (with_reducible assumption) | assumption)
                          obtain ⟨ad175, e175, hx175_0⟩ := Kd.at_int (Kd.R_reads' HO_10.out).2.2 x16_2 p175 q175
                          obtain rfl : ad173 = ad175 := (by injection e175)
                          replace p175 := eq_true p175
                          replace q175 := eq_true q175
                          go_wp2
                          repeat (go_quiet (fail); try go_wp2)
                          go_meet
                          case rel => exact ⟨_, (false), (by first | rfl | (simp; done) | (simp [*]; done)), H', ⟨by have := HJ7.out; have := HK2.out; first | omega | exact Nat.le_refl _⟩, ⟨by (with_reducible repeat (first | apply Kd.R_alloc | apply Kd.R_drewN | apply Kd.R_drew)); exact HO_10.out⟩, ⟨by repeat (first | (with_reducible first | exact HB.out | apply below_alloc | apply pw_below_drewN | apply below_drew1) | exact HB.out)⟩⟩
                      · rw [if_neg c32] at H
                        have c32b0 : ((Int.tmod (wrap64 ((rd t162 x16_2) + 64)) 32) == (Int.tmod (wrap64 (a1)) 32)) = false := beq_eq_false_iff_ne.mpr c32
                        have c32b1 : ((Int.tmod (wrap64 ((rd t162 x16_2) + 64)) 32) != (Int.tmod (wrap64 (a1)) 32)) = true := bne_iff_ne.mpr c32
                        have H' := Aside0.mk H
                        clear H
                        have p173 : 0 ≤ (x16_2 : Int) := of_decide_eq_true (by first | (with_reducible assumption) | assumption)
                        have q173 : x16_2 < (t162.length : Int) := of_decide_eq_true (by first | (with_reducible assumption) | assumption)
                        obtain ⟨ad173, e173, hx173_0⟩ := Kd.at_int (Kd.R_reads' HO_10.out).2.2 x16_2 p173 q173
                        cases e173
                        replace p173 := eq_true p173
                        replace q173 := eq_true q173
                        have p174 : 0 ≤ (x16_2 : Int) := of_decide_eq_true (by first | (with_reducible assumption) | assumption)
                        have q174 : x16_2 < (t162.length : Int) := of_decide_eq_true (by first | (with_reducible assumption) | assumption)
                        obtain ⟨ad174, e174, hx174_0⟩ := Kd.at_int (Kd.R_reads' HO_10.out).2.2 x16_2 p174 q174
                        obtain rfl : ad173 = ad174 := (by injection e174)
                        replace p174 := eq_true p174
                        replace q174 := eq_true q174
                        have p175 : 0 ≤ (x16_2 : Int) := of_decide_eq_true (by first | (with_reducible assumption) | assumption)
                        have q175 : x16_2 < (t162.length : Int) := of_decide_eq_true (by first | (with_reducible assumption) | assumption)
                        obtain ⟨ad175, e175, hx175_0⟩ := Kd.at_int (Kd.R_reads' HO_10.out).2.2 x16_2 p175 q175
                        obtain rfl : ad173 = ad175 := (by injection e175)
                        replace p175 := eq_true p175
                        replace q175 := eq_true q175
                        go_wp2
                        repeat (go_quiet (fail); try go_wp2)
                        go_meet
                        case rel => exact ⟨_, (true), (by first | rfl | (simp; done) | (simp [*]; done)), H', ⟨by have := HJ7.out; have := HK2.out; first | omega | exact Nat.le_refl _⟩, ⟨by (with_reducible repeat (first | apply Kd.R_alloc | apply Kd.R_drewN | apply Kd.R_drew)); exact HO_10.out⟩, ⟨by repeat (first | (with_reducible first | exact HB.out | apply below_alloc | apply pw_below_drewN | apply below_drew1) | exact HB.out)⟩⟩
                · rw [if_neg c29] at H
                  exact absurd H (by simp)
              case rest =>
                clear HC27
                try clear c1
                try clear p1
                try clear q1
                try clear hx1
                try clear qi1
                try clear c2
                try clear p2
                try clear c3
                try clear c4
                try clear p6
                try clear c12
                try clear c12b0
                try clear c12b1
                try clear c13
                try clear c13b0
                try clear c13b1
                try clear c14
                try clear c14b0
                try clear c14b1
                try clear c16
                try clear c16b0
                try clear c16b1
                try clear p16
                try clear q16
                try clear hx16
                try clear qi16
                try clear p17
                try clear q17
                try clear hx17
                try clear c18
                try clear c18b0
                try clear c18b1
                try clear c19
                try clear c19b0
                try clear c22
                try clear c22b0
                try clear c23
                try clear c23b0
                try clear c25
                try clear c26
                try clear c26b0
                try clear c29
                try clear c29b0
                try clear c30
                try clear c30b0
                try clear c31
                try clear c31b0
                try clear c32
                try clear c32b0
                try clear c32b1
                try clear c33
                try clear c33b0
                try clear c35
                try clear c35b0
                try clear c36
                try clear c36b0
                try clear hx169_0
                try clear hx170_0
                try clear hx173_0
                try clear hx174_0
                try clear hx175_0
                try clear hx176_0
                try clear hx177_0
                try clear p1
                try clear p16
                try clear p169
                try clear p17
                try clear p170
                try clear p173
                try clear p174
                try clear p175
                try clear p176
                try clear p177
                try clear p2
                try clear p6
                try clear q1
                try clear q16
                try clear q169
                try clear q17
                try clear q170
                try clear q173
                try clear q174
                try clear q175
                try clear q176
                try clear q177
                obtain ⟨kq, x112_26, rfl, HA, HJ26, HO_10, HB⟩ := hcut
                cases kq with
                | zero => exact absurd HA.out (by simp [observatorylaw13_MountMoves.j2])
                | succ kj26 =>
                  have H := HA.out
                  clear HA
                  simp only [observatorylaw13_MountMoves.j2] at H
                  by_cases c37 : x112_26 = true
                  · subst c37
                    have H1 : (some false) = some r := by rw [if_pos rfl] at H; exact H
                    clear H
                    have H := H1
                    clear H1
                    exact absurd ((Option.some.inj H).trans HT_.out) (by decide)
                  · replace c37 := Bool.eq_false_iff.mpr c37
                    subst c37
                    have H1 : (if x15_2 = true then (observatorylaw13_MountMoves.j3 kj26 t160 t161 (Int.tmod (wrap64 (a1)) 32) t162 t166 t167 true x16_2) else (if 0 ≤ x16_2 then (if x16_2 < (t162.length : Int) then (observatorylaw13_MountMoves.j3 kj26 t160 t161 (Int.tmod (wrap64 (a1)) 32) t162 t166 t167 ((rd t162 x16_2) == t166) x16_2) else (none)) else (none))) = some r := by rw [if_neg (show ¬ (false = true) by decide)] at H; exact H
                    clear H
                    have H := H1
                    clear H1
                    have HC38 := Aside0.mk H
                    clear H
                    go_upto_region 13 with (fail)
                    repeat (go_quiet (fail); go_upto_region 13 with (fail))
                    go_cut [15] (fun v15 wc => ∃ (kq : Nat) (x15_37 : Bool), v15 = .bool x15_37 ∧ Aside0 (observatorylaw13_MountMoves.j3 kq t160 t161 (Int.tmod (wrap64 (a1)) 32) t162 t166 t167 x15_37 x16_2 = some r) ∧ Aside0 (kq ≤ kj26) ∧ Aside0 (Kd.R (Kd.int .i64) 3 wc w.heap.size (fun _ => True) (.slice Ao28 t162.length co28) t162) ∧ Aside0 (Below w.heap.size w wc))
                    case first =>
                      have H := HC38.out
                      clear HC38
                      by_cases c39 : x15_2 = true
                      · subst c39
                        have H1 : (observatorylaw13_MountMoves.j3 kj26 t160 t161 (Int.tmod (wrap64 (a1)) 32) t162 t166 t167 true x16_2) = some r := by rw [if_pos rfl] at H; exact H
                        clear H
                        have H := H1
                        clear H1
                        have H' := Aside0.mk H
                        clear H
                        go_wp2
                        repeat (go_quiet (fail); try go_wp2)
                        go_meet
                        case rel => exact ⟨_, (true), (by first | rfl | (simp; done) | (simp [*]; done)), H', ⟨by have := HJ7.out; have := HK2.out; have := HJ26.out; first | omega | exact Nat.le_refl _⟩, ⟨by (with_reducible repeat (first | apply Kd.R_alloc | apply Kd.R_drewN | apply Kd.R_drew)); exact HO_10.out⟩, ⟨by repeat (first | (with_reducible first | exact HB.out | apply below_alloc | apply pw_below_drewN | apply below_drew1) | exact HB.out)⟩⟩
                      · replace c39 := Bool.eq_false_iff.mpr c39
                        subst c39
                        have H1 : (if 0 ≤ x16_2 then (if x16_2 < (t162.length : Int) then (observatorylaw13_MountMoves.j3 kj26 t160 t161 (Int.tmod (wrap64 (a1)) 32) t162 t166 t167 ((rd t162 x16_2) == t166) x16_2) else (none)) else (none)) = some r := by rw [if_neg (show ¬ (false = true) by decide)] at H; exact H
                        clear H
                        have H := H1
                        clear H1
                        by_cases c40 : 0 ≤ x16_2
                        · rw [if_pos c40] at H
                          have c40b0 : decide (0 ≤ x16_2) = true := decide_eq_true c40
                          clear c40
                          (first | rw [c40b0] | (simp only [i64_w, i32_w]; rw [c40b0]) | skip)
                          by_cases c41 : x16_2 < (t162.length : Int)
                          · rw [if_pos c41] at H
                            have c41b0 : decide (x16_2 < (t162.length : Int)) = true := decide_eq_true c41
                            clear c41
                            have H' := Aside0.mk H
                            clear H
                            have p178 : 0 ≤ (x16_2 : Int) := of_decide_eq_true (by first | (with_reducible assumption) | assumption)
                            have q178 : x16_2 < (t162.length : Int) := of_decide_eq_true (by first | (with_reducible assumption) | assumption)
                            obtain ⟨ad178, e178, hx178_0⟩ := Kd.at_int (Kd.R_reads' HO_10.out).2.2 x16_2 p178 q178
                            cases e178
                            replace p178 := eq_true p178
                            replace q178 := eq_true q178
                            go_wp2
                            repeat (go_quiet (fail); try go_wp2)
                            go_meet
                            case rel => exact ⟨_, (((rd t162 x16_2) == t166)), (by first | rfl | (simp; done) | (simp [*]; done)), H', ⟨by have := HJ7.out; have := HK2.out; have := HJ26.out; first | omega | exact Nat.le_refl _⟩, ⟨by (with_reducible repeat (first | apply Kd.R_alloc | apply Kd.R_drewN | apply Kd.R_drew)); exact HO_10.out⟩, ⟨by repeat (first | (with_reducible first | exact HB.out | apply below_alloc | apply pw_below_drewN | apply below_drew1) | exact HB.out)⟩⟩
                          · rw [if_neg c41] at H
                            exact absurd H (by simp)
                        · rw [if_neg c40] at H
                          exact absurd H (by simp)
                    case rest =>
                      clear HC38
                      try clear c1
                      try clear p1
                      try clear q1
                      try clear hx1
                      try clear qi1
                      try clear c2
                      try clear p2
                      try clear c3
                      try clear c4
                      try clear p6
                      try clear c12
                      try clear c12b0
                      try clear c12b1
                      try clear c13
                      try clear c13b0
                      try clear c13b1
                      try clear c14
                      try clear c14b0
                      try clear c14b1
                      try clear c16
                      try clear c16b0
                      try clear c16b1
                      try clear p16
                      try clear q16
                      try clear hx16
                      try clear qi16
                      try clear p17
                      try clear q17
                      try clear hx17
                      try clear c18
                      try clear c18b0
                      try clear c18b1
                      try clear c19
                      try clear c19b0
                      try clear c22
                      try clear c22b0
                      try clear c23
                      try clear c23b0
                      try clear c25
                      try clear c26
                      try clear c26b0
                      try clear c29
                      try clear c29b0
                      try clear c30
                      try clear c30b0
                      try clear c31
                      try clear c31b0
                      try clear c32
                      try clear c32b0
                      try clear c32b1
                      try clear c33
                      try clear c33b0
                      try clear c35
                      try clear c35b0
                      try clear c36
                      try clear c36b0
                      try clear c37
                      try clear c39
                      try clear c40
                      try clear c40b0
                      try clear c41
                      try clear c41b0
                      try clear hx169_0
                      try clear hx170_0
                      try clear hx173_0
                      try clear hx174_0
                      try clear hx175_0
                      try clear hx176_0
                      try clear hx177_0
                      try clear hx178_0
                      try clear p1
                      try clear p16
                      try clear p169
                      try clear p17
                      try clear p170
                      try clear p173
                      try clear p174
                      try clear p175
                      try clear p176
                      try clear p177
                      try clear p178
                      try clear p2
                      try clear p6
                      try clear q1
                      try clear q16
                      try clear q169
                      try clear q17
                      try clear q170
                      try clear q173
                      try clear q174
                      try clear q175
                      try clear q176
                      try clear q177
                      try clear q178
                      obtain ⟨kq, x15_37, rfl, HA, HJ37, HO_10, HB⟩ := hcut
                      cases kq with
                      | zero => exact absurd HA.out (by simp [observatorylaw13_MountMoves.j3])
                      | succ kj37 =>
                        have H := HA.out
                        clear HA
                        simp only [observatorylaw13_MountMoves.j3] at H
                        by_cases c42 : 0 ≤ x16_2
                        · rw [if_pos c42] at H
                          have c42b0 : decide (0 ≤ x16_2) = true := decide_eq_true c42
                          clear c42
                          by_cases c43 : x16_2 < (t162.length : Int)
                          · rw [if_pos c43] at H
                            have c43b0 : decide (x16_2 < (t162.length : Int)) = true := decide_eq_true c43
                            clear c43
                            replace H := Option.bind_eq_some_iff.mp H
                            obtain ⟨t180, A440, H⟩ := H
                            replace H : (if t180 < t167 then (some false) else ((observatorylaw13_dist.f t161 (rd t162 x16_2)).bind fun t182 => (if t182 = t167 then (if (rd t162 x16_2) < t166 then (some false) else (observatorylaw13_MountMoves.l0 kj37 t160 t161 (Int.tmod (wrap64 (a1)) 32) t162 t166 t167 x15_37 (wrap64 (x16_2 + 1)))) else (observatorylaw13_MountMoves.l0 kj37 t160 t161 (Int.tmod (wrap64 (a1)) 32) t162 t166 t167 x15_37 (wrap64 (x16_2 + 1)))))) = some r := H
                            have A44 := Aside0.mk A440
                            clear A440
                            by_cases c45 : t180 < t167
                            · rw [if_pos c45] at H
                              have c45b0 : decide (t180 < t167) = true := decide_eq_true c45
                              clear c45
                              exact absurd ((Option.some.inj H).trans HT_.out) (by decide)
                            · rw [if_neg c45] at H
                              have c45b0 : decide (t180 < t167) = false := decide_eq_false c45
                              clear c45
                              replace H := Option.bind_eq_some_iff.mp H
                              obtain ⟨t182, A460, H⟩ := H
                              replace H : (if t182 = t167 then (if (rd t162 x16_2) < t166 then (some false) else (observatorylaw13_MountMoves.l0 kj37 t160 t161 (Int.tmod (wrap64 (a1)) 32) t162 t166 t167 x15_37 (wrap64 (x16_2 + 1)))) else (observatorylaw13_MountMoves.l0 kj37 t160 t161 (Int.tmod (wrap64 (a1)) 32) t162 t166 t167 x15_37 (wrap64 (x16_2 + 1)))) = some r := H
                              have A46 := Aside0.mk A460
                              clear A460
                              have he46 := Aside0.mk (show t180 = t182 from Option.some.inj (A44.out.symm.trans A46.out))
                              by_cases c47 : t182 = t167
                              · rw [if_pos c47] at H
                                have c47b0 : (t182 == t167) = true := beq_iff_eq.mpr c47
                                have c47b2 : (t180 == t167) = true := by rw [he46.out]; exact c47b0
                                have c47b1 : (t182 != t167) = false := bne_eq_false_iff_eq.mpr c47
                                clear c47
                                by_cases c48 : (rd t162 x16_2) < t166
                                · rw [if_pos c48] at H
                                  have c48b0 : decide ((rd t162 x16_2) < t166) = true := decide_eq_true c48
                                  clear c48
                                  exact absurd ((Option.some.inj H).trans HT_.out) (by decide)
                                · rw [if_neg c48] at H
                                  have c48b0 : decide ((rd t162 x16_2) < t166) = false := decide_eq_false c48
                                  clear c48
                                  have H' := Aside0.mk H
                                  clear H
                                  have p179 : 0 ≤ (x16_2 : Int) := of_decide_eq_true (by first | (with_reducible assumption) | assumption)
                                  have q179 : x16_2 < (t162.length : Int) := of_decide_eq_true (by first | (with_reducible assumption) | assumption)
                                  obtain ⟨ad179, e179, hx179_0⟩ := Kd.at_int (Kd.R_reads' HO_10.out).2.2 x16_2 p179 q179
                                  cases e179
                                  replace p179 := eq_true p179
                                  replace q179 := eq_true q179
                                  go_wp2_with (first | (go_at_call 17; (with_reducible refine (observatorylaw13_dist.calls t161 (rd t162 x16_2) t180 _ A44.out).mono ?_); rintro e w49 ⟨rfl, hb⟩; have n0_ := Aside0.mk (Kd.R_below (by (with_reducible repeat (first | apply Kd.R_alloc | apply Kd.R_drewN | apply Kd.R_drew)); exact HO_10.out) hb); have n1_ := Aside0.mk (below_step (by repeat (first | (with_reducible first | exact HB.out | apply below_alloc | apply pw_below_drewN | apply below_drew1) | exact HB.out)) hb); clear HO_10; clear HB; have HO_10 := n0_; have HB := n1_; clear n0_ n1_; (try clear hb); (try clear hb2); (try clear hk); (try clear hi); have p181 : 0 ≤ (x16_2 : Int) := of_decide_eq_true (by first | (with_reducible assumption) | assumption); have q181 : x16_2 < (t162.length : Int) := of_decide_eq_true (by first | (with_reducible assumption) | assumption); obtain ⟨ad181, e181, hx181_0⟩ := Kd.at_int (Kd.R_reads' HO_10.out).2.2 x16_2 p181 q181; obtain rfl : ad179 = ad181 := (by injection e181); replace p181 := eq_true p181; replace q181 := eq_true q181) | (go_at_call 17; (with_reducible refine (observatorylaw13_dist.calls t161 (rd t162 x16_2) t182 _ A46.out).mono ?_); rintro e w50 ⟨rfl, hb⟩; have n0_ := Aside0.mk (Kd.R_below (by (with_reducible repeat (first | apply Kd.R_alloc | apply Kd.R_drewN | apply Kd.R_drew)); exact HO_10.out) hb); have n1_ := Aside0.mk (below_step (by repeat (first | (with_reducible first | exact HB.out | apply below_alloc | apply pw_below_drewN | apply below_drew1) | exact HB.out)) hb); clear HO_10; clear HB; have HO_10 := n0_; have HB := n1_; clear n0_ n1_; (try clear hb); (try clear hb2); (try clear hk); (try clear hi); have p183 : 0 ≤ (x16_2 : Int) := of_decide_eq_true (by first | (with_reducible assumption) | assumption); have q183 : x16_2 < (t162.length : Int) := of_decide_eq_true (by first | (with_reducible assumption) | assumption); obtain ⟨ad183, e183, hx183_0⟩ := Kd.at_int (Kd.R_reads' HO_10.out).2.2 x16_2 p183 q183; obtain rfl : ad179 = ad183 := (by injection e183); replace p183 := eq_true p183; replace q183 := eq_true q183))
                                  repeat (go_quiet (first | (go_at_call 17; (with_reducible refine (observatorylaw13_dist.calls t161 (rd t162 x16_2) t180 _ A44.out).mono ?_); rintro e w49 ⟨rfl, hb⟩; have n0_ := Aside0.mk (Kd.R_below (by (with_reducible repeat (first | apply Kd.R_alloc | apply Kd.R_drewN | apply Kd.R_drew)); exact HO_10.out) hb); have n1_ := Aside0.mk (below_step (by repeat (first | (with_reducible first | exact HB.out | apply below_alloc | apply pw_below_drewN | apply below_drew1) | exact HB.out)) hb); clear HO_10; clear HB; have HO_10 := n0_; have HB := n1_; clear n0_ n1_; (try clear hb); (try clear hb2); (try clear hk); (try clear hi); have p181 : 0 ≤ (x16_2 : Int) := of_decide_eq_true (by first | (with_reducible assumption) | assumption); have q181 : x16_2 < (t162.length : Int) := of_decide_eq_true (by first | (with_reducible assumption) | assumption); obtain ⟨ad181, e181, hx181_0⟩ := Kd.at_int (Kd.R_reads' HO_10.out).2.2 x16_2 p181 q181; obtain rfl : ad179 = ad181 := (by injection e181); replace p181 := eq_true p181; replace q181 := eq_true q181) | (go_at_call 17; (with_reducible refine (observatorylaw13_dist.calls t161 (rd t162 x16_2) t182 _ A46.out).mono ?_); rintro e w50 ⟨rfl, hb⟩; have n0_ := Aside0.mk (Kd.R_below (by (with_reducible repeat (first | apply Kd.R_alloc | apply Kd.R_drewN | apply Kd.R_drew)); exact HO_10.out) hb); have n1_ := Aside0.mk (below_step (by repeat (first | (with_reducible first | exact HB.out | apply below_alloc | apply pw_below_drewN | apply below_drew1) | exact HB.out)) hb); clear HO_10; clear HB; have HO_10 := n0_; have HB := n1_; clear n0_ n1_; (try clear hb); (try clear hb2); (try clear hk); (try clear hi); have p183 : 0 ≤ (x16_2 : Int) := of_decide_eq_true (by first | (with_reducible assumption) | assumption); have q183 : x16_2 < (t162.length : Int) := of_decide_eq_true (by first | (with_reducible assumption) | assumption); obtain ⟨ad183, e183, hx183_0⟩ := Kd.at_int (Kd.R_reads' HO_10.out).2.2 x16_2 p183 q183; obtain rfl : ad179 = ad183 := (by injection e183); replace p183 := eq_true p183; replace q183 := eq_true q183)); try go_wp2_with (first | (go_at_call 17; (with_reducible refine (observatorylaw13_dist.calls t161 (rd t162 x16_2) t180 _ A44.out).mono ?_); rintro e w49 ⟨rfl, hb⟩; have n0_ := Aside0.mk (Kd.R_below (by (with_reducible repeat (first | apply Kd.R_alloc | apply Kd.R_drewN | apply Kd.R_drew)); exact HO_10.out) hb); have n1_ := Aside0.mk (below_step (by repeat (first | (with_reducible first | exact HB.out | apply below_alloc | apply pw_below_drewN | apply below_drew1) | exact HB.out)) hb); clear HO_10; clear HB; have HO_10 := n0_; have HB := n1_; clear n0_ n1_; (try clear hb); (try clear hb2); (try clear hk); (try clear hi); have p181 : 0 ≤ (x16_2 : Int) := of_decide_eq_true (by first | (with_reducible assumption) | assumption); have q181 : x16_2 < (t162.length : Int) := of_decide_eq_true (by first | (with_reducible assumption) | assumption); obtain ⟨ad181, e181, hx181_0⟩ := Kd.at_int (Kd.R_reads' HO_10.out).2.2 x16_2 p181 q181; obtain rfl : ad179 = ad181 := (by injection e181); replace p181 := eq_true p181; replace q181 := eq_true q181) | (go_at_call 17; (with_reducible refine (observatorylaw13_dist.calls t161 (rd t162 x16_2) t182 _ A46.out).mono ?_); rintro e w50 ⟨rfl, hb⟩; have n0_ := Aside0.mk (Kd.R_below (by (with_reducible repeat (first | apply Kd.R_alloc | apply Kd.R_drewN | apply Kd.R_drew)); exact HO_10.out) hb); have n1_ := Aside0.mk (below_step (by repeat (first | (with_reducible first | exact HB.out | apply below_alloc | apply pw_below_drewN | apply below_drew1) | exact HB.out)) hb); clear HO_10; clear HB; have HO_10 := n0_; have HB := n1_; clear n0_ n1_; (try clear hb); (try clear hb2); (try clear hk); (try clear hi); have p183 : 0 ≤ (x16_2 : Int) := of_decide_eq_true (by first | (with_reducible assumption) | assumption); have q183 : x16_2 < (t162.length : Int) := of_decide_eq_true (by first | (with_reducible assumption) | assumption); obtain ⟨ad183, e183, hx183_0⟩ := Kd.at_int (Kd.R_reads' HO_10.out).2.2 x16_2 p183 q183; obtain rfl : ad179 = ad183 := (by injection e183); replace p183 := eq_true p183; replace q183 := eq_true q183)))
                                  go_roundg kj37
                                  case measure => have := HJ7.out; have := HK2.out; have := HJ26.out; have := HJ37.out; omega
                                  case rel => exact ⟨(x15_37), (wrap64 (x16_2 + 1)), (by first | rfl | (simp; done) | (simp [*]; done)), (by first | rfl | (simp; done) | (simp [*]; done)), H', ⟨by have := HJ7.out; have := HK2.out; have := HJ26.out; have := HJ37.out; omega⟩, ⟨by (with_reducible repeat (first | apply Kd.R_alloc | apply Kd.R_drewN | apply Kd.R_drew)); exact HO_10.out⟩, ⟨by repeat (first | (with_reducible first | exact HB.out | apply below_alloc | apply pw_below_drewN | apply below_drew1) | exact HB.out)⟩⟩
                              · rw [if_neg c47] at H
                                have c47b0 : (t182 == t167) = false := beq_eq_false_iff_ne.mpr c47
                                have c47b2 : (t180 == t167) = false := by rw [he46.out]; exact c47b0
                                have c47b1 : (t182 != t167) = true := bne_iff_ne.mpr c47
                                have H' := Aside0.mk H
                                clear H
                                have p179 : 0 ≤ (x16_2 : Int) := of_decide_eq_true (by first | (with_reducible assumption) | assumption)
                                have q179 : x16_2 < (t162.length : Int) := of_decide_eq_true (by first | (with_reducible assumption) | assumption)
                                obtain ⟨ad179, e179, hx179_0⟩ := Kd.at_int (Kd.R_reads' HO_10.out).2.2 x16_2 p179 q179
                                cases e179
                                replace p179 := eq_true p179
                                replace q179 := eq_true q179
                                go_wp2_with (first | (go_at_call 17; (with_reducible refine (observatorylaw13_dist.calls t161 (rd t162 x16_2) t180 _ A44.out).mono ?_); rintro e w51 ⟨rfl, hb⟩; have n0_ := Aside0.mk (Kd.R_below (by (with_reducible repeat (first | apply Kd.R_alloc | apply Kd.R_drewN | apply Kd.R_drew)); exact HO_10.out) hb); have n1_ := Aside0.mk (below_step (by repeat (first | (with_reducible first | exact HB.out | apply below_alloc | apply pw_below_drewN | apply below_drew1) | exact HB.out)) hb); clear HO_10; clear HB; have HO_10 := n0_; have HB := n1_; clear n0_ n1_; (try clear hb); (try clear hb2); (try clear hk); (try clear hi); have p181 : 0 ≤ (x16_2 : Int) := of_decide_eq_true (by first | (with_reducible assumption) | assumption); have q181 : x16_2 < (t162.length : Int) := of_decide_eq_true (by first | (with_reducible assumption) | assumption); obtain ⟨ad181, e181, hx181_0⟩ := Kd.at_int (Kd.R_reads' HO_10.out).2.2 x16_2 p181 q181; obtain rfl : ad179 = ad181 := (by injection e181); replace p181 := eq_true p181; replace q181 := eq_true q181) | (go_at_call 17; (with_reducible refine (observatorylaw13_dist.calls t161 (rd t162 x16_2) t182 _ A46.out).mono ?_); rintro e w52 ⟨rfl, hb⟩; have n0_ := Aside0.mk (Kd.R_below (by (with_reducible repeat (first | apply Kd.R_alloc | apply Kd.R_drewN | apply Kd.R_drew)); exact HO_10.out) hb); have n1_ := Aside0.mk (below_step (by repeat (first | (with_reducible first | exact HB.out | apply below_alloc | apply pw_below_drewN | apply below_drew1) | exact HB.out)) hb); clear HO_10; clear HB; have HO_10 := n0_; have HB := n1_; clear n0_ n1_; (try clear hb); (try clear hb2); (try clear hk); (try clear hi)))
                                repeat (go_quiet (first | (go_at_call 17; (with_reducible refine (observatorylaw13_dist.calls t161 (rd t162 x16_2) t180 _ A44.out).mono ?_); rintro e w51 ⟨rfl, hb⟩; have n0_ := Aside0.mk (Kd.R_below (by (with_reducible repeat (first | apply Kd.R_alloc | apply Kd.R_drewN | apply Kd.R_drew)); exact HO_10.out) hb); have n1_ := Aside0.mk (below_step (by repeat (first | (with_reducible first | exact HB.out | apply below_alloc | apply pw_below_drewN | apply below_drew1) | exact HB.out)) hb); clear HO_10; clear HB; have HO_10 := n0_; have HB := n1_; clear n0_ n1_; (try clear hb); (try clear hb2); (try clear hk); (try clear hi); have p181 : 0 ≤ (x16_2 : Int) := of_decide_eq_true (by first | (with_reducible assumption) | assumption); have q181 : x16_2 < (t162.length : Int) := of_decide_eq_true (by first | (with_reducible assumption) | assumption); obtain ⟨ad181, e181, hx181_0⟩ := Kd.at_int (Kd.R_reads' HO_10.out).2.2 x16_2 p181 q181; obtain rfl : ad179 = ad181 := (by injection e181); replace p181 := eq_true p181; replace q181 := eq_true q181) | (go_at_call 17; (with_reducible refine (observatorylaw13_dist.calls t161 (rd t162 x16_2) t182 _ A46.out).mono ?_); rintro e w52 ⟨rfl, hb⟩; have n0_ := Aside0.mk (Kd.R_below (by (with_reducible repeat (first | apply Kd.R_alloc | apply Kd.R_drewN | apply Kd.R_drew)); exact HO_10.out) hb); have n1_ := Aside0.mk (below_step (by repeat (first | (with_reducible first | exact HB.out | apply below_alloc | apply pw_below_drewN | apply below_drew1) | exact HB.out)) hb); clear HO_10; clear HB; have HO_10 := n0_; have HB := n1_; clear n0_ n1_; (try clear hb); (try clear hb2); (try clear hk); (try clear hi))); try go_wp2_with (first | (go_at_call 17; (with_reducible refine (observatorylaw13_dist.calls t161 (rd t162 x16_2) t180 _ A44.out).mono ?_); rintro e w51 ⟨rfl, hb⟩; have n0_ := Aside0.mk (Kd.R_below (by (with_reducible repeat (first | apply Kd.R_alloc | apply Kd.R_drewN | apply Kd.R_drew)); exact HO_10.out) hb); have n1_ := Aside0.mk (below_step (by repeat (first | (with_reducible first | exact HB.out | apply below_alloc | apply pw_below_drewN | apply below_drew1) | exact HB.out)) hb); clear HO_10; clear HB; have HO_10 := n0_; have HB := n1_; clear n0_ n1_; (try clear hb); (try clear hb2); (try clear hk); (try clear hi); have p181 : 0 ≤ (x16_2 : Int) := of_decide_eq_true (by first | (with_reducible assumption) | assumption); have q181 : x16_2 < (t162.length : Int) := of_decide_eq_true (by first | (with_reducible assumption) | assumption); obtain ⟨ad181, e181, hx181_0⟩ := Kd.at_int (Kd.R_reads' HO_10.out).2.2 x16_2 p181 q181; obtain rfl : ad179 = ad181 := (by injection e181); replace p181 := eq_true p181; replace q181 := eq_true q181) | (go_at_call 17; (with_reducible refine (observatorylaw13_dist.calls t161 (rd t162 x16_2) t182 _ A46.out).mono ?_); rintro e w52 ⟨rfl, hb⟩; have n0_ := Aside0.mk (Kd.R_below (by (with_reducible repeat (first | apply Kd.R_alloc | apply Kd.R_drewN | apply Kd.R_drew)); exact HO_10.out) hb); have n1_ := Aside0.mk (below_step (by repeat (first | (with_reducible first | exact HB.out | apply below_alloc | apply pw_below_drewN | apply below_drew1) | exact HB.out)) hb); clear HO_10; clear HB; have HO_10 := n0_; have HB := n1_; clear n0_ n1_; (try clear hb); (try clear hb2); (try clear hk); (try clear hi))))
                                go_roundg kj37
                                case measure => have := HJ7.out; have := HK2.out; have := HJ26.out; have := HJ37.out; omega
                                case rel => exact ⟨(x15_37), (wrap64 (x16_2 + 1)), (by first | rfl | (simp; done) | (simp [*]; done)), (by first | rfl | (simp; done) | (simp [*]; done)), H', ⟨by have := HJ7.out; have := HK2.out; have := HJ26.out; have := HJ37.out; omega⟩, ⟨by (with_reducible repeat (first | apply Kd.R_alloc | apply Kd.R_drewN | apply Kd.R_drew)); exact HO_10.out⟩, ⟨by repeat (first | (with_reducible first | exact HB.out | apply below_alloc | apply pw_below_drewN | apply below_drew1) | exact HB.out)⟩⟩
                          · rw [if_neg c43] at H
                            exact absurd H (by simp)
                        · rw [if_neg c42] at H
                          exact absurd H (by simp)
            · rw [if_neg c26] at H
              have c26b0 : decide (x16_2 < (t162.length : Int)) = false := decide_eq_false c26
              clear c26
              by_cases c53 : t160 = true
              · subst c53
                have H1 : (if x15_2 = true then ((observatorylaw13_dist.f t161 t166).bind fun t171 => (if t167 = t171 then (if t167 < 32 then ((observatorylaw13_around.f t161 (Int.tmod (wrap64 (a1)) 32)).bind fun t172 => (some (decide (t167 ≥ t172)))) else (some false)) else (some false))) else (some false)) = some r := by rw [if_pos rfl] at H; exact H
                clear H
                have H := H1
                clear H1
                by_cases c54 : x15_2 = true
                · subst c54
                  have H1 : ((observatorylaw13_dist.f t161 t166).bind fun t171 => (if t167 = t171 then (if t167 < 32 then ((observatorylaw13_around.f t161 (Int.tmod (wrap64 (a1)) 32)).bind fun t172 => (some (decide (t167 ≥ t172)))) else (some false)) else (some false))) = some r := by rw [if_pos rfl] at H; exact H
                  clear H
                  have H := H1
                  clear H1
                  replace H := Option.bind_eq_some_iff.mp H
                  obtain ⟨t171, A550, H⟩ := H
                  replace H : (if t167 = t171 then (if t167 < 32 then ((observatorylaw13_around.f t161 (Int.tmod (wrap64 (a1)) 32)).bind fun t172 => (some (decide (t167 ≥ t172)))) else (some false)) else (some false)) = some r := H
                  have A55 := Aside0.mk A550
                  clear A550
                  by_cases c56 : t167 = t171
                  · rw [if_pos c56] at H
                    have c56b0 : (t167 == t171) = true := beq_iff_eq.mpr c56
                    have c56b1 : (t167 != t171) = false := bne_eq_false_iff_eq.mpr c56
                    clear c56
                    by_cases c57 : t167 < 32
                    · rw [if_pos c57] at H
                      have c57b0 : decide (t167 < 32) = true := decide_eq_true c57
                      clear c57
                      replace H := Option.bind_eq_some_iff.mp H
                      obtain ⟨t172, A580, H⟩ := H
                      replace H : (some (decide (t167 ≥ t172))) = some r := H
                      have A58 := Aside0.mk A580
                      clear A580
                      obtain rfl := Option.some.inj H
                      obtain ⟨Ao59, co59, eo59⟩ := Kd.R_slice HO_10.out
                      subst eo59
                      go_wp2_with (first | (go_at_call 17; (with_reducible refine (observatorylaw13_dist.calls t161 t166 t171 _ A55.out).mono ?_); rintro e w60 ⟨rfl, hb⟩; have n0_ := Aside0.mk (Kd.R_below (by (with_reducible repeat (first | apply Kd.R_alloc | apply Kd.R_drewN | apply Kd.R_drew)); exact HO_10.out) hb); have n1_ := Aside0.mk (below_step (by repeat (first | (with_reducible first | exact HB.out | apply below_alloc | apply pw_below_drewN | apply below_drew1) | exact HB.out)) hb); clear HO_10; clear HB; have HO_10 := n0_; have HB := n1_; clear n0_ n1_; (try clear hb); (try clear hb2); (try clear hk); (try clear hi)) | (go_at_call 18; (with_reducible refine (observatorylaw13_around.calls t161 (Int.tmod (wrap64 (a1)) 32) t172 _ A58.out).mono ?_); rintro e w61 ⟨rfl, hb⟩; have n0_ := Aside0.mk (Kd.R_below (by (with_reducible repeat (first | apply Kd.R_alloc | apply Kd.R_drewN | apply Kd.R_drew)); exact HO_10.out) hb); have n1_ := Aside0.mk (below_step (by repeat (first | (with_reducible first | exact HB.out | apply below_alloc | apply pw_below_drewN | apply below_drew1) | exact HB.out)) hb); clear HO_10; clear HB; have HO_10 := n0_; have HB := n1_; clear n0_ n1_; (try clear hb); (try clear hb2); (try clear hk); (try clear hi)))
                      repeat (go_quiet (first | (go_at_call 17; (with_reducible refine (observatorylaw13_dist.calls t161 t166 t171 _ A55.out).mono ?_); rintro e w60 ⟨rfl, hb⟩; have n0_ := Aside0.mk (Kd.R_below (by (with_reducible repeat (first | apply Kd.R_alloc | apply Kd.R_drewN | apply Kd.R_drew)); exact HO_10.out) hb); have n1_ := Aside0.mk (below_step (by repeat (first | (with_reducible first | exact HB.out | apply below_alloc | apply pw_below_drewN | apply below_drew1) | exact HB.out)) hb); clear HO_10; clear HB; have HO_10 := n0_; have HB := n1_; clear n0_ n1_; (try clear hb); (try clear hb2); (try clear hk); (try clear hi)) | (go_at_call 18; (with_reducible refine (observatorylaw13_around.calls t161 (Int.tmod (wrap64 (a1)) 32) t172 _ A58.out).mono ?_); rintro e w61 ⟨rfl, hb⟩; have n0_ := Aside0.mk (Kd.R_below (by (with_reducible repeat (first | apply Kd.R_alloc | apply Kd.R_drewN | apply Kd.R_drew)); exact HO_10.out) hb); have n1_ := Aside0.mk (below_step (by repeat (first | (with_reducible first | exact HB.out | apply below_alloc | apply pw_below_drewN | apply below_drew1) | exact HB.out)) hb); clear HO_10; clear HB; have HO_10 := n0_; have HB := n1_; clear n0_ n1_; (try clear hb); (try clear hb2); (try clear hk); (try clear hi))); try go_wp2_with (first | (go_at_call 17; (with_reducible refine (observatorylaw13_dist.calls t161 t166 t171 _ A55.out).mono ?_); rintro e w60 ⟨rfl, hb⟩; have n0_ := Aside0.mk (Kd.R_below (by (with_reducible repeat (first | apply Kd.R_alloc | apply Kd.R_drewN | apply Kd.R_drew)); exact HO_10.out) hb); have n1_ := Aside0.mk (below_step (by repeat (first | (with_reducible first | exact HB.out | apply below_alloc | apply pw_below_drewN | apply below_drew1) | exact HB.out)) hb); clear HO_10; clear HB; have HO_10 := n0_; have HB := n1_; clear n0_ n1_; (try clear hb); (try clear hb2); (try clear hk); (try clear hi)) | (go_at_call 18; (with_reducible refine (observatorylaw13_around.calls t161 (Int.tmod (wrap64 (a1)) 32) t172 _ A58.out).mono ?_); rintro e w61 ⟨rfl, hb⟩; have n0_ := Aside0.mk (Kd.R_below (by (with_reducible repeat (first | apply Kd.R_alloc | apply Kd.R_drewN | apply Kd.R_drew)); exact HO_10.out) hb); have n1_ := Aside0.mk (below_step (by repeat (first | (with_reducible first | exact HB.out | apply below_alloc | apply pw_below_drewN | apply below_drew1) | exact HB.out)) hb); clear HO_10; clear HB; have HO_10 := n0_; have HB := n1_; clear n0_ n1_; (try clear hb); (try clear hb2); (try clear hk); (try clear hi))))
                      go_ret
                      exact ⟨by first | rfl | (simp [errW_none, errW_some] <;> rfl) | (simp [*, errW_none, errW_some] <;> rfl), by repeat (first | (with_reducible first | exact HB.out | apply below_alloc | apply pw_below_drewN | apply below_drew1) | exact HB.out)⟩
                    · rw [if_neg c57] at H
                      have c57b0 : decide (t167 < 32) = false := decide_eq_false c57
                      clear c57
                      exact absurd ((Option.some.inj H).trans HT_.out) (by decide)
                  · rw [if_neg c56] at H
                    have c56b0 : (t167 == t171) = false := beq_eq_false_iff_ne.mpr c56
                    have c56b1 : (t167 != t171) = true := bne_iff_ne.mpr c56
                    exact absurd ((Option.some.inj H).trans HT_.out) (by decide)
                · replace c54 := Bool.eq_false_iff.mpr c54
                  subst c54
                  have H1 : (some false) = some r := by rw [if_neg (show ¬ (false = true) by decide)] at H; exact H
                  clear H
                  have H := H1
                  clear H1
                  exact absurd ((Option.some.inj H).trans HT_.out) (by decide)
              · replace c53 := Bool.eq_false_iff.mpr c53
                subst c53
                have H1 : (some false) = some r := by rw [if_neg (show ¬ (false = true) by decide)] at H; exact H
                clear H
                have H := H1
                clear H1
                exact absurd ((Option.some.inj H).trans HT_.out) (by decide)

/-- THE ONE PURE STATEMENT of observatorylaw13_MountMoves: yours. -/
def observatorylaw13_MountMoves.Pure : Prop := ∀ (a0 : Int) (a1 : Int) (a2 : Int), (Lit.int .u8 a0).wf = true → (Lit.int .u8 a1).wf = true → (Lit.int .u8 a2).wf = true → ∃ k, observatorylaw13_MountMoves.f k a0 a1 a2 = some true
theorem observatorylaw13_MountMoves.walk (P : observatorylaw13_MountMoves.Pure) (a0 : Int) (a1 : Int) (a2 : Int) (w : World) (w0 : (Lit.int .u8 a0).wf = true) (w1 : (Lit.int .u8 a1).wf = true) (w2 : (Lit.int .u8 a2).wf = true) :
    Calls Try.prog 4 #[.int .u8 a0, .int .u8 a1, .int .u8 a2] w fun e w' => e = .returned (.bool true) ∧ Below w.heap.size w w' := by
  obtain ⟨k, h⟩ := P a0 a1 a2 w0 w1 w2
  refine (observatorylaw13_MountMoves.calls k a0 a1 a2 true w rfl h).mono ?_
  rintro e w' ⟨rfl, hd⟩
  exact ⟨rfl, hd⟩

end Go.Proofs.Ytopbajcnihboiaa.Px
