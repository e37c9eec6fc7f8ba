-- By a program of this session (a turned copy of the kit's print.py): a function of the translation as a Lean function, and the proof that the code computes it. Lean checks it.
import Derived.Test.YtmndechaeaidcaaPxx0
import Derived.Test.YtmndechaeaidcaaExtI
import Derived.Test.YtmndechaeaidcaaPxx21
import Derived.Test.YtmndechaeaidcaaExtH
namespace Go.Proofs.Ytmndechaeaidcaa.Px
open Go.RowKit Go.Proofs.YtmndechaeaidcaaW.PrintWords Go.Proofs.YtmndechaeaidcaaW.PrintLast Go.Proofs.YtmndechaeaidcaaW.PrintMore
attribute [local go_sem] max2_int min2_int max_two min_two max_three min_three max_four min_four   -- for this text's walks alone
set_option linter.unusedVariables false
set_option linter.unusedSimpArgs false

/-! ### observatorylaw40_PreemptWorst: function 8 -/
mutual
def observatorylaw40_PreemptWorst.j0 : Nat → List (S37) → Int → Int → Int → Bool → Int → Int → Bool → Option (Bool)
  | 0, _, _, _, _, _, _, _, _ => none
  | k + 1, x0, x1, x2, x3, x9, x10, x11, x32 => if x32 = true then (if x9 = true then (if x11 = 0 then (some true) else (some (x10 == 0))) else (some false)) else (if (x0.length : Int) = 0 then (observatorylaw40_PreemptWorst.j1 k x0 x1 x2 x3 x9 x10 0 (x10 == 0)) else (observatorylaw40_PreemptWorst.j1 k x0 x1 x2 x3 x9 x10 0 false))
def observatorylaw40_PreemptWorst.j1 : Nat → List (S37) → Int → Int → Int → Bool → Int → Int → Bool → Option (Bool)
  | 0, _, _, _, _, _, _, _, _ => none
  | k + 1, x0, x1, x2, x3, x9, x10, x12, x13 => observatorylaw40_PreemptWorst.l0 k x0 x1 x2 x3 x9 x10 x12 x13 0
def observatorylaw40_PreemptWorst.l0 : Nat → List (S37) → Int → Int → Int → Bool → Int → Int → Bool → Int → Option (Bool)
  | 0, _, _, _, _, _, _, _, _, _ => none
  | k + 1, x0, x1, x2, x3, x9, x10, x12, x13, x14 => if x14 < (x0.length : Int) then (if 0 ≤ x14 then (if x13 = true then (observatorylaw40_PreemptWorst.l0 k x0 x1 x2 x3 x9 x10 (wrap64 (x12 + ((rd_T37 x0 x14).f1))) true (wrap64 (x14 + 1))) else ((observatorylaw40_cost.f k x0 x1 ((rd_T37 x0 x14).f0)).bind fun t290 => (observatorylaw40_PreemptWorst.l0 k x0 x1 x2 x3 x9 x10 (wrap64 (x12 + ((rd_T37 x0 x14).f1))) (t290 == x10) (wrap64 (x14 + 1))))) else (none)) else ((preempt_Worst.f k x0 (wrap64 (x1 + (wrap64 (x2))))).bind fun bt291 => (if bt291.2 = 0 then (if bt291.1 < x10 then (observatorylaw40_PreemptWorst.j3 k x0 x1 x9 x10 true) else (if x13 = true then (if x10 > x12 then (observatorylaw40_PreemptWorst.j3 k x0 x1 x9 x10 true) else ((observatorylaw40_cost.f k x0 x1 (wrap64 (x3))).bind fun t293 => (observatorylaw40_PreemptWorst.j3 k x0 x1 x9 x10 (decide (x10 < t293))))) else (observatorylaw40_PreemptWorst.j3 k x0 x1 x9 x10 true))) else (if x13 = true then (if x10 > x12 then (observatorylaw40_PreemptWorst.j3 k x0 x1 x9 x10 true) else ((observatorylaw40_cost.f k x0 x1 (wrap64 (x3))).bind fun t294 => (observatorylaw40_PreemptWorst.j3 k x0 x1 x9 x10 (decide (x10 < t294))))) else (observatorylaw40_PreemptWorst.j3 k x0 x1 x9 x10 true))))
def observatorylaw40_PreemptWorst.j3 : Nat → List (S37) → Int → Bool → Int → Bool → Option (Bool)
  | 0, _, _, _, _, _ => none
  | k + 1, x0, x1, x9, x10, x108 => if x108 = true then (some false) else (if (x0.length : Int) = 0 then (some x9) else (if 0 ≤ (wrap64 ((x0.length : Int) - 1)) then (if (wrap64 ((x0.length : Int) - 1)) ≤ (x0.length : Int) then ((preempt_Worst.f k (x0.take ((wrap64 ((x0.length : Int) - 1)) : Int).toNat) x1).bind fun bt299 => (if x9 = true then (if bt299.2 = 0 then (if bt299.1 ≤ x10 then (if (wrap64 ((x0.length : Int) - 1)) < (x0.length : Int) then (some (decide (x10 ≥ ((rd_T37 x0 (wrap64 ((x0.length : Int) - 1))).f1)))) else (none)) else (some false)) else (some false)) else (some false))) else (none)) else (none)))
end
def observatorylaw40_PreemptWorst.f (k : Nat) (l0 : List (S37)) (a1 : Int) (a2 : Int) (a3 : Int) : Option (Bool) := (observatorylaw40_head.f k).bind fun t285 => ((preempt_Worst.f k l0 a1).bind fun bt286 => (if (l0.length : Int) > 60 then (observatorylaw40_PreemptWorst.j0 k l0 a1 a2 a3 t285 bt286.1 bt286.2 true) else (observatorylaw40_PreemptWorst.j0 k l0 a1 a2 a3 t285 bt286.1 bt286.2 (bt286.2 != 0))))
theorem observatorylaw40_PreemptWorst.mono_l : ∀ k, (∀ y0 y1 y2 y3 y4 y5 y6 y7, LeO (observatorylaw40_PreemptWorst.j0 k y0 y1 y2 y3 y4 y5 y6 y7) (observatorylaw40_PreemptWorst.j0 (k + 1) y0 y1 y2 y3 y4 y5 y6 y7)) ∧ (∀ y0 y1 y2 y3 y4 y5 y6 y7, LeO (observatorylaw40_PreemptWorst.j1 k y0 y1 y2 y3 y4 y5 y6 y7) (observatorylaw40_PreemptWorst.j1 (k + 1) y0 y1 y2 y3 y4 y5 y6 y7)) ∧ (∀ y0 y1 y2 y3 y4 y5 y6 y7 y8, LeO (observatorylaw40_PreemptWorst.l0 k y0 y1 y2 y3 y4 y5 y6 y7 y8) (observatorylaw40_PreemptWorst.l0 (k + 1) y0 y1 y2 y3 y4 y5 y6 y7 y8)) ∧ (∀ y0 y1 y2 y3 y4, LeO (observatorylaw40_PreemptWorst.j3 k y0 y1 y2 y3 y4) (observatorylaw40_PreemptWorst.j3 (k + 1) y0 y1 y2 y3 y4))
  | 0 => ⟨fun _ _ _ _ _ _ _ _ r h => by simp [observatorylaw40_PreemptWorst.j0] at h, fun _ _ _ _ _ _ _ _ r h => by simp [observatorylaw40_PreemptWorst.j1] at h, fun _ _ _ _ _ _ _ _ _ r h => by simp [observatorylaw40_PreemptWorst.l0] at h, fun _ _ _ _ _ r h => by simp [observatorylaw40_PreemptWorst.j3] at h⟩
  | k + 1 => by
    obtain ⟨ih0, ih1, ih2, ih3⟩ := observatorylaw40_PreemptWorst.mono_l k
    refine ⟨?_, ?_, ?_, ?_⟩
    · intro y0 y1 y2 y3 y4 y5 y6 y7
      unfold observatorylaw40_PreemptWorst.j0
      repeat' first
      | (with_reducible exact ih0 _ _ _ _ _ _ _ _)
      | (with_reducible exact ih1 _ _ _ _ _ _ _ _)
      | (with_reducible exact ih2 _ _ _ _ _ _ _ _ _)
      | (with_reducible exact ih3 _ _ _ _ _)
      | (with_reducible exact observatorylaw40_cost.mono _ _ _ _)
      | (with_reducible exact observatorylaw40_head.mono _)
      | (with_reducible exact preempt_Worst.mono _ _ _)
      | (with_reducible exact LeO.refl _)
      | (with_reducible exact LeO.none _)
      | (with_reducible refine LeO.ite ?_ ?_)
      | (with_reducible refine LeO.bind ?_ (fun _ => ?_))
      | exact ih0 _ _ _ _ _ _ _ _
      | exact ih1 _ _ _ _ _ _ _ _
      | exact ih2 _ _ _ _ _ _ _ _ _
      | exact ih3 _ _ _ _ _
      | exact observatorylaw40_cost.mono _ _ _ _
      | exact observatorylaw40_head.mono _
      | exact preempt_Worst.mono _ _ _
      | exact LeO.none _
      | refine LeO.ite ?_ ?_
      | refine LeO.bind ?_ (fun _ => ?_)
    · intro y0 y1 y2 y3 y4 y5 y6 y7
      unfold observatorylaw40_PreemptWorst.j1
      repeat' first
      | (with_reducible exact ih0 _ _ _ _ _ _ _ _)
      | (with_reducible exact ih1 _ _ _ _ _ _ _ _)
      | (with_reducible exact ih2 _ _ _ _ _ _ _ _ _)
      | (with_reducible exact ih3 _ _ _ _ _)
      | (with_reducible exact observatorylaw40_cost.mono _ _ _ _)
      | (with_reducible exact observatorylaw40_head.mono _)
      | (with_reducible exact preempt_Worst.mono _ _ _)
      | (with_reducible exact LeO.refl _)
      | (with_reducible exact LeO.none _)
      | (with_reducible refine LeO.ite ?_ ?_)
      | (with_reducible refine LeO.bind ?_ (fun _ => ?_))
      | exact ih0 _ _ _ _ _ _ _ _
      | exact ih1 _ _ _ _ _ _ _ _
      | exact ih2 _ _ _ _ _ _ _ _ _
      | exact ih3 _ _ _ _ _
      | exact observatorylaw40_cost.mono _ _ _ _
      | exact observatorylaw40_head.mono _
      | exact preempt_Worst.mono _ _ _
      | exact LeO.none _
      | refine LeO.ite ?_ ?_
      | refine LeO.bind ?_ (fun _ => ?_)
    · intro y0 y1 y2 y3 y4 y5 y6 y7 y8
      unfold observatorylaw40_PreemptWorst.l0
      repeat' first
      | (with_reducible exact ih0 _ _ _ _ _ _ _ _)
      | (with_reducible exact ih1 _ _ _ _ _ _ _ _)
      | (with_reducible exact ih2 _ _ _ _ _ _ _ _ _)
      | (with_reducible exact ih3 _ _ _ _ _)
      | (with_reducible exact observatorylaw40_cost.mono _ _ _ _)
      | (with_reducible exact observatorylaw40_head.mono _)
      | (with_reducible exact preempt_Worst.mono _ _ _)
      | (with_reducible exact LeO.refl _)
      | (with_reducible exact LeO.none _)
      | (with_reducible refine LeO.ite ?_ ?_)
      | (with_reducible refine LeO.bind ?_ (fun _ => ?_))
      | exact ih0 _ _ _ _ _ _ _ _
      | exact ih1 _ _ _ _ _ _ _ _
      | exact ih2 _ _ _ _ _ _ _ _ _
      | exact ih3 _ _ _ _ _
      | exact observatorylaw40_cost.mono _ _ _ _
      | exact observatorylaw40_head.mono _
      | exact preempt_Worst.mono _ _ _
      | exact LeO.none _
      | refine LeO.ite ?_ ?_
      | refine LeO.bind ?_ (fun _ => ?_)
    · intro y0 y1 y2 y3 y4
      unfold observatorylaw40_PreemptWorst.j3
      repeat' first
      | (with_reducible exact ih0 _ _ _ _ _ _ _ _)
      | (with_reducible exact ih1 _ _ _ _ _ _ _ _)
      | (with_reducible exact ih2 _ _ _ _ _ _ _ _ _)
      | (with_reducible exact ih3 _ _ _ _ _)
      | (with_reducible exact observatorylaw40_cost.mono _ _ _ _)
      | (with_reducible exact observatorylaw40_head.mono _)
      | (with_reducible exact preempt_Worst.mono _ _ _)
      | (with_reducible exact LeO.refl _)
      | (with_reducible exact LeO.none _)
      | (with_reducible refine LeO.ite ?_ ?_)
      | (with_reducible refine LeO.bind ?_ (fun _ => ?_))
      | exact ih0 _ _ _ _ _ _ _ _
      | exact ih1 _ _ _ _ _ _ _ _
      | exact ih2 _ _ _ _ _ _ _ _ _
      | exact ih3 _ _ _ _ _
      | exact observatorylaw40_cost.mono _ _ _ _
      | exact observatorylaw40_head.mono _
      | exact preempt_Worst.mono _ _ _
      | exact LeO.none _
      | refine LeO.ite ?_ ?_
      | refine LeO.bind ?_ (fun _ => ?_)
theorem observatorylaw40_PreemptWorst.mono : ∀ a0 a1 a2 a3 k, LeO (observatorylaw40_PreemptWorst.f k a0 a1 a2 a3) (observatorylaw40_PreemptWorst.f (k + 1) a0 a1 a2 a3) := by
  intro a0 a1 a2 a3 k
  obtain ⟨ih0, ih1, ih2, ih3⟩ := observatorylaw40_PreemptWorst.mono_l k
  unfold observatorylaw40_PreemptWorst.f
  repeat' first
      | (with_reducible exact ih0 _ _ _ _ _ _ _ _)
      | (with_reducible exact ih1 _ _ _ _ _ _ _ _)
      | (with_reducible exact ih2 _ _ _ _ _ _ _ _ _)
      | (with_reducible exact ih3 _ _ _ _ _)
      | (with_reducible exact observatorylaw40_cost.mono _ _ _ _)
      | (with_reducible exact observatorylaw40_head.mono _)
      | (with_reducible exact preempt_Worst.mono _ _ _)
      | (with_reducible exact LeO.refl _)
      | (with_reducible exact LeO.none _)
      | (with_reducible refine LeO.ite ?_ ?_)
      | (with_reducible refine LeO.bind ?_ (fun _ => ?_))
      | exact ih0 _ _ _ _ _ _ _ _
      | exact ih1 _ _ _ _ _ _ _ _
      | exact ih2 _ _ _ _ _ _ _ _ _
      | exact ih3 _ _ _ _ _
      | exact observatorylaw40_cost.mono _ _ _ _
      | exact observatorylaw40_head.mono _
      | exact preempt_Worst.mono _ _ _
      | exact LeO.none _
      | refine LeO.ite ?_ ?_
      | refine LeO.bind ?_ (fun _ => ?_)
set_option maxHeartbeats 8000000 in
set_option maxRecDepth 100000 in
theorem observatorylaw40_PreemptWorst.calls (k : Nat) (A0 : Option Addr) (c0 : Nat) (l0 : List (S37)) (a1 : Int) (a2 : Int) (a3 : Int) (r : Bool) (w : World) (hT : r = true) (hr0 : Kd.C k37 w A0 l0.length l0) (hc0 : l0.length ≤ c0) (h : observatorylaw40_PreemptWorst.f k l0 a1 a2 a3 = some r) :
    Calls Try.prog 8 #[.slice A0 l0.length c0, .int .i64 a1, .int .u16 a2, .int .u16 a3] w fun e w' => e = .returned (.bool r) ∧ Below w.heap.size w w' := by
  have HR0 := Aside0.mk hr0
  have HC0 := Aside0.mk hc0
  clear hr0 hc0
  have HB := Aside0.mk (Below.refl w.heap.size w)
  have HT_ := Aside0.mk hT
  clear hT
  have H : ((observatorylaw40_head.f k).bind fun t285 => ((preempt_Worst.f k l0 a1).bind fun bt286 => (if (l0.length : Int) > 60 then (observatorylaw40_PreemptWorst.j0 k l0 a1 a2 a3 t285 bt286.1 bt286.2 true) else (observatorylaw40_PreemptWorst.j0 k l0 a1 a2 a3 t285 bt286.1 bt286.2 (bt286.2 != 0))))) = some r := h
  clear h
  replace H := Option.bind_eq_some_iff.mp H
  obtain ⟨t285, A50, H⟩ := H
  replace H : ((preempt_Worst.f k l0 a1).bind fun bt286 => (if (l0.length : Int) > 60 then (observatorylaw40_PreemptWorst.j0 k l0 a1 a2 a3 t285 bt286.1 bt286.2 true) else (observatorylaw40_PreemptWorst.j0 k l0 a1 a2 a3 t285 bt286.1 bt286.2 (bt286.2 != 0)))) = some r := H
  have A5 := Aside0.mk A50
  clear A50
  replace H := Option.bind_eq_some_iff.mp H
  obtain ⟨⟨t286, t287⟩, A60, H⟩ := H
  replace H : (if (l0.length : Int) > 60 then (observatorylaw40_PreemptWorst.j0 k l0 a1 a2 a3 t285 t286 t287 true) else (observatorylaw40_PreemptWorst.j0 k l0 a1 a2 a3 t285 t286 t287 (t287 != 0))) = some r := H
  have A6 := Aside0.mk A60
  clear A60
  have HC7 := Aside0.mk H
  clear H
  go_enter Try.func8, Try.ntmps8
  go_upto_region 3 with (first | ((with_reducible refine gate_callee (f := 9) rfl ?_); refine goesL_ (some 19) rfl rfl Try.func9 (by kernel_rfl) rfl #[] rfl (by (try simp only [List.map_toArray, List.map_cons, List.map_nil]); first | done | rfl | (simp only [List.length_drop, List.length_take]; rfl)) ?_; (with_reducible refine (observatorylaw40_head.calls k  t285 _ A5.out).mono ?_); rintro e w8 ⟨rfl, hb⟩; refine ⟨_, rfl, ?_⟩; have n0_ := Aside0.mk (below_step (by repeat (first | (with_reducible first | exact HB.out | apply below_alloc | apply pw_below_drewN | apply below_drew1) | exact HB.out)) hb); clear HB; have HB := n0_; clear n0_; (try clear hb); (try clear hb2); (try clear hk); (try clear hi)) | ((with_reducible refine gate_callee (f := 12) rfl ?_); refine goesL_ (some 23) rfl rfl Try.func12 (by kernel_rfl) rfl #[.slice A0 l0.length c0, .int .i64 a1] rfl (by (try simp only [List.map_toArray, List.map_cons, List.map_nil]); first | done | rfl | (simp only [List.length_drop, List.length_take]; rfl)) ?_; (with_reducible refine (preempt_Worst.calls k _ _ l0 a1 t286 t287 _ ?side1 ?side2 A6.out).mono ?_); (case side1 => repeat (first | exact (Kd.C_below HR0.out HB.out) | (with_reducible refine Kd.C_alloc ?_ _) | (with_reducible refine Kd.C_drewN ?_ _) | (with_reducible refine Kd.C_drew ?_))); (case side2 => exact HC0.out); rintro e w9 ⟨rfl, hb⟩; refine ⟨_, rfl, ?_⟩; have n0_ := Aside0.mk (below_step (by repeat (first | (with_reducible first | exact HB.out | apply below_alloc | apply pw_below_drewN | apply below_drew1) | exact HB.out)) hb); clear HB; have HB := n0_; clear n0_; (try clear hb); (try clear hb2); (try clear hk); (try clear hi)))
  (try simp only [Act.put, List.setIfInBounds_toArray, List.set_cons_zero, List.set_cons_succ])
  go_cut [32] (fun v32 wc => ∃ (kq : Nat) (x32_6 : Bool), v32 = .bool x32_6 ∧ Aside0 (observatorylaw40_PreemptWorst.j0 kq l0 a1 a2 a3 t285 t286 t287 x32_6 = some r) ∧ Aside0 (kq ≤ k) ∧ Aside0 (Below w.heap.size w wc))
  case first =>
    have H := HC7.out
    clear HC7
    by_cases c10 : (l0.length : Int) > 60
    · rw [if_pos c10] at H
      have c10b0 : decide (60 < (l0.length : Int)) = true := decide_eq_true c10
      have c10b1 : decide (60 < l0.length) = true := decide_eq_true (by omega)
      clear c10
      (first | rw [c10b0] | (simp only [i64_w, i32_w]; rw [c10b0]) | skip)
      have H' := Aside0.mk H
      clear H
      go_wp2
      go_meet
      case rel => exact ⟨_, (true), (by first | rfl | (simp; done) | (simp [*]; done)), H', ⟨by first | omega | exact Nat.le_refl _⟩, ⟨by repeat (first | (with_reducible first | exact HB.out | apply below_alloc | apply pw_below_drewN | apply below_drew1) | exact HB.out)⟩⟩
    · rw [if_neg c10] at H
      have c10b0 : decide (60 < (l0.length : Int)) = false := decide_eq_false c10
      have c10b1 : decide (60 < l0.length) = false := decide_eq_false (by omega)
      clear c10
      (first | rw [c10b0] | (simp only [i64_w, i32_w]; rw [c10b0]) | skip)
      have H' := Aside0.mk H
      clear H
      go_wp2
      go_meet
      case rel => exact ⟨_, ((t287 != 0)), (by first | rfl | (simp; done) | (simp [*]; done)), H', ⟨by first | omega | exact Nat.le_refl _⟩, ⟨by repeat (first | (with_reducible first | exact HB.out | apply below_alloc | apply pw_below_drewN | apply below_drew1) | exact HB.out)⟩⟩
  case rest =>
    clear HC7
    try clear c1
    try clear p2
    try clear c8
    try clear c9
    try clear c10
    try clear c10b0
    try clear c10b1
    obtain ⟨kq, x32_6, rfl, HA, HJ6, HB⟩ := hcut
    cases kq with
    | zero => exact absurd HA.out (by simp [observatorylaw40_PreemptWorst.j0])
    | succ kj6 =>
      have H := HA.out
      clear HA
      simp only [observatorylaw40_PreemptWorst.j0] at H
      by_cases c11 : x32_6 = true
      · subst c11
        have H1 : (if t285 = true then (if t287 = 0 then (some true) else (some (t286 == 0))) else (some false)) = some r := by rw [if_pos rfl] at H; exact H
        clear H
        have H := H1
        clear H1
        by_cases c12 : t285 = true
        · subst c12
          have H1 : (if t287 = 0 then (some true) else (some (t286 == 0))) = some r := by rw [if_pos rfl] at H; exact H
          clear H
          have H := H1
          clear H1
          by_cases c13 : t287 = 0
          · rw [if_pos c13] at H
            have c13b0 : (t287 == 0) = true := beq_iff_eq.mpr c13
            have c13b1 : (t287 != 0) = false := bne_eq_false_iff_eq.mpr c13
            clear c13
            obtain rfl := Option.some.inj H
            go_wp2
            go_ret
            exact ⟨by first | rfl | (simp [errW_none, errW_some] <;> rfl) | (simp [*, errW_none, errW_some] <;> rfl), by repeat (first | (with_reducible first | exact HB.out | apply below_alloc | apply pw_below_drewN | apply below_drew1) | exact HB.out)⟩
          · rw [if_neg c13] at H
            have c13b0 : (t287 == 0) = false := beq_eq_false_iff_ne.mpr c13
            have c13b1 : (t287 != 0) = true := bne_iff_ne.mpr c13
            obtain rfl := Option.some.inj H
            go_wp2
            go_ret
            exact ⟨by first | rfl | (simp [errW_none, errW_some] <;> rfl) | (simp [*, errW_none, errW_some] <;> rfl), by repeat (first | (with_reducible first | exact HB.out | apply below_alloc | apply pw_below_drewN | apply below_drew1) | exact HB.out)⟩
        · replace c12 := Bool.eq_false_iff.mpr c12
          subst c12
          have H1 : (some false) = some r := by rw [if_neg (show ¬ (false = true) by decide)] at H; exact H
          clear H
          have H := H1
          clear H1
          exact absurd ((Option.some.inj H).trans HT_.out) (by decide)
      · replace c11 := Bool.eq_false_iff.mpr c11
        subst c11
        have H1 : (if (l0.length : Int) = 0 then (observatorylaw40_PreemptWorst.j1 kj6 l0 a1 a2 a3 t285 t286 0 (t286 == 0)) else (observatorylaw40_PreemptWorst.j1 kj6 l0 a1 a2 a3 t285 t286 0 false)) = some r := by rw [if_neg (show ¬ (false = true) by decide)] at H; exact H
        clear H
        have H := H1
        clear H1
        have HC14 := Aside0.mk H
        clear H
        go_upto_region 5 with (fail)
        go_cut [12, 13] (fun v12 v13 wc => ∃ (kq : Nat) (x12_13 : Int) (x13_13 : Bool), v12 = .int .i64 x12_13 ∧ v13 = .bool x13_13 ∧ Aside0 (observatorylaw40_PreemptWorst.j1 kq l0 a1 a2 a3 t285 t286 x12_13 x13_13 = some r) ∧ Aside0 (kq ≤ kj6) ∧ Aside0 (Below w.heap.size w wc))
        case first =>
          have H := HC14.out
          clear HC14
          by_cases c15 : (l0.length : Int) = 0
          · rw [if_pos c15] at H
            have c15b0 : ((l0.length : Int) == 0) = true := beq_iff_eq.mpr c15
            have c15b1 : ((l0.length : Int) != 0) = false := bne_eq_false_iff_eq.mpr c15
            clear c15
            (first | rw [c15b0] | (simp only [i64_w, i32_w]; rw [c15b0]) | skip)
            have H' := Aside0.mk H
            clear H
            go_wp2
            go_meet
            case rel => exact ⟨_, (0), ((t286 == 0)), (by first | rfl | (simp; done) | (simp [*]; done)), (by first | rfl | (simp; done) | (simp [*]; done)), H', ⟨by have := HJ6.out; first | omega | exact Nat.le_refl _⟩, ⟨by repeat (first | (with_reducible first | exact HB.out | apply below_alloc | apply pw_below_drewN | apply below_drew1) | exact HB.out)⟩⟩
          · rw [if_neg c15] at H
            have c15b0 : ((l0.length : Int) == 0) = false := beq_eq_false_iff_ne.mpr c15
            have c15b1 : ((l0.length : Int) != 0) = true := bne_iff_ne.mpr c15
            have c15b2 : ¬ (l0 = []) := fun h_ => c15 (by rw [h_]; rfl)
            (first | rw [c15b0] | (simp only [i64_w, i32_w]; rw [c15b0]) | skip)
            have H' := Aside0.mk H
            clear H
            go_wp2
            go_meet
            case rel => exact ⟨_, (0), (false), (by first | rfl | (simp; done) | (simp [*]; done)), (by first | rfl | (simp; done) | (simp [*]; done)), H', ⟨by have := HJ6.out; first | omega | exact Nat.le_refl _⟩, ⟨by repeat (first | (with_reducible first | exact HB.out | apply below_alloc | apply pw_below_drewN | apply below_drew1) | exact HB.out)⟩⟩
        case rest =>
          clear HC14
          try clear c1
          try clear p2
          try clear c8
          try clear c9
          try clear c10
          try clear c10b0
          try clear c10b1
          try clear c11
          try clear c12
          try clear c13
          try clear c13b0
          try clear c13b1
          try clear c15
          try clear c15b0
          try clear c15b1
          try clear c15b2
          try clear p2
          obtain ⟨kq, x12_13, x13_13, rfl, rfl, HA, HJ13, HB⟩ := hcut
          cases kq with
          | zero => exact absurd HA.out (by simp [observatorylaw40_PreemptWorst.j1])
          | succ kj13 =>
            have H := HA.out
            clear HA
            simp only [observatorylaw40_PreemptWorst.j1] at H
            have H' := Aside0.mk H
            clear H
            go_wp2
            go_loopg [12, 13, 14] kj13 (fun kq v12 v13 v14 w' => ∃ (x12_3 : Int) (x13_3 : Bool) (x14_3 : Int), v12 = .int .i64 x12_3 ∧ v13 = .bool x13_3 ∧ v14 = .int .i64 x14_3 ∧ Aside0 (observatorylaw40_PreemptWorst.l0 kq l0 a1 a2 a3 t285 t286 x12_3 x13_3 x14_3 = some r) ∧ Aside0 (kq ≤ kj13) ∧ Aside0 (Below w.heap.size w w'))
            case atStart => exact ⟨(x12_13), (x13_13), (0), (by first | rfl | (simp; done) | (simp [*]; done)), (by first | rfl | (simp; done) | (simp [*]; done)), (by first | rfl | (simp; done) | (simp [*]; done)), H', ⟨Nat.le_refl _⟩, ⟨by repeat (first | (with_reducible first | exact HB.out | apply below_alloc | apply pw_below_drewN | apply below_drew1) | exact HB.out)⟩⟩
            case round =>
              clear H'
              try clear c1
              try clear p2
              try clear c8
              try clear c9
              try clear c10
              try clear c10b0
              try clear c10b1
              try clear c11
              try clear c12
              try clear c13
              try clear c13b0
              try clear c13b1
              try clear c15
              try clear c15b0
              try clear c15b1
              try clear c15b2
              try clear p2
              obtain ⟨x12_3, x13_3, x14_3, rfl, rfl, rfl, HA, HK3, HB⟩ := hrel
              cases gk with
              | zero => exact absurd HA.out (by simp [observatorylaw40_PreemptWorst.l0])
              | succ k3 =>
                have H := HA.out
                clear HA
                simp only [observatorylaw40_PreemptWorst.l0] at H
                by_cases c16 : x14_3 < (l0.length : Int)
                · rw [if_pos c16] at H
                  have c16b0 : decide (x14_3 < (l0.length : Int)) = true := decide_eq_true c16
                  clear c16
                  by_cases c17 : 0 ≤ x14_3
                  · rw [if_pos c17] at H
                    have c17b0 : decide (0 ≤ x14_3) = true := decide_eq_true c17
                    clear c17
                    by_cases c18 : x13_3 = true
                    · subst c18
                      have H1 : (observatorylaw40_PreemptWorst.l0 k3 l0 a1 a2 a3 t285 t286 (wrap64 (x12_3 + ((rd_T37 l0 x14_3).f1))) true (wrap64 (x14_3 + 1))) = some r := by rw [if_pos rfl] at H; exact H
                      clear H
                      have H := H1
                      clear H1
                      have H' := Aside0.mk H
                      clear H
                      have p288 : 0 ≤ (x14_3 : Int) := of_decide_eq_true (by first | (with_reducible assumption) | assumption)
                      have q288 : x14_3 < (l0.length : Int) := of_decide_eq_true (by first | (with_reducible assumption) | assumption)
                      obtain ⟨ad288, e288, hx288_0, hx288_1⟩ := at_T37 HR0.out x14_3 p288 q288
                      cases e288
                      replace hx288_0 := (HB.out.cell (World.block_lt_of_cell? w _ hx288_0)).trans hx288_0
                      replace hx288_1 := (HB.out.cell (World.block_lt_of_cell? w _ hx288_1)).trans hx288_1
                      replace p288 := eq_true p288
                      replace q288 := eq_true q288
                      go_wp2
                      go_roundg k3
                      case measure => have := HJ6.out; have := HJ13.out; have := HK3.out; omega
                      case rel => exact ⟨(wrap64 (x12_3 + ((rd_T37 l0 x14_3).f1))), (true), (wrap64 (x14_3 + 1)), (by first | rfl | (simp; done) | (simp [*]; done)), (by first | rfl | (simp; done) | (simp [*]; done)), (by first | rfl | (simp; done) | (simp [*]; done)), H', ⟨by have := HJ6.out; have := HJ13.out; have := HK3.out; omega⟩, ⟨by repeat (first | (with_reducible first | exact HB.out | apply below_alloc | apply pw_below_drewN | apply below_drew1) | exact HB.out)⟩⟩
                    · replace c18 := Bool.eq_false_iff.mpr c18
                      subst c18
                      have H1 : ((observatorylaw40_cost.f k3 l0 a1 ((rd_T37 l0 x14_3).f0)).bind fun t290 => (observatorylaw40_PreemptWorst.l0 k3 l0 a1 a2 a3 t285 t286 (wrap64 (x12_3 + ((rd_T37 l0 x14_3).f1))) (t290 == t286) (wrap64 (x14_3 + 1)))) = some r := by rw [if_neg (show ¬ (false = true) by decide)] at H; exact H
                      clear H
                      have H := H1
                      clear H1
                      replace H := Option.bind_eq_some_iff.mp H
                      obtain ⟨t290, A190, H⟩ := H
                      replace H : (observatorylaw40_PreemptWorst.l0 k3 l0 a1 a2 a3 t285 t286 (wrap64 (x12_3 + ((rd_T37 l0 x14_3).f1))) (t290 == t286) (wrap64 (x14_3 + 1))) = some r := H
                      have A19 := Aside0.mk A190
                      clear A190
                      have H' := Aside0.mk H
                      clear H
                      have p288 : 0 ≤ (x14_3 : Int) := of_decide_eq_true (by first | (with_reducible assumption) | assumption)
                      have q288 : x14_3 < (l0.length : Int) := of_decide_eq_true (by first | (with_reducible assumption) | assumption)
                      obtain ⟨ad288, e288, hx288_0, hx288_1⟩ := at_T37 HR0.out x14_3 p288 q288
                      cases e288
                      replace hx288_0 := (HB.out.cell (World.block_lt_of_cell? w _ hx288_0)).trans hx288_0
                      replace hx288_1 := (HB.out.cell (World.block_lt_of_cell? w _ hx288_1)).trans hx288_1
                      replace p288 := eq_true p288
                      replace q288 := eq_true q288
                      have p289 : 0 ≤ (x14_3 : Int) := of_decide_eq_true (by first | (with_reducible assumption) | assumption)
                      have q289 : x14_3 < (l0.length : Int) := of_decide_eq_true (by first | (with_reducible assumption) | assumption)
                      obtain ⟨ad289, e289, hx289_0, hx289_1⟩ := at_T37 HR0.out x14_3 p289 q289
                      obtain rfl : ad288 = ad289 := (by injection e289)
                      replace hx289_0 := (HB.out.cell (World.block_lt_of_cell? w _ hx289_0)).trans hx289_0
                      replace hx289_1 := (HB.out.cell (World.block_lt_of_cell? w _ hx289_1)).trans hx289_1
                      replace p289 := eq_true p289
                      replace q289 := eq_true q289
                      go_wp2_with (first | (go_at_call 18; (with_reducible refine (observatorylaw40_cost.calls k3 _ _ l0 a1 ((rd_T37 l0 x14_3).f0) t290 _ ?side1 ?side2 A19.out).mono ?_); (case side1 => repeat (first | exact (Kd.C_below HR0.out HB.out) | (with_reducible refine Kd.C_alloc ?_ _) | (with_reducible refine Kd.C_drewN ?_ _) | (with_reducible refine Kd.C_drew ?_))); (case side2 => exact HC0.out); rintro e w' ⟨rfl, ⟨nd, rfl⟩⟩))
                      go_roundg k3
                      case measure => have := HJ6.out; have := HJ13.out; have := HK3.out; omega
                      case rel => exact ⟨(wrap64 (x12_3 + ((rd_T37 l0 x14_3).f1))), ((t290 == t286)), (wrap64 (x14_3 + 1)), (by first | rfl | (simp; done) | (simp [*]; done)), (by first | rfl | (simp; done) | (simp [*]; done)), (by first | rfl | (simp; done) | (simp [*]; done)), H', ⟨by have := HJ6.out; have := HJ13.out; have := HK3.out; omega⟩, ⟨by repeat (first | (with_reducible first | exact HB.out | apply below_alloc | apply pw_below_drewN | apply below_drew1) | exact HB.out)⟩⟩
                  · rw [if_neg c17] at H
                    exact absurd H (by simp)
                · rw [if_neg c16] at H
                  have c16b0 : decide (x14_3 < (l0.length : Int)) = false := decide_eq_false c16
                  clear c16
                  replace H := Option.bind_eq_some_iff.mp H
                  obtain ⟨⟨t291, t292⟩, A200, H⟩ := H
                  replace H : (if t292 = 0 then (if t291 < t286 then (observatorylaw40_PreemptWorst.j3 k3 l0 a1 t285 t286 true) else (if x13_3 = true then (if t286 > x12_3 then (observatorylaw40_PreemptWorst.j3 k3 l0 a1 t285 t286 true) else ((observatorylaw40_cost.f k3 l0 a1 (wrap64 (a3))).bind fun t293 => (observatorylaw40_PreemptWorst.j3 k3 l0 a1 t285 t286 (decide (t286 < t293))))) else (observatorylaw40_PreemptWorst.j3 k3 l0 a1 t285 t286 true))) else (if x13_3 = true then (if t286 > x12_3 then (observatorylaw40_PreemptWorst.j3 k3 l0 a1 t285 t286 true) else ((observatorylaw40_cost.f k3 l0 a1 (wrap64 (a3))).bind fun t294 => (observatorylaw40_PreemptWorst.j3 k3 l0 a1 t285 t286 (decide (t286 < t294))))) else (observatorylaw40_PreemptWorst.j3 k3 l0 a1 t285 t286 true))) = some r := H
                  have A20 := Aside0.mk A200
                  clear A200
                  have HC21 := Aside0.mk H
                  clear H
                  go_upto_region 12 with (first | ((with_reducible refine gate_callee (f := 12) rfl ?_); refine goesL_ (some 81) rfl rfl Try.func12 (by kernel_rfl) rfl #[.slice A0 l0.length c0, .int .i64 (wrap64 (a1 + (wrap64 (a2))))] rfl (by (try simp only [List.map_toArray, List.map_cons, List.map_nil]); first | done | rfl | (simp only [List.length_drop, List.length_take]; rfl)) ?_; (with_reducible refine (preempt_Worst.calls k3 _ _ l0 (wrap64 (a1 + (wrap64 (a2)))) t291 t292 _ ?side1 ?side2 A20.out).mono ?_); (case side1 => repeat (first | exact (Kd.C_below HR0.out HB.out) | (with_reducible refine Kd.C_alloc ?_ _) | (with_reducible refine Kd.C_drewN ?_ _) | (with_reducible refine Kd.C_drew ?_))); (case side2 => exact HC0.out); rintro e w22 ⟨rfl, hb⟩; refine ⟨_, rfl, ?_⟩; have n0_ := Aside0.mk (below_step (by repeat (first | (with_reducible first | exact HB.out | apply below_alloc | apply pw_below_drewN | apply below_drew1) | exact HB.out)) hb); clear HB; have HB := n0_; clear n0_; (try clear hb); (try clear hb2); (try clear hk); (try clear hi)))
                  (try simp only [Act.put, List.setIfInBounds_toArray, List.set_cons_zero, List.set_cons_succ])
                  go_cut [108] (fun v108 wc => ∃ (kq : Nat) (x108_20 : Bool), v108 = .bool x108_20 ∧ Aside0 (observatorylaw40_PreemptWorst.j3 kq l0 a1 t285 t286 x108_20 = some r) ∧ Aside0 (kq ≤ k3) ∧ Aside0 (Below w.heap.size w wc))
                  case first =>
                    have H := HC21.out
                    clear HC21
                    by_cases c23 : t292 = 0
                    · rw [if_pos c23] at H
                      have c23b0 : (t292 == 0) = true := beq_iff_eq.mpr c23
                      have c23b1 : (t292 != 0) = false := bne_eq_false_iff_eq.mpr c23
                      clear c23
                      (first | rw [c23b0] | (simp only [i64_w, i32_w]; rw [c23b0]) | skip)
                      by_cases c24 : t291 < t286
                      · rw [if_pos c24] at H
                        have c24b0 : decide (t291 < t286) = true := decide_eq_true c24
                        clear c24
                        have H' := Aside0.mk H
                        clear H
                        go_wp2
                        go_meet
                        case rel => exact ⟨_, (true), (by first | rfl | (simp; done) | (simp [*]; done)), H', ⟨by have := HJ6.out; have := HJ13.out; have := HK3.out; first | omega | exact Nat.le_refl _⟩, ⟨by repeat (first | (with_reducible first | exact HB.out | apply below_alloc | apply pw_below_drewN | apply below_drew1) | exact HB.out)⟩⟩
                      · rw [if_neg c24] at H
                        have c24b0 : decide (t291 < t286) = false := decide_eq_false c24
                        clear c24
                        by_cases c25 : x13_3 = true
                        · subst c25
                          have H1 : (if t286 > x12_3 then (observatorylaw40_PreemptWorst.j3 k3 l0 a1 t285 t286 true) else ((observatorylaw40_cost.f k3 l0 a1 (wrap64 (a3))).bind fun t293 => (observatorylaw40_PreemptWorst.j3 k3 l0 a1 t285 t286 (decide (t286 < t293))))) = some r := by rw [if_pos rfl] at H; exact H
                          clear H
                          have H := H1
                          clear H1
                          by_cases c26 : t286 > x12_3
                          · rw [if_pos c26] at H
                            have c26b0 : decide (x12_3 < t286) = true := decide_eq_true c26
                            clear c26
                            have H' := Aside0.mk H
                            clear H
                            go_wp2
                            go_meet
                            case rel => exact ⟨_, (true), (by first | rfl | (simp; done) | (simp [*]; done)), H', ⟨by have := HJ6.out; have := HJ13.out; have := HK3.out; first | omega | exact Nat.le_refl _⟩, ⟨by repeat (first | (with_reducible first | exact HB.out | apply below_alloc | apply pw_below_drewN | apply below_drew1) | exact HB.out)⟩⟩
                          · rw [if_neg c26] at H
                            have c26b0 : decide (x12_3 < t286) = false := decide_eq_false c26
                            clear c26
                            replace H := Option.bind_eq_some_iff.mp H
                            obtain ⟨t293, A270, H⟩ := H
                            replace H : (observatorylaw40_PreemptWorst.j3 k3 l0 a1 t285 t286 (decide (t286 < t293))) = some r := H
                            have A27 := Aside0.mk A270
                            clear A270
                            have H' := Aside0.mk H
                            clear H
                            go_wp2_with (first | (go_at_call 18; (with_reducible refine (observatorylaw40_cost.calls k3 _ _ l0 a1 (wrap64 (a3)) t293 _ ?side1 ?side2 A27.out).mono ?_); (case side1 => repeat (first | exact (Kd.C_below HR0.out HB.out) | (with_reducible refine Kd.C_alloc ?_ _) | (with_reducible refine Kd.C_drewN ?_ _) | (with_reducible refine Kd.C_drew ?_))); (case side2 => exact HC0.out); rintro e w' ⟨rfl, ⟨nd, rfl⟩⟩))
                            go_meet
                            case rel => exact ⟨_, (decide (t286 < t293)), (by first | rfl | (simp; done) | (simp [*]; done)), H', ⟨by have := HJ6.out; have := HJ13.out; have := HK3.out; first | omega | exact Nat.le_refl _⟩, ⟨by repeat (first | (with_reducible first | exact HB.out | apply below_alloc | apply pw_below_drewN | apply below_drew1) | exact HB.out)⟩⟩
                        · replace c25 := Bool.eq_false_iff.mpr c25
                          subst c25
                          have H1 : (observatorylaw40_PreemptWorst.j3 k3 l0 a1 t285 t286 true) = some r := by rw [if_neg (show ¬ (false = true) by decide)] at H; exact H
                          clear H
                          have H := H1
                          clear H1
                          have H' := Aside0.mk H
                          clear H
                          go_wp2
                          go_meet
                          case rel => exact ⟨_, (true), (by first | rfl | (simp; done) | (simp [*]; done)), H', ⟨by have := HJ6.out; have := HJ13.out; have := HK3.out; first | omega | exact Nat.le_refl _⟩, ⟨by repeat (first | (with_reducible first | exact HB.out | apply below_alloc | apply pw_below_drewN | apply below_drew1) | exact HB.out)⟩⟩
                    · rw [if_neg c23] at H
                      have c23b0 : (t292 == 0) = false := beq_eq_false_iff_ne.mpr c23
                      have c23b1 : (t292 != 0) = true := bne_iff_ne.mpr c23
                      (first | rw [c23b0] | (simp only [i64_w, i32_w]; rw [c23b0]) | skip)
                      by_cases c28 : x13_3 = true
                      · subst c28
                        have H1 : (if t286 > x12_3 then (observatorylaw40_PreemptWorst.j3 k3 l0 a1 t285 t286 true) else ((observatorylaw40_cost.f k3 l0 a1 (wrap64 (a3))).bind fun t294 => (observatorylaw40_PreemptWorst.j3 k3 l0 a1 t285 t286 (decide (t286 < t294))))) = some r := by rw [if_pos rfl] at H; exact H
                        clear H
                        have H := H1
                        clear H1
                        by_cases c29 : t286 > x12_3
                        · rw [if_pos c29] at H
                          have c29b0 : decide (x12_3 < t286) = true := decide_eq_true c29
                          clear c29
                          have H' := Aside0.mk H
                          clear H
                          go_wp2
                          go_meet
                          case rel => exact ⟨_, (true), (by first | rfl | (simp; done) | (simp [*]; done)), H', ⟨by have := HJ6.out; have := HJ13.out; have := HK3.out; first | omega | exact Nat.le_refl _⟩, ⟨by repeat (first | (with_reducible first | exact HB.out | apply below_alloc | apply pw_below_drewN | apply below_drew1) | exact HB.out)⟩⟩
                        · rw [if_neg c29] at H
                          have c29b0 : decide (x12_3 < t286) = false := decide_eq_false c29
                          clear c29
                          replace H := Option.bind_eq_some_iff.mp H
                          obtain ⟨t294, A300, H⟩ := H
                          replace H : (observatorylaw40_PreemptWorst.j3 k3 l0 a1 t285 t286 (decide (t286 < t294))) = some r := H
                          have A30 := Aside0.mk A300
                          clear A300
                          have H' := Aside0.mk H
                          clear H
                          go_wp2_with (first | (go_at_call 18; (with_reducible refine (observatorylaw40_cost.calls k3 _ _ l0 a1 (wrap64 (a3)) t294 _ ?side1 ?side2 A30.out).mono ?_); (case side1 => repeat (first | exact (Kd.C_below HR0.out HB.out) | (with_reducible refine Kd.C_alloc ?_ _) | (with_reducible refine Kd.C_drewN ?_ _) | (with_reducible refine Kd.C_drew ?_))); (case side2 => exact HC0.out); rintro e w' ⟨rfl, ⟨nd, rfl⟩⟩))
                          go_meet
                          case rel => exact ⟨_, (decide (t286 < t294)), (by first | rfl | (simp; done) | (simp [*]; done)), H', ⟨by have := HJ6.out; have := HJ13.out; have := HK3.out; first | omega | exact Nat.le_refl _⟩, ⟨by repeat (first | (with_reducible first | exact HB.out | apply below_alloc | apply pw_below_drewN | apply below_drew1) | exact HB.out)⟩⟩
                      · replace c28 := Bool.eq_false_iff.mpr c28
                        subst c28
                        have H1 : (observatorylaw40_PreemptWorst.j3 k3 l0 a1 t285 t286 true) = some r := by rw [if_neg (show ¬ (false = true) by decide)] at H; exact H
                        clear H
                        have H := H1
                        clear H1
                        have H' := Aside0.mk H
                        clear H
                        go_wp2
                        go_meet
                        case rel => exact ⟨_, (true), (by first | rfl | (simp; done) | (simp [*]; done)), H', ⟨by have := HJ6.out; have := HJ13.out; have := HK3.out; first | omega | exact Nat.le_refl _⟩, ⟨by repeat (first | (with_reducible first | exact HB.out | apply below_alloc | apply pw_below_drewN | apply below_drew1) | exact HB.out)⟩⟩
                  case rest =>
                    clear HC21
                    try clear c1
                    try clear c2
                    try clear p2
                    try clear q2
                    try clear hx2
                    try clear p6
                    try clear c8
                    try clear c9
                    try clear c10
                    try clear c10b0
                    try clear c10b1
                    try clear c11
                    try clear c12
                    try clear c13
                    try clear c13b0
                    try clear c13b1
                    try clear c15
                    try clear c15b0
                    try clear c15b1
                    try clear c15b2
                    try clear c16
                    try clear c16b0
                    try clear c17
                    try clear c17b0
                    try clear c18
                    try clear c23
                    try clear c23b0
                    try clear c23b1
                    try clear c24
                    try clear c24b0
                    try clear c25
                    try clear c26
                    try clear c26b0
                    try clear c28
                    try clear p28
                    try clear q28
                    try clear hx28
                    try clear c29
                    try clear c29b0
                    try clear hx288_0
                    try clear hx288_1
                    try clear hx289_0
                    try clear hx289_1
                    try clear p2
                    try clear p288
                    try clear p289
                    try clear q288
                    try clear q289
                    obtain ⟨kq, x108_20, rfl, HA, HJ20, HB⟩ := hcut
                    cases kq with
                    | zero => exact absurd HA.out (by simp [observatorylaw40_PreemptWorst.j3])
                    | succ kj20 =>
                      have H := HA.out
                      clear HA
                      simp only [observatorylaw40_PreemptWorst.j3] at H
                      by_cases c31 : x108_20 = true
                      · subst c31
                        have H1 : (some false) = some r := by rw [if_pos rfl] at H; exact H
                        clear H
                        have H := H1
                        clear H1
                        exact absurd ((Option.some.inj H).trans HT_.out) (by decide)
                      · replace c31 := Bool.eq_false_iff.mpr c31
                        subst c31
                        have H1 : (if (l0.length : Int) = 0 then (some t285) else (if 0 ≤ (wrap64 ((l0.length : Int) - 1)) then (if (wrap64 ((l0.length : Int) - 1)) ≤ (l0.length : Int) then ((preempt_Worst.f kj20 (l0.take ((wrap64 ((l0.length : Int) - 1)) : Int).toNat) a1).bind fun bt299 => (if t285 = true then (if bt299.2 = 0 then (if bt299.1 ≤ t286 then (if (wrap64 ((l0.length : Int) - 1)) < (l0.length : Int) then (some (decide (t286 ≥ ((rd_T37 l0 (wrap64 ((l0.length : Int) - 1))).f1)))) else (none)) else (some false)) else (some false)) else (some false))) else (none)) else (none))) = some r := by rw [if_neg (show ¬ (false = true) by decide)] at H; exact H
                        clear H
                        have H := H1
                        clear H1
                        by_cases c32 : (l0.length : Int) = 0
                        · rw [if_pos c32] at H
                          have c32b0 : ((l0.length : Int) == 0) = true := beq_iff_eq.mpr c32
                          have c32b1 : ((l0.length : Int) != 0) = false := bne_eq_false_iff_eq.mpr c32
                          clear c32
                          obtain rfl := Option.some.inj H
                          go_wp2
                          go_ret
                          exact ⟨by first | rfl | (simp [errW_none, errW_some] <;> rfl) | (simp [*, errW_none, errW_some] <;> rfl), by repeat (first | (with_reducible first | exact HB.out | apply below_alloc | apply pw_below_drewN | apply below_drew1) | exact HB.out)⟩
                        · rw [if_neg c32] at H
                          have c32b0 : ((l0.length : Int) == 0) = false := beq_eq_false_iff_ne.mpr c32
                          have c32b1 : ((l0.length : Int) != 0) = true := bne_iff_ne.mpr c32
                          have c32b2 : ¬ (l0 = []) := fun h_ => c32 (by rw [h_]; rfl)
                          obtain ⟨ji33, hji33⟩ : ∃ j_ : Int, (wrap64 ((l0.length : Int) - 1)) = j_ := ⟨_, rfl⟩
                          replace H : (if 0 ≤ (ji33) then (if (ji33) ≤ (l0.length : Int) then ((preempt_Worst.f kj20 (l0.take ((ji33) : Int).toNat) a1).bind fun bt299 => (if t285 = true then (if bt299.2 = 0 then (if bt299.1 ≤ t286 then (if (ji33) < (l0.length : Int) then (some (decide (t286 ≥ ((rd_T37 l0 (ji33)).f1)))) else (none)) else (some false)) else (some false)) else (some false))) else (none)) else (none)) = some r := by first | (rw [hji33] at H; exact H) | (simp only [hji33] at H ⊢; exact H)
                          have hji33w : (IntKind.i64.wrap ((l0.length : Int) - 1)) = ji33 := (i64_w _).trans hji33
                          by_cases c34 : 0 ≤ (ji33)
                          · rw [if_pos c34] at H
                            have c34b0 := eq_true c34
                            have c34b1 : decide (0 ≤ (ji33)) = true := decide_eq_true c34
                            clear c34
                            by_cases c35 : (ji33) ≤ (l0.length : Int)
                            · rw [if_pos c35] at H
                              have c35b0 := eq_true c35
                              have c35b1 : decide ((ji33) ≤ (l0.length : Int)) = true := decide_eq_true c35
                              clear c35
                              obtain ⟨y295, hy295⟩ : ∃ y_ : List (S37), y_ = (l0.take ((ji33) : Int).toNat) := ⟨_, rfl⟩
                              replace H : ((preempt_Worst.f kj20 y295 a1).bind fun bt299 => (if t285 = true then (if bt299.2 = 0 then (if bt299.1 ≤ t286 then (if (ji33) < (l0.length : Int) then (some (decide (t286 ≥ ((rd_T37 l0 (ji33)).f1)))) else (none)) else (some false)) else (some false)) else (some false))) = some r := by first | (rw [hy295]; with_reducible exact H) | (have H2_ := (Option.bind_some _ _).symm.trans H; rw [hy295]; with_reducible exact H2_) | (have H2_ := (Option.bind_some _ _).symm.trans H; with_reducible exact H2_) | with_reducible exact H | (rw [hy295]; exact H) | exact H
                              have Ny295 := Aside0.mk hy295
                              clear hy295
                              replace H := Option.bind_eq_some_iff.mp H
                              obtain ⟨⟨t299, t300⟩, A360, H⟩ := H
                              replace H : (if t285 = true then (if t300 = 0 then (if t299 ≤ t286 then (if (ji33) < (l0.length : Int) then (some (decide (t286 ≥ ((rd_T37 l0 (ji33)).f1)))) else (none)) else (some false)) else (some false)) else (some false)) = some r := H
                              have A36 := Aside0.mk A360
                              clear A360
                              by_cases c37 : t285 = true
                              · subst c37
                                have H1 : (if t300 = 0 then (if t299 ≤ t286 then (if (ji33) < (l0.length : Int) then (some (decide (t286 ≥ ((rd_T37 l0 (ji33)).f1)))) else (none)) else (some false)) else (some false)) = some r := by rw [if_pos rfl] at H; exact H
                                clear H
                                have H := H1
                                clear H1
                                by_cases c38 : t300 = 0
                                · rw [if_pos c38] at H
                                  have c38b0 : (t300 == 0) = true := beq_iff_eq.mpr c38
                                  have c38b1 : (t300 != 0) = false := bne_eq_false_iff_eq.mpr c38
                                  clear c38
                                  by_cases c39 : t299 ≤ t286
                                  · rw [if_pos c39] at H
                                    have c39b0 : decide (t299 ≤ t286) = true := decide_eq_true c39
                                    clear c39
                                    by_cases c40 : (ji33) < (l0.length : Int)
                                    · rw [if_pos c40] at H
                                      have c40b0 : decide ((ji33) < (l0.length : Int)) = true := decide_eq_true c40
                                      clear c40
                                      obtain rfl := Option.some.inj H
                                      have q41 : ((ji33) : Int) ≤ ((l0.length : Int) : Int) := of_decide_eq_true (by first | (with_reducible assumption) | assumption)
                                      obtain ⟨i041, hi041, _, hsz41, _⟩ := info_parts info37
                                      have hroom41 : l0.length ≤ c0 := HC0.out
                                      have hC41 : Kd.C k37 _ A0 l0.length l0 := HR0.out
                                      have hcut41 := cut_to (P := Try.prog) 22 37 .i64 Try.underlying22 hi041 A0 l0.length c0 (ji33) (of_decide_eq_true (by first | (with_reducible assumption) | assumption)) q41 hroom41
                                      have hr41 := Kd.C_take (m := ((ji33) : Int).toNat) hC41 (by omega)
                                      have hy41 : y295.length = ((ji33) : Int).toNat := (by rw [Ny295.out, List.length_take]; omega)
                                      rw [← Ny295.out] at hr41
                                      rw [← hy41] at hcut41
                                      have HR298 := Aside0.mk hr41
                                      have HC298 := Aside0.mk (show y295.length ≤ c0 from by omega)
                                      clear hr41 hC41 hroom41 hi041 hsz41
                                      have KY41 := Aside0.mk hy41
                                      clear hy41
                                      replace q41 := eq_true q41
                                      go_wp2_with (first | ((with_reducible refine gate_callee (f := 12) rfl ?_); refine goesL_ (some 120) rfl rfl Try.func12 (by kernel_rfl) rfl #[.slice A0 y295.length c0, .int .i64 a1] rfl (by (try simp only [List.map_toArray, List.map_cons, List.map_nil]); first | done | rfl | (simp only [List.length_drop, List.length_take]; rfl)) ?_; (with_reducible refine (preempt_Worst.calls kj20 _ _ y295 a1 t299 t300 _ ?side1 ?side2 A36.out).mono ?_); (case side1 => repeat (first | exact (Kd.C_below HR298.out HB.out) | (with_reducible refine Kd.C_alloc ?_ _) | (with_reducible refine Kd.C_drewN ?_ _) | (with_reducible refine Kd.C_drew ?_))); (case side2 => exact HC298.out); rintro e w42 ⟨rfl, hb⟩; refine ⟨_, rfl, ?_⟩; have n0_ := Aside0.mk (below_step (by repeat (first | (with_reducible first | exact HB.out | apply below_alloc | apply pw_below_drewN | apply below_drew1) | exact HB.out)) hb); clear HB; have HB := n0_; clear n0_; (try clear hb); (try clear hb2); (try clear hk); (try clear hi); have p301 : 0 ≤ ((ji33) : Int) := of_decide_eq_true (by first | (with_reducible assumption) | assumption); have q301 : (ji33) < (l0.length : Int) := of_decide_eq_true (by first | (with_reducible assumption) | assumption); obtain ⟨ad301, e301, hx301_0, hx301_1⟩ := at_T37 HR0.out (ji33) p301 q301; cases e301; replace hx301_0 := (HB.out.cell (World.block_lt_of_cell? w _ hx301_0)).trans hx301_0; replace hx301_1 := (HB.out.cell (World.block_lt_of_cell? w _ hx301_1)).trans hx301_1; replace p301 := eq_true p301; replace q301 := eq_true q301))
                                      go_ret
                                      exact ⟨by first | rfl | (simp [errW_none, errW_some] <;> rfl) | (simp only [← hji33]; first | rfl | (simp [errW_none, errW_some] <;> rfl)) | (simp [*, errW_none, errW_some] <;> rfl), by repeat (first | (with_reducible first | exact HB.out | apply below_alloc | apply pw_below_drewN | apply below_drew1) | exact HB.out)⟩
                                    · rw [if_neg c40] at H
                                      exact absurd H (by simp)
                                  · rw [if_neg c39] at H
                                    have c39b0 : decide (t299 ≤ t286) = false := decide_eq_false c39
                                    clear c39
                                    exact absurd ((Option.some.inj H).trans HT_.out) (by decide)
                                · rw [if_neg c38] at H
                                  have c38b0 : (t300 == 0) = false := beq_eq_false_iff_ne.mpr c38
                                  have c38b1 : (t300 != 0) = true := bne_iff_ne.mpr c38
                                  exact absurd ((Option.some.inj H).trans HT_.out) (by decide)
                              · replace c37 := Bool.eq_false_iff.mpr c37
                                subst c37
                                have H1 : (some false) = some r := by rw [if_neg (show ¬ (false = true) by decide)] at H; exact H
                                clear H
                                have H := H1
                                clear H1
                                exact absurd ((Option.some.inj H).trans HT_.out) (by decide)
                            · rw [if_neg c35] at H
                              exact absurd H (by simp)
                          · rw [if_neg c34] at H
                            exact absurd H (by simp)

end Go.Proofs.Ytmndechaeaidcaa.Px
