/- The law DetectorAccurate, walked: without a ghost and an offset an estimate is at most the light, and less by less than 1000 / Gain + 1. -/
import Derived.Test.YtgagnoijnhhegaaExtE
import Derived.Test.YtgagnoijnhhegaaExtF
namespace Go.Proofs.Ytgagnoijnhhegaa.Px
open Go.RowKit Go.Proofs.YtgagnoijnhhegaaW.PrintWords Go.Proofs.YtgagnoijnhhegaaW.PrintLast Go.Proofs.YtgagnoijnhhegaaW.PrintMore
attribute [local go_sem] max2_int min2_int max_two min_two max_three min_three max_four min_four World.size_setCell
attribute [local go_sem high] eqA25 eqM27
set_option linter.unusedVariables false
set_option linter.unusedSimpArgs false
/-- What is known of one cell: bad; or its estimate is near the light; or it is full. -/
def AccF (g f x : Int) (bad : Bool) (e p : Int) (v : Bool) : Prop :=
  (bad = true ∧ v = false) ∨ (bad = false ∧ v = true ∧ e < f ∧ p ≤ x ∧ 0 ≤ p ∧ x ≤ 1000000 ∧ (x - p - 1) * g < 1000 ∧ -10000 ≤ (x - p - 1) * g) ∨ (bad = false ∧ v = false ∧ ¬ e < f)
theorem accF {g b d f x : Int} (bad : Bool) (g1 : 1 ≤ g) (g2 : g ≤ 10000) (b1 : 0 ≤ b) (d1 : 0 ≤ d) (f1 : 1 ≤ f) (x1 : 0 ≤ x) (x2 : x ≤ 1000000) :
    AccF g f x bad (clp (expo bad g b d x 0 0) f) (red (okc bad (clp (expo bad g b d x 0 0) f) f) (clp (expo bad g b d x 0 0) f) g b d) (okc bad (clp (expo bad g b d x 0 0) f) f) := by
  unfold AccF
  cases bad with
  | true => exact .inl ⟨rfl, rfl⟩
  | false =>
    have hm : 0 ≤ x * g := Int.mul_nonneg x1 (by omega)
    have hq0 : 0 ≤ x * g / 1000 := Int.ediv_nonneg hm (by omega)
    have he : expo false g b d x 0 0 = b + d + x * g / 1000 := by unfold expo; simp
    rw [he]
    by_cases h : b + d + x * g / 1000 < f
    · have hc : clp (b + d + x * g / 1000) f = b + d + x * g / 1000 := by unfold clp mx mn; (repeat' split) <;> omega
      rw [hc]
      have hv : okc false (b + d + x * g / 1000) f = true := by simp [okc, h]
      rw [hv]
      have hr : red true (b + d + x * g / 1000) g b d = x * g / 1000 * 1000 / g := by
        unfold red mx
        rw [if_pos rfl]
        have : b + d + x * g / 1000 - b - d = x * g / 1000 := by omega
        rw [this]
        split
        · rfl
        · have h0 : x * g / 1000 = 0 := by omega
          rw [h0]
      rw [hr]
      generalize hq : x * g / 1000 = q at *
      have q1 : q * 1000 ≤ x * g := by omega
      have q2 : x * g < q * 1000 + 1000 := by omega
      have p0 : 0 ≤ q * 1000 / g := Int.ediv_nonneg (by omega) (by omega)
      have p1 : q * 1000 / g * g ≤ q * 1000 := Int.ediv_mul_le _ (by omega)
      have p2 : q * 1000 < (q * 1000 / g + 1) * g := Int.lt_ediv_add_one_mul_self _ (by omega)
      have px : q * 1000 / g ≤ x := by
        have h1 : q * 1000 / g ≤ x * g / g := Int.ediv_le_ediv (by omega) q1
        rwa [Int.mul_ediv_cancel _ (by omega)] at h1
      have e1 : (x - q * 1000 / g - 1) * g = x * g - q * 1000 / g * g - g := by rw [Int.sub_mul, Int.sub_mul, Int.one_mul]
      have e2 : (q * 1000 / g + 1) * g = q * 1000 / g * g + g := by rw [Int.add_mul, Int.one_mul]
      rw [e2] at p2
      refine .inr (.inl ⟨rfl, rfl, h, px, p0, x2, ?_, ?_⟩)
      · rw [e1]; omega
      · rw [e1]; omega
    · have hc : ¬ clp (b + d + x * g / 1000) f < f := by unfold clp mx mn; (repeat' split) <;> omega
      refine .inr (.inr ⟨rfl, ?_, hc⟩)
      unfold okc
      rw [decide_eq_false hc]
      rfl
set_option maxHeartbeats 8000000 in
theorem accurate_ok (a0_0 a0_1 a0_2 a0_3 a0_4 : Int) (a1_0 a1_1 a1_2 a1_3 : Int) (a2_0 a2_1 a2_2 a2_3 : Bool) (e0 e1 e2 e3 p0 p1 p2 p3 : Int) (v0 v1 v2 v3 : Bool) (w : World) (hE_ : detector_Expose.f a0_0 a0_1 a0_2 a0_3 a0_4 a1_0 a1_1 a1_2 a1_3 0 0 0 0 0 a2_0 a2_1 a2_2 a2_3 = some (e0, e1, e2, e3, 0)) (hR_ : detector_Reduce.f a0_0 a0_1 a0_2 a0_3 a0_4 e0 e1 e2 e3 a2_0 a2_1 a2_2 a2_3 = some (p0, p1, p2, p3, v0, v1, v2, v3, 0)) (g1 : 1 ≤ a0_0) (g2 : a0_0 ≤ 10000) (F0_ : AccF a0_0 a0_3 a1_0 a2_0 e0 p0 v0) (F1_ : AccF a0_0 a0_3 a1_1 a2_1 e1 p1 v1) (F2_ : AccF a0_0 a0_3 a1_2 a2_2 e2 p2 v2) (F3_ : AccF a0_0 a0_3 a1_3 a2_3 e3 p3 v3) :
    Calls Try.prog 7 #[.agg #[.int .i64 a0_0, .int .i64 a0_1, .int .i64 a0_2, .int .i64 a0_3, .int .i64 a0_4], .agg #[.int .i64 a1_0, .int .i64 a1_1, .int .i64 a1_2, .int .i64 a1_3], .agg #[.bool a2_0, .bool a2_1, .bool a2_2, .bool a2_3]] w fun e w' => e = .returned (.bool true) ∧ Below w.heap.size w w' := by
  have hE := Aside0.mk hE_
  clear hE_
  have hR := Aside0.mk hR_
  clear hR_
  have F0 := Aside0.mk F0_
  clear F0_
  have F1 := Aside0.mk F1_
  clear F1_
  have F2 := Aside0.mk F2_
  clear F2_
  have F3 := Aside0.mk F3_
  clear F3_
  have hu23 := Try.underlying23
  have hu25 := Try.underlying25
  have hu27 := Try.underlying27
  go_enter Try.func7, Try.ntmps7
  go_wp2_with fail
  refine (observatorylaw15_head.calls true _ rfl).mono ?_
  rintro e w0 ⟨rfl, hb0⟩
  obtain ⟨hc0, hf0⟩ := bcell hb0
  have z0_0 : w.heap.size < w0.heap.size := by have := hb0.size; (try simp at this); omega
  have z0_1 : w.heap.size + 1 < w0.heap.size := by have := hb0.size; (try simp at this); omega
  have z0_2 : w.heap.size + 1 + 1 < w0.heap.size := by have := hb0.size; (try simp at this); omega
  go_wp2_with fail
  refine (detector_Expose.calls a0_0 a0_1 a0_2 a0_3 a0_4 a1_0 a1_1 a1_2 a1_3 0 0 0 0 0 a2_0 a2_1 a2_2 a2_3 e0 e1 e2 e3 0 _ hE.out).mono ?_
  rintro e w1 ⟨rfl, hb1⟩
  obtain ⟨hc1, hf1⟩ := bcell hb1
  have z1_0 : w.heap.size < w1.heap.size := by have := hb1.size; (try simp at this); omega
  have z1_1 : w.heap.size + 1 < w1.heap.size := by have := hb1.size; (try simp at this); omega
  have z1_2 : w.heap.size + 1 + 1 < w1.heap.size := by have := hb1.size; (try simp at this); omega
  go_wp2_with fail
  refine (detector_Reduce.calls a0_0 a0_1 a0_2 a0_3 a0_4 e0 e1 e2 e3 a2_0 a2_1 a2_2 a2_3 p0 p1 p2 p3 v0 v1 v2 v3 0 _ hR.out).mono ?_
  rintro e w2 ⟨rfl, hb2⟩
  obtain ⟨hc2, hf2⟩ := bcell hb2
  have z2_0 : w.heap.size < w2.heap.size := by have := hb2.size; (try simp at this); omega
  have z2_1 : w.heap.size + 1 < w2.heap.size := by have := hb2.size; (try simp at this); omega
  have z2_2 : w.heap.size + 1 + 1 < w2.heap.size := by have := hb2.size; (try simp at this); omega
  have z2_3 : w1.heap.size < w2.heap.size := by have := hb2.size; (try simp at this); omega
  have y2_0 : w.heap.size < w2.heap.size + 1 + 1 := by omega
  have y2_1 : w.heap.size + 1 < w2.heap.size + 1 + 1 := by omega
  have y2_2 : w.heap.size + 1 + 1 < w2.heap.size + 1 + 1 := by omega
  have y2_3 : w1.heap.size < w2.heap.size + 1 + 1 := by omega
  have y2_4 : w2.heap.size < w2.heap.size + 1 + 1 := by omega
  have y2_5 : w2.heap.size + 1 < w2.heap.size + 1 + 1 := by omega
  go_wp2
  go_loopw [13] (fun i wr => ∃ k : Int, 0 ≤ k ∧ k ≤ 4 ∧ i = .int .i64 k ∧ Aside0 (∃ n, wr = ((w2.alloc (.cells #[.int .i64 p0, .int .i64 p1, .int .i64 p2, .int .i64 p3] 25)).alloc (.cells #[.bool v0, .bool v1, .bool v2, .bool v3] 27)).drewN n)) (fun i _ => 4 - (intOf i).toNat)
  case atStart => exact ⟨0, by omega, by omega, rfl, ⟨0, rfl⟩⟩
  case round =>
    obtain ⟨k, hk0, hk, rfl, ⟨n, rfl⟩⟩ := hrel
    have hk5 : k = 0 ∨ k = 1 ∨ k = 2 ∨ k = 3 ∨ k = 4 := by omega
    rcases hk5 with rfl | rfl | rfl | rfl | rfl
    · rcases F0.out with ⟨f1, f2⟩ | ⟨f1, f2, f3, f4, f5, f6, f7, f8⟩ | ⟨f1, f2, f3⟩
      · subst f1; subst f2
        go_wp2
        go_quiet (fail)
        go_wp2
        go_roundw
        case rel => exact ⟨1, by omega, by omega, rfl, ⟨⟨_, rfl⟩⟩⟩
        case measure => simp [intOf]
      · subst f1; subst f2
        have f3' : decide (e0 < a0_3) = true := decide_eq_true f3
        have f4' : decide (a1_0 < p0) = false := decide_eq_false (by omega)
        have f7' : decide (1000 ≤ (a1_0 - p0 - 1) * a0_0) = false := decide_eq_false (by omega)
        go_wp2
        go_quiet (fail)
        go_wp2
        go_roundw
        case rel => exact ⟨1, by omega, by omega, rfl, ⟨⟨_, rfl⟩⟩⟩
        case measure => simp [intOf]
      · subst f1; subst f2
        have f3' : decide (e0 < a0_3) = false := decide_eq_false f3
        go_wp2
        go_quiet (fail)
        go_wp2
        go_roundw
        case rel => exact ⟨1, by omega, by omega, rfl, ⟨⟨_, rfl⟩⟩⟩
        case measure => simp [intOf]
    · rcases F1.out with ⟨f1, f2⟩ | ⟨f1, f2, f3, f4, f5, f6, f7, f8⟩ | ⟨f1, f2, f3⟩
      · subst f1; subst f2
        go_wp2
        go_quiet (fail)
        go_wp2
        go_roundw
        case rel => exact ⟨2, by omega, by omega, rfl, ⟨⟨_, rfl⟩⟩⟩
        case measure => simp [intOf]
      · subst f1; subst f2
        have f3' : decide (e1 < a0_3) = true := decide_eq_true f3
        have f4' : decide (a1_1 < p1) = false := decide_eq_false (by omega)
        have f7' : decide (1000 ≤ (a1_1 - p1 - 1) * a0_0) = false := decide_eq_false (by omega)
        go_wp2
        go_quiet (fail)
        go_wp2
        go_roundw
        case rel => exact ⟨2, by omega, by omega, rfl, ⟨⟨_, rfl⟩⟩⟩
        case measure => simp [intOf]
      · subst f1; subst f2
        have f3' : decide (e1 < a0_3) = false := decide_eq_false f3
        go_wp2
        go_quiet (fail)
        go_wp2
        go_roundw
        case rel => exact ⟨2, by omega, by omega, rfl, ⟨⟨_, rfl⟩⟩⟩
        case measure => simp [intOf]
    · rcases F2.out with ⟨f1, f2⟩ | ⟨f1, f2, f3, f4, f5, f6, f7, f8⟩ | ⟨f1, f2, f3⟩
      · subst f1; subst f2
        go_wp2
        go_quiet (fail)
        go_wp2
        go_roundw
        case rel => exact ⟨3, by omega, by omega, rfl, ⟨⟨_, rfl⟩⟩⟩
        case measure => simp [intOf]
      · subst f1; subst f2
        have f3' : decide (e2 < a0_3) = true := decide_eq_true f3
        have f4' : decide (a1_2 < p2) = false := decide_eq_false (by omega)
        have f7' : decide (1000 ≤ (a1_2 - p2 - 1) * a0_0) = false := decide_eq_false (by omega)
        go_wp2
        go_quiet (fail)
        go_wp2
        go_roundw
        case rel => exact ⟨3, by omega, by omega, rfl, ⟨⟨_, rfl⟩⟩⟩
        case measure => simp [intOf]
      · subst f1; subst f2
        have f3' : decide (e2 < a0_3) = false := decide_eq_false f3
        go_wp2
        go_quiet (fail)
        go_wp2
        go_roundw
        case rel => exact ⟨3, by omega, by omega, rfl, ⟨⟨_, rfl⟩⟩⟩
        case measure => simp [intOf]
    · rcases F3.out with ⟨f1, f2⟩ | ⟨f1, f2, f3, f4, f5, f6, f7, f8⟩ | ⟨f1, f2, f3⟩
      · subst f1; subst f2
        go_wp2
        go_quiet (fail)
        go_wp2
        go_roundw
        case rel => exact ⟨4, by omega, by omega, rfl, ⟨⟨_, rfl⟩⟩⟩
        case measure => simp [intOf]
      · subst f1; subst f2
        have f3' : decide (e3 < a0_3) = true := decide_eq_true f3
        have f4' : decide (a1_3 < p3) = false := decide_eq_false (by omega)
        have f7' : decide (1000 ≤ (a1_3 - p3 - 1) * a0_0) = false := decide_eq_false (by omega)
        go_wp2
        go_quiet (fail)
        go_wp2
        go_roundw
        case rel => exact ⟨4, by omega, by omega, rfl, ⟨⟨_, rfl⟩⟩⟩
        case measure => simp [intOf]
      · subst f1; subst f2
        have f3' : decide (e3 < a0_3) = false := decide_eq_false f3
        go_wp2
        go_quiet (fail)
        go_wp2
        go_roundw
        case rel => exact ⟨4, by omega, by omega, rfl, ⟨⟨_, rfl⟩⟩⟩
        case measure => simp [intOf]
    · go_wp2
      go_ret
      exact ⟨rfl, by repeat (with_reducible first | exact Below.refl _ _ | (refine below_set ?_ (by first | omega | exact Nat.le_refl _)) | apply below_alloc | apply pw_below_drewN | apply below_drew1 | refine below_step ?_ hb2 | refine below_step ?_ hb1 | refine below_step ?_ hb0)⟩
set_option maxHeartbeats 2000000 in
theorem accurate_no (a0_0 a0_1 a0_2 a0_3 a0_4 : Int) (a1_0 a1_1 a1_2 a1_3 : Int) (a2_0 a2_1 a2_2 a2_3 : Bool) (w : World) (hE_ : detector_Expose.f a0_0 a0_1 a0_2 a0_3 a0_4 a1_0 a1_1 a1_2 a1_3 0 0 0 0 0 a2_0 a2_1 a2_2 a2_3 = some (0, 0, 0, 0, 1)) :
    Calls Try.prog 7 #[.agg #[.int .i64 a0_0, .int .i64 a0_1, .int .i64 a0_2, .int .i64 a0_3, .int .i64 a0_4], .agg #[.int .i64 a1_0, .int .i64 a1_1, .int .i64 a1_2, .int .i64 a1_3], .agg #[.bool a2_0, .bool a2_1, .bool a2_2, .bool a2_3]] w fun e w' => e = .returned (.bool true) ∧ Below w.heap.size w w' := by
  have hE := Aside0.mk hE_
  clear hE_
  have hu23 := Try.underlying23
  have hu25 := Try.underlying25
  have hu27 := Try.underlying27
  go_enter Try.func7, Try.ntmps7
  go_wp2_with fail
  refine (observatorylaw15_head.calls true _ rfl).mono ?_
  rintro e w0 ⟨rfl, hb0⟩
  obtain ⟨hc0, hf0⟩ := bcell hb0
  have z0_0 : w.heap.size < w0.heap.size := by have := hb0.size; (try simp at this); omega
  have z0_1 : w.heap.size + 1 < w0.heap.size := by have := hb0.size; (try simp at this); omega
  have z0_2 : w.heap.size + 1 + 1 < w0.heap.size := by have := hb0.size; (try simp at this); omega
  go_wp2_with fail
  refine (detector_Expose.calls a0_0 a0_1 a0_2 a0_3 a0_4 a1_0 a1_1 a1_2 a1_3 0 0 0 0 0 a2_0 a2_1 a2_2 a2_3 0 0 0 0 1 _ hE.out).mono ?_
  rintro e w1 ⟨rfl, hb1⟩
  obtain ⟨hc1, hf1⟩ := bcell hb1
  have z1_0 : w.heap.size < w1.heap.size := by have := hb1.size; (try simp at this); omega
  have z1_1 : w.heap.size + 1 < w1.heap.size := by have := hb1.size; (try simp at this); omega
  have z1_2 : w.heap.size + 1 + 1 < w1.heap.size := by have := hb1.size; (try simp at this); omega
  go_wp2
  go_ret
  exact ⟨rfl, by repeat (with_reducible first | exact Below.refl _ _ | (refine below_set ?_ (by first | omega | exact Nat.le_refl _)) | apply below_alloc | apply pw_below_drewN | apply below_drew1 | refine below_step ?_ hb1 | refine below_step ?_ hb0)⟩
theorem clp_bd (x : Int) {y : Int} (hy : 0 ≤ y) : 0 ≤ clp x y ∧ clp x y ≤ y := by unfold clp mx mn; (repeat' split) <;> omega
theorem clp_lig (x0 x1 x2 x3 : Int) {y : Int} (hy : 0 ≤ y) : ligB (clp x0 y) (clp x1 y) (clp x2 y) (clp x3 y) y = true := by
  have h0 := clp_bd x0 hy
  have h1 := clp_bd x1 hy
  have h2 := clp_bd x2 hy
  have h3 := clp_bd x3 hy
  unfold ligB
  exact decide_eq_true ⟨h0.1, h0.2, h1.1, h1.2, h2.1, h2.2, h3.1, h3.2⟩
theorem accurate_walk (a0_0 a0_1 a0_2 a0_3 a0_4 : Int) (a1_0 a1_1 a1_2 a1_3 : Int) (a2_0 a2_1 a2_2 a2_3 : Bool) (w : World) :
    Calls Try.prog 7 #[.agg #[.int .i64 a0_0, .int .i64 a0_1, .int .i64 a0_2, .int .i64 a0_3, .int .i64 a0_4], .agg #[.int .i64 a1_0, .int .i64 a1_1, .int .i64 a1_2, .int .i64 a1_3], .agg #[.bool a2_0, .bool a2_1, .bool a2_2, .bool a2_3]] w fun e w' => e = .returned (.bool true) ∧ Below w.heap.size w w' := by
  by_cases c : vldB a0_0 a0_1 a0_2 a0_3 a0_4 = true ∧ ligB a1_0 a1_1 a1_2 a1_3 1000000 = true ∧ ligB 0 0 0 0 1000000 = true ∧ offB 0 = true
  · have hE : detector_Expose.f a0_0 a0_1 a0_2 a0_3 a0_4 a1_0 a1_1 a1_2 a1_3 0 0 0 0 0 a2_0 a2_1 a2_2 a2_3 = some ((clp (expo a2_0 a0_0 a0_1 a0_2 a1_0 0 0) a0_3), (clp (expo a2_1 a0_0 a0_1 a0_2 a1_1 0 0) a0_3), (clp (expo a2_2 a0_0 a0_1 a0_2 a1_2 0 0) a0_3), (clp (expo a2_3 a0_0 a0_1 a0_2 a1_3 0 0) a0_3), 0) := by unfold detector_Expose.f; exact if_pos c
    obtain ⟨g1, g2, b1, b2, d1, d2, f1, f2, k1, k2⟩ := vld_bd c.1
    obtain ⟨x10, x20, x11, x21, x12, x22, x13, x23⟩ := lig_bd c.2.1
    have hR : detector_Reduce.f a0_0 a0_1 a0_2 a0_3 a0_4 (clp (expo a2_0 a0_0 a0_1 a0_2 a1_0 0 0) a0_3) (clp (expo a2_1 a0_0 a0_1 a0_2 a1_1 0 0) a0_3) (clp (expo a2_2 a0_0 a0_1 a0_2 a1_2 0 0) a0_3) (clp (expo a2_3 a0_0 a0_1 a0_2 a1_3 0 0) a0_3) a2_0 a2_1 a2_2 a2_3 = some (red (okc a2_0 (clp (expo a2_0 a0_0 a0_1 a0_2 a1_0 0 0) a0_3) a0_3) (clp (expo a2_0 a0_0 a0_1 a0_2 a1_0 0 0) a0_3) a0_0 a0_1 a0_2, red (okc a2_1 (clp (expo a2_1 a0_0 a0_1 a0_2 a1_1 0 0) a0_3) a0_3) (clp (expo a2_1 a0_0 a0_1 a0_2 a1_1 0 0) a0_3) a0_0 a0_1 a0_2, red (okc a2_2 (clp (expo a2_2 a0_0 a0_1 a0_2 a1_2 0 0) a0_3) a0_3) (clp (expo a2_2 a0_0 a0_1 a0_2 a1_2 0 0) a0_3) a0_0 a0_1 a0_2, red (okc a2_3 (clp (expo a2_3 a0_0 a0_1 a0_2 a1_3 0 0) a0_3) a0_3) (clp (expo a2_3 a0_0 a0_1 a0_2 a1_3 0 0) a0_3) a0_0 a0_1 a0_2, (okc a2_0 (clp (expo a2_0 a0_0 a0_1 a0_2 a1_0 0 0) a0_3) a0_3), (okc a2_1 (clp (expo a2_1 a0_0 a0_1 a0_2 a1_1 0 0) a0_3) a0_3), (okc a2_2 (clp (expo a2_2 a0_0 a0_1 a0_2 a1_2 0 0) a0_3) a0_3), (okc a2_3 (clp (expo a2_3 a0_0 a0_1 a0_2 a1_3 0 0) a0_3) a0_3), 0) := by
      unfold detector_Reduce.f
      exact if_pos (by rw [c.1, clp_lig _ _ _ _ (by omega)]; rfl)
    exact accurate_ok a0_0 a0_1 a0_2 a0_3 a0_4 a1_0 a1_1 a1_2 a1_3 a2_0 a2_1 a2_2 a2_3 _ _ _ _ _ _ _ _ _ _ _ _ w hE hR g1 g2 (accF a2_0 g1 g2 b1 d1 f1 x10 x20) (accF a2_1 g1 g2 b1 d1 f1 x11 x21) (accF a2_2 g1 g2 b1 d1 f1 x12 x22) (accF a2_3 g1 g2 b1 d1 f1 x13 x23)
  · exact accurate_no a0_0 a0_1 a0_2 a0_3 a0_4 a1_0 a1_1 a1_2 a1_3 a2_0 a2_1 a2_2 a2_3 w (by unfold detector_Expose.f; exact if_neg c)
end Go.Proofs.Ytgagnoijnhhegaa.Px
