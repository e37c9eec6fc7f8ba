/- The law DetectorMatchesReference, walked: what the two packages tell is the same, so the comparison is true. -/
import Derived.Test.YtgagnoijnhhegaaExtE
import Derived.Test.YtgagnoijnhhegaaExtF
import Derived.Test.YtgagnoijnhhegaaPxx19
import Derived.Deep.RegionHeld3
namespace Go.Proofs.Ytgagnoijnhhegaa.Px
open Go.RowKit Go.Proofs.YtgagnoijnhhegaaW.PrintWords Go.Proofs.YtgagnoijnhhegaaW.PrintLast Go.Proofs.YtgagnoijnhhegaaW.PrintMore
attribute [local go_sem] max2_int min2_int max_two min_two max_three min_three max_four min_four World.size_setCell
attribute [local go_sem high] eqA25 eqM27
set_option linter.unusedVariables false
set_option linter.unusedSimpArgs false
theorem expose_some (a0_0 a0_1 a0_2 a0_3 a0_4 a1_0 a1_1 a1_2 a1_3 a2_0 a2_1 a2_2 a2_3 a4 : Int) (a5_0 a5_1 a5_2 a5_3 : Bool) : ∃ r1 r2 r3 r4 r5, detector_Expose.f a0_0 a0_1 a0_2 a0_3 a0_4 a1_0 a1_1 a1_2 a1_3 a2_0 a2_1 a2_2 a2_3 a4 a5_0 a5_1 a5_2 a5_3 = some (r1, r2, r3, r4, r5) := by
  unfold detector_Expose.f
  split <;> exact ⟨_, _, _, _, _, rfl⟩
theorem ghost_some (a0_0 a0_1 a0_2 a0_3 a0_4 a3_0 a3_1 a3_2 a3_3 : Int) : ∃ r1 r2 r3 r4 r5, detector_Ghost.f a0_0 a0_1 a0_2 a0_3 a0_4 a3_0 a3_1 a3_2 a3_3 = some (r1, r2, r3, r4, r5) := by
  unfold detector_Ghost.f
  split <;> exact ⟨_, _, _, _, _, rfl⟩
theorem reduce_some (a0_0 a0_1 a0_2 a0_3 a0_4 a3_0 a3_1 a3_2 a3_3 : Int) (a5_0 a5_1 a5_2 a5_3 : Bool) : ∃ r1 r2 r3 r4 r5 r6 r7 r8 r9, detector_Reduce.f a0_0 a0_1 a0_2 a0_3 a0_4 a3_0 a3_1 a3_2 a3_3 a5_0 a5_1 a5_2 a5_3 = some (r1, r2, r3, r4, r5, r6, r7, r8, r9) := by
  unfold detector_Reduce.f
  split <;> exact ⟨_, _, _, _, _, _, _, _, _, rfl⟩
theorem gho_full (f k : Int) : gho f f k = f * k / 1000 := by unfold gho; rw [if_neg (by omega)]
theorem gho_less {r f k : Int} (h : ¬ r = f) (hr : r ≤ f) : gho r f k = 0 := by unfold gho; rw [if_pos (by omega)]
theorem ghost_same (a0_0 a0_1 a0_2 a0_3 a0_4 a3_0 a3_1 a3_2 a3_3 : Int) : observatoryref15_Ghost.f 5 a0_0 a0_1 a0_2 a0_3 a0_4 a3_0 a3_1 a3_2 a3_3 = detector_Ghost.f a0_0 a0_1 a0_2 a0_3 a0_4 a3_0 a3_1 a3_2 a3_3 := by
  unfold observatoryref15_Ghost.f detector_Ghost.f
  rw [rraw_eq]
  simp only [Option.bind_some]
  cases c : (vldB a0_0 a0_1 a0_2 a0_3 a0_4 && ligB a3_0 a3_1 a3_2 a3_3 a0_3)
  · rfl
  · simp only [Bool.and_eq_true] at c
    obtain ⟨g1, g2, b1, b2, d1, d2, f1, f2, k1, k2⟩ := vld_bd c.1
    obtain ⟨x10, x20, x11, x21, x12, x22, x13, x23⟩ := lig_bd c.2
    have m0 : 0 ≤ a0_3 * a0_4 := Int.mul_nonneg (by omega) (by omega)
    have m1 : a0_3 * a0_4 ≤ 65535000 := by
      have h : a0_3 * a0_4 ≤ 65535 * 1000 := Int.mul_le_mul f2 k2 (by omega) (by omega)
      omega
    have hW : wrap64 (Int.tdiv (wrap64 (a0_3 * a0_4)) 1000) = a0_3 * a0_4 / 1000 := by
      have h1 : wrap64 (a0_3 * a0_4) = a0_3 * a0_4 := by unfold wrap64; omega
      rw [h1, Int.tdiv_eq_ediv_of_nonneg m0]
      unfold wrap64; omega
    simp only [if_true]
    by_cases e0 : a3_0 = a0_3 <;> by_cases e1 : a3_1 = a0_3 <;> by_cases e2 : a3_2 = a0_3 <;> by_cases e3 : a3_3 = a0_3
    all_goals simp [observatoryref15_Ghost.l0, hW, e0, e1, e2, e3, gho_full, gho_less, x20, x21, x22, x23]
set_option maxHeartbeats 8000000 in
theorem matches_walk (a0_0 a0_1 a0_2 a0_3 a0_4 : Int) (a1_0 a1_1 a1_2 a1_3 : Int) (a2_0 a2_1 a2_2 a2_3 : Int) (a3_0 a3_1 a3_2 a3_3 : Int) (a4 : Int) (a5_0 a5_1 a5_2 a5_3 : Bool) (w : World) : Calls Try.prog 3 #[.agg #[.int .i64 a0_0, .int .i64 a0_1, .int .i64 a0_2, .int .i64 a0_3, .int .i64 a0_4], .agg #[.int .i64 a1_0, .int .i64 a1_1, .int .i64 a1_2, .int .i64 a1_3], .agg #[.int .i64 a2_0, .int .i64 a2_1, .int .i64 a2_2, .int .i64 a2_3], .agg #[.int .i64 a3_0, .int .i64 a3_1, .int .i64 a3_2, .int .i64 a3_3], .int .i64 a4, .agg #[.bool a5_0, .bool a5_1, .bool a5_2, .bool a5_3]] w fun e w' => e = .returned (.bool true) ∧ Below w.heap.size w w' := by
  obtain ⟨e1, e2, e3, e4, e5, hE_⟩ := expose_some a0_0 a0_1 a0_2 a0_3 a0_4 a1_0 a1_1 a1_2 a1_3 a2_0 a2_1 a2_2 a2_3 a4 a5_0 a5_1 a5_2 a5_3
  obtain ⟨c1, c2, c3, c4, c5, hG_⟩ := ghost_some a0_0 a0_1 a0_2 a0_3 a0_4 a3_0 a3_1 a3_2 a3_3
  obtain ⟨q1, q2, q3, q4, q5, q6, q7, q8, q9, hR_⟩ := reduce_some a0_0 a0_1 a0_2 a0_3 a0_4 a3_0 a3_1 a3_2 a3_3 a5_0 a5_1 a5_2 a5_3
  have hG2_ := (ghost_same a0_0 a0_1 a0_2 a0_3 a0_4 a3_0 a3_1 a3_2 a3_3).trans hG_
  obtain ⟨v, hv⟩ : ∃ v, vldB a0_0 a0_1 a0_2 a0_3 a0_4 = v := ⟨_, rfl⟩
  have hV_ := (val_eq a0_0 a0_1 a0_2 a0_3 a0_4).trans (by rw [hv])
  have hW_ := (rval_eq a0_0 a0_1 a0_2 a0_3 a0_4).trans (by rw [hv])
  clear hv
  have hE := Aside0.mk hE_
  clear hE_
  have hG := Aside0.mk hG_
  clear hG_
  have hR := Aside0.mk hR_
  clear hR_
  have hG2 := Aside0.mk hG2_
  clear hG2_
  have hV := Aside0.mk hV_
  clear hV_
  have hW := Aside0.mk hW_
  clear hW_
  have hu23 := Try.underlying23
  have hu25 := Try.underlying25
  have hu27 := Try.underlying27
  go_enter Try.func3, Try.ntmps3
  go_wp2_with fail
  refine (observatorylaw15_head.calls true _ rfl).mono ?_
  rintro e w0 ⟨rfl, hb0⟩
  obtain ⟨hc0, hf0⟩ := bcell hb0
  have z0_0 : w.heap.size < w0.heap.size := by have := hb0.size; (try simp at this); omega
  have z0_1 : w.heap.size + 1 < w0.heap.size := by have := hb0.size; (try simp at this); omega
  have z0_2 : w.heap.size + 1 + 1 < w0.heap.size := by have := hb0.size; (try simp at this); omega
  have z0_3 : w.heap.size + 1 + 1 + 1 < w0.heap.size := by have := hb0.size; (try simp at this); omega
  have z0_4 : w.heap.size + 1 + 1 + 1 + 1 < w0.heap.size := by have := hb0.size; (try simp at this); omega
  go_wp2_with fail
  refine (detector_Expose.calls a0_0 a0_1 a0_2 a0_3 a0_4 a1_0 a1_1 a1_2 a1_3 a2_0 a2_1 a2_2 a2_3 a4 a5_0 a5_1 a5_2 a5_3 e1 e2 e3 e4 e5 _ hE.out).mono ?_
  rintro e w1 ⟨rfl, hb1⟩
  obtain ⟨hc1, hf1⟩ := bcell hb1
  have z1_0 : w.heap.size < w1.heap.size := by have := hb1.size; (try simp at this); omega
  have z1_1 : w.heap.size + 1 < w1.heap.size := by have := hb1.size; (try simp at this); omega
  have z1_2 : w.heap.size + 1 + 1 < w1.heap.size := by have := hb1.size; (try simp at this); omega
  have z1_3 : w.heap.size + 1 + 1 + 1 < w1.heap.size := by have := hb1.size; (try simp at this); omega
  have z1_4 : w.heap.size + 1 + 1 + 1 + 1 < w1.heap.size := by have := hb1.size; (try simp at this); omega
  go_wp2_with fail
  refine (observatoryref15_Expose.calls a0_0 a0_1 a0_2 a0_3 a0_4 a1_0 a1_1 a1_2 a1_3 a2_0 a2_1 a2_2 a2_3 a4 a5_0 a5_1 a5_2 a5_3 e1 e2 e3 e4 e5 _ hE.out).mono ?_
  rintro e w2 ⟨rfl, hb2⟩
  obtain ⟨hc2, hf2⟩ := bcell hb2
  have z2_0 : w.heap.size < w2.heap.size := by have := hb2.size; (try simp at this); omega
  have z2_1 : w.heap.size + 1 < w2.heap.size := by have := hb2.size; (try simp at this); omega
  have z2_2 : w.heap.size + 1 + 1 < w2.heap.size := by have := hb2.size; (try simp at this); omega
  have z2_3 : w.heap.size + 1 + 1 + 1 < w2.heap.size := by have := hb2.size; (try simp at this); omega
  have z2_4 : w.heap.size + 1 + 1 + 1 + 1 < w2.heap.size := by have := hb2.size; (try simp at this); omega
  have z2_5 : w1.heap.size < w2.heap.size := by have := hb2.size; (try simp at this); omega
  go_wp2_with fail
  refine (detector_Ghost.calls a0_0 a0_1 a0_2 a0_3 a0_4 a3_0 a3_1 a3_2 a3_3 c1 c2 c3 c4 c5 _ hG.out).mono ?_
  rintro e w3 ⟨rfl, hb3⟩
  obtain ⟨hc3, hf3⟩ := bcell hb3
  have z3_0 : w.heap.size < w3.heap.size := by have := hb3.size; (try simp at this); omega
  have z3_1 : w.heap.size + 1 < w3.heap.size := by have := hb3.size; (try simp at this); omega
  have z3_2 : w.heap.size + 1 + 1 < w3.heap.size := by have := hb3.size; (try simp at this); omega
  have z3_3 : w.heap.size + 1 + 1 + 1 < w3.heap.size := by have := hb3.size; (try simp at this); omega
  have z3_4 : w.heap.size + 1 + 1 + 1 + 1 < w3.heap.size := by have := hb3.size; (try simp at this); omega
  have z3_5 : w1.heap.size < w3.heap.size := by have := hb3.size; (try simp at this); omega
  have z3_6 : w2.heap.size < w3.heap.size := by have := hb3.size; (try simp at this); omega
  go_wp2_with fail
  refine (observatoryref15_Ghost.calls 5 a0_0 a0_1 a0_2 a0_3 a0_4 a3_0 a3_1 a3_2 a3_3 c1 c2 c3 c4 c5 _ hG2.out).mono ?_
  rintro e w4 ⟨rfl, hb4⟩
  obtain ⟨hc4, hf4⟩ := bcell hb4
  have z4_0 : w.heap.size < w4.heap.size := by have := hb4.size; (try simp at this); omega
  have z4_1 : w.heap.size + 1 < w4.heap.size := by have := hb4.size; (try simp at this); omega
  have z4_2 : w.heap.size + 1 + 1 < w4.heap.size := by have := hb4.size; (try simp at this); omega
  have z4_3 : w.heap.size + 1 + 1 + 1 < w4.heap.size := by have := hb4.size; (try simp at this); omega
  have z4_4 : w.heap.size + 1 + 1 + 1 + 1 < w4.heap.size := by have := hb4.size; (try simp at this); omega
  have z4_5 : w1.heap.size < w4.heap.size := by have := hb4.size; (try simp at this); omega
  have z4_6 : w2.heap.size < w4.heap.size := by have := hb4.size; (try simp at this); omega
  have z4_7 : w3.heap.size < w4.heap.size := by have := hb4.size; (try simp at this); omega
  go_wp2_with fail
  refine (detector_Reduce.calls a0_0 a0_1 a0_2 a0_3 a0_4 a3_0 a3_1 a3_2 a3_3 a5_0 a5_1 a5_2 a5_3 q1 q2 q3 q4 q5 q6 q7 q8 q9 _ hR.out).mono ?_
  rintro e w5 ⟨rfl, hb5⟩
  obtain ⟨hc5, hf5⟩ := bcell hb5
  have z5_0 : w.heap.size < w5.heap.size := by have := hb5.size; (try simp at this); omega
  have z5_1 : w.heap.size + 1 < w5.heap.size := by have := hb5.size; (try simp at this); omega
  have z5_2 : w.heap.size + 1 + 1 < w5.heap.size := by have := hb5.size; (try simp at this); omega
  have z5_3 : w.heap.size + 1 + 1 + 1 < w5.heap.size := by have := hb5.size; (try simp at this); omega
  have z5_4 : w.heap.size + 1 + 1 + 1 + 1 < w5.heap.size := by have := hb5.size; (try simp at this); omega
  have z5_5 : w1.heap.size < w5.heap.size := by have := hb5.size; (try simp at this); omega
  have z5_6 : w2.heap.size < w5.heap.size := by have := hb5.size; (try simp at this); omega
  have z5_7 : w3.heap.size < w5.heap.size := by have := hb5.size; (try simp at this); omega
  have z5_8 : w4.heap.size < w5.heap.size := by have := hb5.size; (try simp at this); omega
  have y5_0 : w.heap.size < w5.heap.size + 1 + 1 := by omega
  have y5_1 : w.heap.size + 1 < w5.heap.size + 1 + 1 := by omega
  have y5_2 : w.heap.size + 1 + 1 < w5.heap.size + 1 + 1 := by omega
  have y5_3 : w.heap.size + 1 + 1 + 1 < w5.heap.size + 1 + 1 := by omega
  have y5_4 : w.heap.size + 1 + 1 + 1 + 1 < w5.heap.size + 1 + 1 := by omega
  have y5_5 : w1.heap.size < w5.heap.size + 1 + 1 := by omega
  have y5_6 : w2.heap.size < w5.heap.size + 1 + 1 := by omega
  have y5_7 : w3.heap.size < w5.heap.size + 1 + 1 := by omega
  have y5_8 : w4.heap.size < w5.heap.size + 1 + 1 := by omega
  have y5_9 : w5.heap.size < w5.heap.size + 1 + 1 := by omega
  have y5_10 : w5.heap.size + 1 < w5.heap.size + 1 + 1 := by omega
  go_wp2_with fail
  refine (observatoryref15_Reduce.calls a0_0 a0_1 a0_2 a0_3 a0_4 a3_0 a3_1 a3_2 a3_3 a5_0 a5_1 a5_2 a5_3 q1 q2 q3 q4 q5 q6 q7 q8 q9 _ hR.out).mono ?_
  rintro e w6 ⟨rfl, hb6⟩
  obtain ⟨hc6, hf6⟩ := bcell hb6
  have z6_0 : w.heap.size < w6.heap.size := by have := hb6.size; (try simp at this); omega
  have z6_1 : w.heap.size + 1 < w6.heap.size := by have := hb6.size; (try simp at this); omega
  have z6_2 : w.heap.size + 1 + 1 < w6.heap.size := by have := hb6.size; (try simp at this); omega
  have z6_3 : w.heap.size + 1 + 1 + 1 < w6.heap.size := by have := hb6.size; (try simp at this); omega
  have z6_4 : w.heap.size + 1 + 1 + 1 + 1 < w6.heap.size := by have := hb6.size; (try simp at this); omega
  have z6_5 : w1.heap.size < w6.heap.size := by have := hb6.size; (try simp at this); omega
  have z6_6 : w2.heap.size < w6.heap.size := by have := hb6.size; (try simp at this); omega
  have z6_7 : w3.heap.size < w6.heap.size := by have := hb6.size; (try simp at this); omega
  have z6_8 : w4.heap.size < w6.heap.size := by have := hb6.size; (try simp at this); omega
  have z6_9 : w5.heap.size < w6.heap.size := by have := hb6.size; (try simp at this); omega
  have z6_10 : w5.heap.size + 1 < w6.heap.size := by have := hb6.size; (try simp at this); omega
  have y6_0 : w.heap.size < w6.heap.size + 1 + 1 := by omega
  have y6_1 : w.heap.size + 1 < w6.heap.size + 1 + 1 := by omega
  have y6_2 : w.heap.size + 1 + 1 < w6.heap.size + 1 + 1 := by omega
  have y6_3 : w.heap.size + 1 + 1 + 1 < w6.heap.size + 1 + 1 := by omega
  have y6_4 : w.heap.size + 1 + 1 + 1 + 1 < w6.heap.size + 1 + 1 := by omega
  have y6_5 : w1.heap.size < w6.heap.size + 1 + 1 := by omega
  have y6_6 : w2.heap.size < w6.heap.size + 1 + 1 := by omega
  have y6_7 : w3.heap.size < w6.heap.size + 1 + 1 := by omega
  have y6_8 : w4.heap.size < w6.heap.size + 1 + 1 := by omega
  have y6_9 : w5.heap.size < w6.heap.size + 1 + 1 := by omega
  have y6_10 : w5.heap.size + 1 < w6.heap.size + 1 + 1 := by omega
  have y6_11 : w6.heap.size < w6.heap.size + 1 + 1 := by omega
  have y6_12 : w6.heap.size + 1 < w6.heap.size + 1 + 1 := by omega
  go_wp2
  go_region_held3 (fun w' => w'.cell? ⟨w.heap.size, 0, none⟩ = some (.int .i64 a0_0) ∧ w'.cell? ⟨w.heap.size, 1, none⟩ = some (.int .i64 a0_1) ∧ w'.cell? ⟨w.heap.size, 2, none⟩ = some (.int .i64 a0_2) ∧ w'.cell? ⟨w.heap.size, 3, none⟩ = some (.int .i64 a0_3) ∧ w'.cell? ⟨w.heap.size, 4, none⟩ = some (.int .i64 a0_4) ∧ w'.cell? ⟨w1.heap.size, 0, none⟩ = some (.int .i64 e1) ∧ w'.cell? ⟨w1.heap.size, 1, none⟩ = some (.int .i64 e2) ∧ w'.cell? ⟨w1.heap.size, 2, none⟩ = some (.int .i64 e3) ∧ w'.cell? ⟨w1.heap.size, 3, none⟩ = some (.int .i64 e4) ∧ w'.cell? ⟨w2.heap.size, 0, none⟩ = some (.int .i64 e1) ∧ w'.cell? ⟨w2.heap.size, 1, none⟩ = some (.int .i64 e2) ∧ w'.cell? ⟨w2.heap.size, 2, none⟩ = some (.int .i64 e3) ∧ w'.cell? ⟨w2.heap.size, 3, none⟩ = some (.int .i64 e4) ∧ w'.cell? ⟨w3.heap.size, 0, none⟩ = some (.int .i64 c1) ∧ w'.cell? ⟨w3.heap.size, 1, none⟩ = some (.int .i64 c2) ∧ w'.cell? ⟨w3.heap.size, 2, none⟩ = some (.int .i64 c3) ∧ w'.cell? ⟨w3.heap.size, 3, none⟩ = some (.int .i64 c4) ∧ w'.cell? ⟨w4.heap.size, 0, none⟩ = some (.int .i64 c1) ∧ w'.cell? ⟨w4.heap.size, 1, none⟩ = some (.int .i64 c2) ∧ w'.cell? ⟨w4.heap.size, 2, none⟩ = some (.int .i64 c3) ∧ w'.cell? ⟨w4.heap.size, 3, none⟩ = some (.int .i64 c4) ∧ w'.cell? ⟨w5.heap.size, 0, none⟩ = some (.int .i64 q1) ∧ w'.cell? ⟨w5.heap.size, 1, none⟩ = some (.int .i64 q2) ∧ w'.cell? ⟨w5.heap.size, 2, none⟩ = some (.int .i64 q3) ∧ w'.cell? ⟨w5.heap.size, 3, none⟩ = some (.int .i64 q4) ∧ w'.cell? ⟨w5.heap.size + 1, 0, none⟩ = some (.bool q5) ∧ w'.cell? ⟨w5.heap.size + 1, 1, none⟩ = some (.bool q6) ∧ w'.cell? ⟨w5.heap.size + 1, 2, none⟩ = some (.bool q7) ∧ w'.cell? ⟨w5.heap.size + 1, 3, none⟩ = some (.bool q8) ∧ w'.cell? ⟨w6.heap.size, 0, none⟩ = some (.int .i64 q1) ∧ w'.cell? ⟨w6.heap.size, 1, none⟩ = some (.int .i64 q2) ∧ w'.cell? ⟨w6.heap.size, 2, none⟩ = some (.int .i64 q3) ∧ w'.cell? ⟨w6.heap.size, 3, none⟩ = some (.int .i64 q4) ∧ w'.cell? ⟨w6.heap.size + 1, 0, none⟩ = some (.bool q5) ∧ w'.cell? ⟨w6.heap.size + 1, 1, none⟩ = some (.bool q6) ∧ w'.cell? ⟨w6.heap.size + 1, 2, none⟩ = some (.bool q7) ∧ w'.cell? ⟨w6.heap.size + 1, 3, none⟩ = some (.bool q8)) ((repeat' apply And.intro) <;> go_simp) (first | (go_at_call 16; refine (detector_Valid.calls a0_0 a0_1 a0_2 a0_3 a0_4 v _ hV.out).mono ?_; rintro e wa ⟨rfl, hba⟩; obtain ⟨hca, hfa⟩ := bcell hba; have za_0 : w.heap.size < wa.heap.size := (by have := hba.size; (try simp at this); omega); have za_1 : w.heap.size + 1 < wa.heap.size := (by have := hba.size; (try simp at this); omega); have za_2 : w.heap.size + 1 + 1 < wa.heap.size := (by have := hba.size; (try simp at this); omega); have za_3 : w.heap.size + 1 + 1 + 1 < wa.heap.size := (by have := hba.size; (try simp at this); omega); have za_4 : w.heap.size + 1 + 1 + 1 + 1 < wa.heap.size := (by have := hba.size; (try simp at this); omega); have za_5 : w1.heap.size < wa.heap.size := (by have := hba.size; (try simp at this); omega); have za_6 : w2.heap.size < wa.heap.size := (by have := hba.size; (try simp at this); omega); have za_7 : w3.heap.size < wa.heap.size := (by have := hba.size; (try simp at this); omega); have za_8 : w4.heap.size < wa.heap.size := (by have := hba.size; (try simp at this); omega); have za_9 : w5.heap.size < wa.heap.size := (by have := hba.size; (try simp at this); omega); have za_10 : w5.heap.size + 1 < wa.heap.size := (by have := hba.size; (try simp at this); omega); have za_11 : w6.heap.size < wa.heap.size := (by have := hba.size; (try simp at this); omega); have za_12 : w6.heap.size + 1 < wa.heap.size := (by have := hba.size; (try simp at this); omega)) | (go_at_call 17; refine (observatoryref15_Valid.calls a0_0 a0_1 a0_2 a0_3 a0_4 v _ hW.out).mono ?_; rintro e wb ⟨rfl, hbb⟩; obtain ⟨hcb, hfb⟩ := bcell hbb; have zb_0 : w.heap.size < wb.heap.size := (by have := hbb.size; (try simp at this); omega); have zb_1 : w.heap.size + 1 < wb.heap.size := (by have := hbb.size; (try simp at this); omega); have zb_2 : w.heap.size + 1 + 1 < wb.heap.size := (by have := hbb.size; (try simp at this); omega); have zb_3 : w.heap.size + 1 + 1 + 1 < wb.heap.size := (by have := hbb.size; (try simp at this); omega); have zb_4 : w.heap.size + 1 + 1 + 1 + 1 < wb.heap.size := (by have := hbb.size; (try simp at this); omega); have zb_5 : w1.heap.size < wb.heap.size := (by have := hbb.size; (try simp at this); omega); have zb_6 : w2.heap.size < wb.heap.size := (by have := hbb.size; (try simp at this); omega); have zb_7 : w3.heap.size < wb.heap.size := (by have := hbb.size; (try simp at this); omega); have zb_8 : w4.heap.size < wb.heap.size := (by have := hbb.size; (try simp at this); omega); have zb_9 : w5.heap.size < wb.heap.size := (by have := hbb.size; (try simp at this); omega); have zb_10 : w5.heap.size + 1 < wb.heap.size := (by have := hbb.size; (try simp at this); omega); have zb_11 : w6.heap.size < wb.heap.size := (by have := hbb.size; (try simp at this); omega); have zb_12 : w6.heap.size + 1 < wb.heap.size := (by have := hbb.size; (try simp at this); omega)))
  all_goals
    go_wp2
    go_ret
    exact ⟨rfl, by repeat (with_reducible first | exact Below.refl _ _ | (refine below_set ?_ (by first | omega | exact Nat.le_refl _)) | apply below_alloc | apply pw_below_drewN | apply below_drew1 | refine below_step ?_ hba | refine below_step ?_ hbb | refine below_step ?_ hb6 | refine below_step ?_ hb5 | refine below_step ?_ hb4 | refine below_step ?_ hb3 | refine below_step ?_ hb2 | refine below_step ?_ hb1 | refine below_step ?_ hb0)⟩
end Go.Proofs.Ytgagnoijnhhegaa.Px
