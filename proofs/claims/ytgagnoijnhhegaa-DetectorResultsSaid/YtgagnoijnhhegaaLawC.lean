/- The law DetectorResults, walked: counts, ghosts and estimates lie in their ranges, and a bad cell has no counts and is not valid. -/
import Derived.Test.YtgagnoijnhhegaaLawB
namespace Go.Proofs.Ytgagnoijnhhegaa.Px
open Go.RowKit Go.Proofs.YtgagnoijnhhegaaW.PrintWords Go.Proofs.YtgagnoijnhhegaaW.PrintLast Go.Proofs.YtgagnoijnhhegaaW.PrintMore
attribute [local go_sem] max2_int min2_int max_two min_two max_three min_three max_four min_four World.size_setCell
attribute [local go_sem high] eqA25 eqM27
set_option linter.unusedVariables false
set_option linter.unusedSimpArgs false
/-- What is known of one cell. -/
def ResF (f : Int) (bad : Bool) (e c p : Int) (v : Bool) : Prop :=
  0 ≤ e ∧ e ≤ f ∧ 0 ≤ c ∧ c ≤ 1000000 ∧ 0 ≤ p ∧ p ≤ 1000 * f ∧ ((bad = true ∧ v = false ∧ e = 0 ∧ p = 0) ∨ (bad = false ∧ v = true) ∨ (bad = false ∧ v = false ∧ p = 0))
theorem gho_bd {r f k : Int} (f1 : 1 ≤ f) (f2 : f ≤ 65535) (k1 : 0 ≤ k) (k2 : k ≤ 1000) : 0 ≤ gho r f k ∧ gho r f k ≤ 1000000 := by
  have m0 : 0 ≤ f * k := Int.mul_nonneg (by omega) (by omega)
  have m1 : f * k ≤ 65535000 := by
    have h : f * k ≤ 65535 * 1000 := Int.mul_le_mul f2 k2 (by omega) (by omega)
    omega
  unfold gho
  split <;> omega
theorem red_bd {v : Bool} {r g b d f : Int} (g1 : 1 ≤ g) (b1 : 0 ≤ b) (d1 : 0 ≤ d) (r1 : 0 ≤ r) (r2 : r ≤ f) : 0 ≤ red v r g b d ∧ red v r g b d ≤ 1000 * f := by
  unfold red
  split
  · have hx : 0 ≤ mx 0 (r - b - d) ∧ mx 0 (r - b - d) ≤ f := by unfold mx; split <;> omega
    have h0 : 0 ≤ mx 0 (r - b - d) * 1000 / g := Int.ediv_nonneg (by omega) (by omega)
    have h1 : mx 0 (r - b - d) * 1000 / g ≤ mx 0 (r - b - d) * 1000 := Int.ediv_le_self _ (by omega)
    exact ⟨h0, by omega⟩
  · omega
theorem resF {g b d f k x y o : Int} (bad : Bool) (g1 : 1 ≤ g) (b1 : 0 ≤ b) (d1 : 0 ≤ d) (f1 : 1 ≤ f) (f2 : f ≤ 65535) (k1 : 0 ≤ k) (k2 : k ≤ 1000) :
    ResF f bad (clp (expo bad g b d x y o) f) (gho (clp (expo bad g b d x y o) f) f k) (red (okc bad (clp (expo bad g b d x y o) f) f) (clp (expo bad g b d x y o) f) g b d) (okc bad (clp (expo bad g b d x y o) f) f) := by
  have he := clp_bd (expo bad g b d x y o) (y := f) (by omega)
  have hc := gho_bd (r := clp (expo bad g b d x y o) f) f1 f2 k1 k2
  have hp := red_bd (v := okc bad (clp (expo bad g b d x y o) f) f) (b := b) (d := d) g1 b1 d1 he.1 he.2
  refine ⟨he.1, he.2, hc.1, hc.2, hp.1, hp.2, ?_⟩
  cases bad with
  | true =>
    have h0 : clp (expo true g b d x y o) f = 0 := by unfold clp expo mx mn; simp; omega
    exact .inl ⟨rfl, by simp [okc], h0, by simp [okc, red]⟩
  | false =>
    cases hv : okc false (clp (expo false g b d x y o) f) f with
    | true => exact .inr (.inl ⟨rfl, rfl⟩)
    | false => exact .inr (.inr ⟨rfl, rfl, by simp [red]⟩)
set_option maxRecDepth 100000 in
set_option maxHeartbeats 8000000 in
theorem results_ok (a0_0 a0_1 a0_2 a0_3 a0_4 : Int) (a1_0 a1_1 a1_2 a1_3 : Int) (a2_0 a2_1 a2_2 a2_3 : Int) (a3 : Int) (a4_0 a4_1 a4_2 a4_3 : Bool) (e0 e1 e2 e3 c0 c1 c2 c3 p0 p1 p2 p3 x0 x1 x2 x3 : Int) (v0 v1 v2 v3 : Bool) (w : World) (hE_ : detector_Expose.f a0_0 a0_1 a0_2 a0_3 a0_4 a1_0 a1_1 a1_2 a1_3 a2_0 a2_1 a2_2 a2_3 a3 a4_0 a4_1 a4_2 a4_3 = some (e0, e1, e2, e3, 0)) (hG_ : detector_Ghost.f a0_0 a0_1 a0_2 a0_3 a0_4 e0 e1 e2 e3 = some (c0, c1, c2, c3, 0)) (hR_ : detector_Reduce.f a0_0 a0_1 a0_2 a0_3 a0_4 e0 e1 e2 e3 a4_0 a4_1 a4_2 a4_3 = some (p0, p1, p2, p3, v0, v1, v2, v3, 0)) (hX_ : detector_Expose.f a0_0 a0_1 a0_2 a0_3 a0_4 c0 c1 c2 c3 c0 c1 c2 c3 0 a4_0 a4_1 a4_2 a4_3 = some (x0, x1, x2, x3, 0)) (f1 : 1 ≤ a0_3) (f2 : a0_3 ≤ 65535) (F0_ : ResF a0_3 a4_0 e0 c0 p0 v0) (F1_ : ResF a0_3 a4_1 e1 c1 p1 v1) (F2_ : ResF a0_3 a4_2 e2 c2 p2 v2) (F3_ : ResF a0_3 a4_3 e3 c3 p3 v3) :
    Calls Try.prog 4 #[.agg #[.int .i64 a0_0, .int .i64 a0_1, .int .i64 a0_2, .int .i64 a0_3, .int .i64 a0_4], .agg #[.int .i64 a1_0, .int .i64 a1_1, .int .i64 a1_2, .int .i64 a1_3], .agg #[.int .i64 a2_0, .int .i64 a2_1, .int .i64 a2_2, .int .i64 a2_3], .int .i64 a3, .agg #[.bool a4_0, .bool a4_1, .bool a4_2, .bool a4_3]] w fun e w' => e = .returned (.bool true) ∧ Below w.heap.size w w' := by
  have hE := Aside0.mk hE_
  clear hE_
  have hG := Aside0.mk hG_
  clear hG_
  have hR := Aside0.mk hR_
  clear hR_
  have hX := Aside0.mk hX_
  clear hX_
  have F0 := Aside0.mk F0_
  clear F0_
  have F1 := Aside0.mk F1_
  clear F1_
  have F2 := Aside0.mk F2_
  clear F2_
  have F3 := Aside0.mk F3_
  clear F3_
  have hu23 := Try.underlying23
  have hu25 := Try.underlying25
  have hu27 := Try.underlying27
  go_enter Try.func4, Try.ntmps4
  go_wp2_with fail
  refine (observatorylaw15_head.calls true _ rfl).mono ?_
  rintro e w0 ⟨rfl, hb0⟩
  obtain ⟨hc0, hf0⟩ := bcell hb0
  have z0_0 : w.heap.size < w0.heap.size := by have := hb0.size; (try simp at this); omega
  have z0_1 : w.heap.size + 1 < w0.heap.size := by have := hb0.size; (try simp at this); omega
  have z0_2 : w.heap.size + 1 + 1 < w0.heap.size := by have := hb0.size; (try simp at this); omega
  have z0_3 : w.heap.size + 1 + 1 + 1 < w0.heap.size := by have := hb0.size; (try simp at this); omega
  go_wp2_with fail
  refine (detector_Expose.calls a0_0 a0_1 a0_2 a0_3 a0_4 a1_0 a1_1 a1_2 a1_3 a2_0 a2_1 a2_2 a2_3 a3 a4_0 a4_1 a4_2 a4_3 e0 e1 e2 e3 0 _ hE.out).mono ?_
  rintro e w1 ⟨rfl, hb1⟩
  obtain ⟨hc1, hf1⟩ := bcell hb1
  have z1_0 : w.heap.size < w1.heap.size := by have := hb1.size; (try simp at this); omega
  have z1_1 : w.heap.size + 1 < w1.heap.size := by have := hb1.size; (try simp at this); omega
  have z1_2 : w.heap.size + 1 + 1 < w1.heap.size := by have := hb1.size; (try simp at this); omega
  have z1_3 : w.heap.size + 1 + 1 + 1 < w1.heap.size := by have := hb1.size; (try simp at this); omega
  go_wp2_with fail
  refine (detector_Ghost.calls a0_0 a0_1 a0_2 a0_3 a0_4 e0 e1 e2 e3 c0 c1 c2 c3 0 _ hG.out).mono ?_
  rintro e w2 ⟨rfl, hb2⟩
  obtain ⟨hc2, hf2⟩ := bcell hb2
  have z2_0 : w.heap.size < w2.heap.size := by have := hb2.size; (try simp at this); omega
  have z2_1 : w.heap.size + 1 < w2.heap.size := by have := hb2.size; (try simp at this); omega
  have z2_2 : w.heap.size + 1 + 1 < w2.heap.size := by have := hb2.size; (try simp at this); omega
  have z2_3 : w.heap.size + 1 + 1 + 1 < w2.heap.size := by have := hb2.size; (try simp at this); omega
  have z2_4 : w1.heap.size < w2.heap.size := by have := hb2.size; (try simp at this); omega
  go_wp2_with fail
  refine (detector_Reduce.calls a0_0 a0_1 a0_2 a0_3 a0_4 e0 e1 e2 e3 a4_0 a4_1 a4_2 a4_3 p0 p1 p2 p3 v0 v1 v2 v3 0 _ hR.out).mono ?_
  rintro e w3 ⟨rfl, hb3⟩
  obtain ⟨hc3, hf3⟩ := bcell hb3
  have z3_0 : w.heap.size < w3.heap.size := by have := hb3.size; (try simp at this); omega
  have z3_1 : w.heap.size + 1 < w3.heap.size := by have := hb3.size; (try simp at this); omega
  have z3_2 : w.heap.size + 1 + 1 < w3.heap.size := by have := hb3.size; (try simp at this); omega
  have z3_3 : w.heap.size + 1 + 1 + 1 < w3.heap.size := by have := hb3.size; (try simp at this); omega
  have z3_4 : w1.heap.size < w3.heap.size := by have := hb3.size; (try simp at this); omega
  have z3_5 : w2.heap.size < w3.heap.size := by have := hb3.size; (try simp at this); omega
  have y3_0 : w.heap.size < w3.heap.size + 1 + 1 := by omega
  have y3_1 : w.heap.size + 1 < w3.heap.size + 1 + 1 := by omega
  have y3_2 : w.heap.size + 1 + 1 < w3.heap.size + 1 + 1 := by omega
  have y3_3 : w.heap.size + 1 + 1 + 1 < w3.heap.size + 1 + 1 := by omega
  have y3_4 : w1.heap.size < w3.heap.size + 1 + 1 := by omega
  have y3_5 : w2.heap.size < w3.heap.size + 1 + 1 := by omega
  have y3_6 : w3.heap.size < w3.heap.size + 1 + 1 := by omega
  have y3_7 : w3.heap.size + 1 < w3.heap.size + 1 + 1 := by omega
  go_wp2
  go_loopw [19] (fun i wr => ∃ k : Int, 0 ≤ k ∧ k ≤ 4 ∧ i = .int .i64 k ∧ Aside0 (∃ n, wr = ((w3.alloc (.cells #[.int .i64 p0, .int .i64 p1, .int .i64 p2, .int .i64 p3] 25)).alloc (.cells #[.bool v0, .bool v1, .bool v2, .bool v3] 27)).drewN n)) (fun i _ => 4 - (intOf i).toNat)
  case atStart => exact ⟨0, by omega, by omega, rfl, ⟨0, rfl⟩⟩
  case round =>
    obtain ⟨k, hk0, hk, rfl, ⟨n, rfl⟩⟩ := hrel
    have hk5 : k = 0 ∨ k = 1 ∨ k = 2 ∨ k = 3 ∨ k = 4 := by omega
    rcases hk5 with rfl | rfl | rfl | rfl | rfl
    · obtain ⟨s1, s2, s3, s4, s5, s6, s7⟩ := F0.out
      have s7' := Aside0.mk s7
      clear s7
      have q0 : decide (e0 < 0) = false := decide_eq_false (by omega)
      have q1 : decide (a0_3 < e0) = false := decide_eq_false (by omega)
      have q2 : decide (c0 < 0) = false := decide_eq_false (by omega)
      have q3 : decide (1000000 < c0) = false := decide_eq_false (by omega)
      have q4 : decide (p0 < 0) = false := decide_eq_false (by omega)
      have q5 : decide (1000 * a0_3 < p0) = false := decide_eq_false (by omega)
      rcases s7'.out with ⟨t1, t2, t3, t4⟩ | ⟨t1, t2⟩ | ⟨t1, t2, t3⟩
      · subst t1; subst t2; subst t3; subst t4
        go_wp2
        go_quiet (fail)
        go_wp2
        go_roundw
        case rel => exact ⟨1, by omega, by omega, rfl, ⟨⟨_, rfl⟩⟩⟩
        case measure => simp [intOf]
      · subst t1; subst t2
        go_wp2
        go_quiet (fail)
        go_wp2
        go_roundw
        case rel => exact ⟨1, by omega, by omega, rfl, ⟨⟨_, rfl⟩⟩⟩
        case measure => simp [intOf]
      · subst t1; subst t2; subst t3
        go_wp2
        go_quiet (fail)
        go_wp2
        go_roundw
        case rel => exact ⟨1, by omega, by omega, rfl, ⟨⟨_, rfl⟩⟩⟩
        case measure => simp [intOf]
    · obtain ⟨s1, s2, s3, s4, s5, s6, s7⟩ := F1.out
      have s7' := Aside0.mk s7
      clear s7
      have q0 : decide (e1 < 0) = false := decide_eq_false (by omega)
      have q1 : decide (a0_3 < e1) = false := decide_eq_false (by omega)
      have q2 : decide (c1 < 0) = false := decide_eq_false (by omega)
      have q3 : decide (1000000 < c1) = false := decide_eq_false (by omega)
      have q4 : decide (p1 < 0) = false := decide_eq_false (by omega)
      have q5 : decide (1000 * a0_3 < p1) = false := decide_eq_false (by omega)
      rcases s7'.out with ⟨t1, t2, t3, t4⟩ | ⟨t1, t2⟩ | ⟨t1, t2, t3⟩
      · subst t1; subst t2; subst t3; subst t4
        go_wp2
        go_quiet (fail)
        go_wp2
        go_roundw
        case rel => exact ⟨2, by omega, by omega, rfl, ⟨⟨_, rfl⟩⟩⟩
        case measure => simp [intOf]
      · subst t1; subst t2
        go_wp2
        go_quiet (fail)
        go_wp2
        go_roundw
        case rel => exact ⟨2, by omega, by omega, rfl, ⟨⟨_, rfl⟩⟩⟩
        case measure => simp [intOf]
      · subst t1; subst t2; subst t3
        go_wp2
        go_quiet (fail)
        go_wp2
        go_roundw
        case rel => exact ⟨2, by omega, by omega, rfl, ⟨⟨_, rfl⟩⟩⟩
        case measure => simp [intOf]
    · obtain ⟨s1, s2, s3, s4, s5, s6, s7⟩ := F2.out
      have s7' := Aside0.mk s7
      clear s7
      have q0 : decide (e2 < 0) = false := decide_eq_false (by omega)
      have q1 : decide (a0_3 < e2) = false := decide_eq_false (by omega)
      have q2 : decide (c2 < 0) = false := decide_eq_false (by omega)
      have q3 : decide (1000000 < c2) = false := decide_eq_false (by omega)
      have q4 : decide (p2 < 0) = false := decide_eq_false (by omega)
      have q5 : decide (1000 * a0_3 < p2) = false := decide_eq_false (by omega)
      rcases s7'.out with ⟨t1, t2, t3, t4⟩ | ⟨t1, t2⟩ | ⟨t1, t2, t3⟩
      · subst t1; subst t2; subst t3; subst t4
        go_wp2
        go_quiet (fail)
        go_wp2
        go_roundw
        case rel => exact ⟨3, by omega, by omega, rfl, ⟨⟨_, rfl⟩⟩⟩
        case measure => simp [intOf]
      · subst t1; subst t2
        go_wp2
        go_quiet (fail)
        go_wp2
        go_roundw
        case rel => exact ⟨3, by omega, by omega, rfl, ⟨⟨_, rfl⟩⟩⟩
        case measure => simp [intOf]
      · subst t1; subst t2; subst t3
        go_wp2
        go_quiet (fail)
        go_wp2
        go_roundw
        case rel => exact ⟨3, by omega, by omega, rfl, ⟨⟨_, rfl⟩⟩⟩
        case measure => simp [intOf]
    · obtain ⟨s1, s2, s3, s4, s5, s6, s7⟩ := F3.out
      have s7' := Aside0.mk s7
      clear s7
      have q0 : decide (e3 < 0) = false := decide_eq_false (by omega)
      have q1 : decide (a0_3 < e3) = false := decide_eq_false (by omega)
      have q2 : decide (c3 < 0) = false := decide_eq_false (by omega)
      have q3 : decide (1000000 < c3) = false := decide_eq_false (by omega)
      have q4 : decide (p3 < 0) = false := decide_eq_false (by omega)
      have q5 : decide (1000 * a0_3 < p3) = false := decide_eq_false (by omega)
      rcases s7'.out with ⟨t1, t2, t3, t4⟩ | ⟨t1, t2⟩ | ⟨t1, t2, t3⟩
      · subst t1; subst t2; subst t3; subst t4
        go_wp2
        go_quiet (fail)
        go_wp2
        go_roundw
        case rel => exact ⟨4, by omega, by omega, rfl, ⟨⟨_, rfl⟩⟩⟩
        case measure => simp [intOf]
      · subst t1; subst t2
        go_wp2
        go_quiet (fail)
        go_wp2
        go_roundw
        case rel => exact ⟨4, by omega, by omega, rfl, ⟨⟨_, rfl⟩⟩⟩
        case measure => simp [intOf]
      · subst t1; subst t2; subst t3
        go_wp2
        go_quiet (fail)
        go_wp2
        go_roundw
        case rel => exact ⟨4, by omega, by omega, rfl, ⟨⟨_, rfl⟩⟩⟩
        case measure => simp [intOf]
    · go_wp2_with fail
      refine (detector_Expose.calls a0_0 a0_1 a0_2 a0_3 a0_4 c0 c1 c2 c3 c0 c1 c2 c3 0 a4_0 a4_1 a4_2 a4_3 x0 x1 x2 x3 0 _ hX.out).mono ?_
      rintro e w4 ⟨rfl, hb4⟩
      go_wp2
      go_ret
      exact ⟨rfl, by repeat (with_reducible first | exact Below.refl _ _ | (refine below_set ?_ (by first | omega | exact Nat.le_refl _)) | apply below_alloc | apply pw_below_drewN | apply below_drew1 | refine below_step ?_ hb4 | refine below_step ?_ hb3 | refine below_step ?_ hb2 | refine below_step ?_ hb1 | refine below_step ?_ hb0)⟩
set_option maxHeartbeats 2000000 in
theorem results_no (a0_0 a0_1 a0_2 a0_3 a0_4 : Int) (a1_0 a1_1 a1_2 a1_3 : Int) (a2_0 a2_1 a2_2 a2_3 : Int) (a3 : Int) (a4_0 a4_1 a4_2 a4_3 : Bool) (w : World) (hE_ : detector_Expose.f a0_0 a0_1 a0_2 a0_3 a0_4 a1_0 a1_1 a1_2 a1_3 a2_0 a2_1 a2_2 a2_3 a3 a4_0 a4_1 a4_2 a4_3 = some (0, 0, 0, 0, 1)) :
    Calls Try.prog 4 #[.agg #[.int .i64 a0_0, .int .i64 a0_1, .int .i64 a0_2, .int .i64 a0_3, .int .i64 a0_4], .agg #[.int .i64 a1_0, .int .i64 a1_1, .int .i64 a1_2, .int .i64 a1_3], .agg #[.int .i64 a2_0, .int .i64 a2_1, .int .i64 a2_2, .int .i64 a2_3], .int .i64 a3, .agg #[.bool a4_0, .bool a4_1, .bool a4_2, .bool a4_3]] w fun e w' => e = .returned (.bool true) ∧ Below w.heap.size w w' := by
  have hE := Aside0.mk hE_
  clear hE_
  have hu23 := Try.underlying23
  have hu25 := Try.underlying25
  have hu27 := Try.underlying27
  go_enter Try.func4, Try.ntmps4
  go_wp2_with fail
  refine (observatorylaw15_head.calls true _ rfl).mono ?_
  rintro e w0 ⟨rfl, hb0⟩
  obtain ⟨hc0, hf0⟩ := bcell hb0
  have z0_0 : w.heap.size < w0.heap.size := by have := hb0.size; (try simp at this); omega
  have z0_1 : w.heap.size + 1 < w0.heap.size := by have := hb0.size; (try simp at this); omega
  have z0_2 : w.heap.size + 1 + 1 < w0.heap.size := by have := hb0.size; (try simp at this); omega
  have z0_3 : w.heap.size + 1 + 1 + 1 < w0.heap.size := by have := hb0.size; (try simp at this); omega
  go_wp2_with fail
  refine (detector_Expose.calls a0_0 a0_1 a0_2 a0_3 a0_4 a1_0 a1_1 a1_2 a1_3 a2_0 a2_1 a2_2 a2_3 a3 a4_0 a4_1 a4_2 a4_3 0 0 0 0 1 _ hE.out).mono ?_
  rintro e w1 ⟨rfl, hb1⟩
  obtain ⟨hc1, hf1⟩ := bcell hb1
  have z1_0 : w.heap.size < w1.heap.size := by have := hb1.size; (try simp at this); omega
  have z1_1 : w.heap.size + 1 < w1.heap.size := by have := hb1.size; (try simp at this); omega
  have z1_2 : w.heap.size + 1 + 1 < w1.heap.size := by have := hb1.size; (try simp at this); omega
  have z1_3 : w.heap.size + 1 + 1 + 1 < w1.heap.size := by have := hb1.size; (try simp at this); omega
  go_wp2
  go_ret
  exact ⟨rfl, by repeat (with_reducible first | exact Below.refl _ _ | (refine below_set ?_ (by first | omega | exact Nat.le_refl _)) | apply below_alloc | apply pw_below_drewN | apply below_drew1 | refine below_step ?_ hb1 | refine below_step ?_ hb0)⟩
theorem results_walk (a0_0 a0_1 a0_2 a0_3 a0_4 : Int) (a1_0 a1_1 a1_2 a1_3 : Int) (a2_0 a2_1 a2_2 a2_3 : Int) (a3 : Int) (a4_0 a4_1 a4_2 a4_3 : Bool) (w : World) :
    Calls Try.prog 4 #[.agg #[.int .i64 a0_0, .int .i64 a0_1, .int .i64 a0_2, .int .i64 a0_3, .int .i64 a0_4], .agg #[.int .i64 a1_0, .int .i64 a1_1, .int .i64 a1_2, .int .i64 a1_3], .agg #[.int .i64 a2_0, .int .i64 a2_1, .int .i64 a2_2, .int .i64 a2_3], .int .i64 a3, .agg #[.bool a4_0, .bool a4_1, .bool a4_2, .bool a4_3]] w fun e w' => e = .returned (.bool true) ∧ Below w.heap.size w w' := by
  by_cases c : vldB a0_0 a0_1 a0_2 a0_3 a0_4 = true ∧ ligB a1_0 a1_1 a1_2 a1_3 1000000 = true ∧ ligB a2_0 a2_1 a2_2 a2_3 1000000 = true ∧ offB a3 = true
  · have hE : detector_Expose.f a0_0 a0_1 a0_2 a0_3 a0_4 a1_0 a1_1 a1_2 a1_3 a2_0 a2_1 a2_2 a2_3 a3 a4_0 a4_1 a4_2 a4_3 = some ((clp (expo a4_0 a0_0 a0_1 a0_2 a1_0 a2_0 a3) a0_3), (clp (expo a4_1 a0_0 a0_1 a0_2 a1_1 a2_1 a3) a0_3), (clp (expo a4_2 a0_0 a0_1 a0_2 a1_2 a2_2 a3) a0_3), (clp (expo a4_3 a0_0 a0_1 a0_2 a1_3 a2_3 a3) a0_3), 0) := by unfold detector_Expose.f; exact if_pos c
    obtain ⟨g1, g2, b1, b2, d1, d2, f1, f2, k1, k2⟩ := vld_bd c.1
    have hL := clp_lig (expo a4_0 a0_0 a0_1 a0_2 a1_0 a2_0 a3) (expo a4_1 a0_0 a0_1 a0_2 a1_1 a2_1 a3) (expo a4_2 a0_0 a0_1 a0_2 a1_2 a2_2 a3) (expo a4_3 a0_0 a0_1 a0_2 a1_3 a2_3 a3) (y := a0_3) (by omega)
    have hG : detector_Ghost.f a0_0 a0_1 a0_2 a0_3 a0_4 (clp (expo a4_0 a0_0 a0_1 a0_2 a1_0 a2_0 a3) a0_3) (clp (expo a4_1 a0_0 a0_1 a0_2 a1_1 a2_1 a3) a0_3) (clp (expo a4_2 a0_0 a0_1 a0_2 a1_2 a2_2 a3) a0_3) (clp (expo a4_3 a0_0 a0_1 a0_2 a1_3 a2_3 a3) a0_3) = some (gho (clp (expo a4_0 a0_0 a0_1 a0_2 a1_0 a2_0 a3) a0_3) a0_3 a0_4, gho (clp (expo a4_1 a0_0 a0_1 a0_2 a1_1 a2_1 a3) a0_3) a0_3 a0_4, gho (clp (expo a4_2 a0_0 a0_1 a0_2 a1_2 a2_2 a3) a0_3) a0_3 a0_4, gho (clp (expo a4_3 a0_0 a0_1 a0_2 a1_3 a2_3 a3) a0_3) a0_3 a0_4, 0) := by
      unfold detector_Ghost.f
      exact if_pos (by rw [c.1, hL]; rfl)
    have hR : detector_Reduce.f a0_0 a0_1 a0_2 a0_3 a0_4 (clp (expo a4_0 a0_0 a0_1 a0_2 a1_0 a2_0 a3) a0_3) (clp (expo a4_1 a0_0 a0_1 a0_2 a1_1 a2_1 a3) a0_3) (clp (expo a4_2 a0_0 a0_1 a0_2 a1_2 a2_2 a3) a0_3) (clp (expo a4_3 a0_0 a0_1 a0_2 a1_3 a2_3 a3) a0_3) a4_0 a4_1 a4_2 a4_3 = some (red (okc a4_0 (clp (expo a4_0 a0_0 a0_1 a0_2 a1_0 a2_0 a3) a0_3) a0_3) (clp (expo a4_0 a0_0 a0_1 a0_2 a1_0 a2_0 a3) a0_3) a0_0 a0_1 a0_2, red (okc a4_1 (clp (expo a4_1 a0_0 a0_1 a0_2 a1_1 a2_1 a3) a0_3) a0_3) (clp (expo a4_1 a0_0 a0_1 a0_2 a1_1 a2_1 a3) a0_3) a0_0 a0_1 a0_2, red (okc a4_2 (clp (expo a4_2 a0_0 a0_1 a0_2 a1_2 a2_2 a3) a0_3) a0_3) (clp (expo a4_2 a0_0 a0_1 a0_2 a1_2 a2_2 a3) a0_3) a0_0 a0_1 a0_2, red (okc a4_3 (clp (expo a4_3 a0_0 a0_1 a0_2 a1_3 a2_3 a3) a0_3) a0_3) (clp (expo a4_3 a0_0 a0_1 a0_2 a1_3 a2_3 a3) a0_3) a0_0 a0_1 a0_2, (okc a4_0 (clp (expo a4_0 a0_0 a0_1 a0_2 a1_0 a2_0 a3) a0_3) a0_3), (okc a4_1 (clp (expo a4_1 a0_0 a0_1 a0_2 a1_1 a2_1 a3) a0_3) a0_3), (okc a4_2 (clp (expo a4_2 a0_0 a0_1 a0_2 a1_2 a2_2 a3) a0_3) a0_3), (okc a4_3 (clp (expo a4_3 a0_0 a0_1 a0_2 a1_3 a2_3 a3) a0_3) a0_3), 0) := by
      unfold detector_Reduce.f
      exact if_pos (by rw [c.1, hL]; rfl)
    have hC : ligB (gho (clp (expo a4_0 a0_0 a0_1 a0_2 a1_0 a2_0 a3) a0_3) a0_3 a0_4) (gho (clp (expo a4_1 a0_0 a0_1 a0_2 a1_1 a2_1 a3) a0_3) a0_3 a0_4) (gho (clp (expo a4_2 a0_0 a0_1 a0_2 a1_2 a2_2 a3) a0_3) a0_3 a0_4) (gho (clp (expo a4_3 a0_0 a0_1 a0_2 a1_3 a2_3 a3) a0_3) a0_3 a0_4) 1000000 = true := by
      have h0 := gho_bd (r := (clp (expo a4_0 a0_0 a0_1 a0_2 a1_0 a2_0 a3) a0_3)) f1 f2 k1 k2
      have h1 := gho_bd (r := (clp (expo a4_1 a0_0 a0_1 a0_2 a1_1 a2_1 a3) a0_3)) f1 f2 k1 k2
      have h2 := gho_bd (r := (clp (expo a4_2 a0_0 a0_1 a0_2 a1_2 a2_2 a3) a0_3)) f1 f2 k1 k2
      have h3 := gho_bd (r := (clp (expo a4_3 a0_0 a0_1 a0_2 a1_3 a2_3 a3) a0_3)) f1 f2 k1 k2
      unfold ligB
      exact decide_eq_true ⟨h0.1, h0.2, h1.1, h1.2, h2.1, h2.2, h3.1, h3.2⟩
    have hX : detector_Expose.f a0_0 a0_1 a0_2 a0_3 a0_4 (gho (clp (expo a4_0 a0_0 a0_1 a0_2 a1_0 a2_0 a3) a0_3) a0_3 a0_4) (gho (clp (expo a4_1 a0_0 a0_1 a0_2 a1_1 a2_1 a3) a0_3) a0_3 a0_4) (gho (clp (expo a4_2 a0_0 a0_1 a0_2 a1_2 a2_2 a3) a0_3) a0_3 a0_4) (gho (clp (expo a4_3 a0_0 a0_1 a0_2 a1_3 a2_3 a3) a0_3) a0_3 a0_4) (gho (clp (expo a4_0 a0_0 a0_1 a0_2 a1_0 a2_0 a3) a0_3) a0_3 a0_4) (gho (clp (expo a4_1 a0_0 a0_1 a0_2 a1_1 a2_1 a3) a0_3) a0_3 a0_4) (gho (clp (expo a4_2 a0_0 a0_1 a0_2 a1_2 a2_2 a3) a0_3) a0_3 a0_4) (gho (clp (expo a4_3 a0_0 a0_1 a0_2 a1_3 a2_3 a3) a0_3) a0_3 a0_4) 0 a4_0 a4_1 a4_2 a4_3 = some (clp (expo a4_0 a0_0 a0_1 a0_2 (gho (clp (expo a4_0 a0_0 a0_1 a0_2 a1_0 a2_0 a3) a0_3) a0_3 a0_4) (gho (clp (expo a4_0 a0_0 a0_1 a0_2 a1_0 a2_0 a3) a0_3) a0_3 a0_4) 0) a0_3, clp (expo a4_1 a0_0 a0_1 a0_2 (gho (clp (expo a4_1 a0_0 a0_1 a0_2 a1_1 a2_1 a3) a0_3) a0_3 a0_4) (gho (clp (expo a4_1 a0_0 a0_1 a0_2 a1_1 a2_1 a3) a0_3) a0_3 a0_4) 0) a0_3, clp (expo a4_2 a0_0 a0_1 a0_2 (gho (clp (expo a4_2 a0_0 a0_1 a0_2 a1_2 a2_2 a3) a0_3) a0_3 a0_4) (gho (clp (expo a4_2 a0_0 a0_1 a0_2 a1_2 a2_2 a3) a0_3) a0_3 a0_4) 0) a0_3, clp (expo a4_3 a0_0 a0_1 a0_2 (gho (clp (expo a4_3 a0_0 a0_1 a0_2 a1_3 a2_3 a3) a0_3) a0_3 a0_4) (gho (clp (expo a4_3 a0_0 a0_1 a0_2 a1_3 a2_3 a3) a0_3) a0_3 a0_4) 0) a0_3, 0) := by unfold detector_Expose.f; exact if_pos ⟨c.1, hC, hC, by decide⟩
    exact results_ok a0_0 a0_1 a0_2 a0_3 a0_4 a1_0 a1_1 a1_2 a1_3 a2_0 a2_1 a2_2 a2_3 a3 a4_0 a4_1 a4_2 a4_3 _ _ _ _ _ _ _ _ _ _ _ _ _ _ _ _ _ _ _ _ w hE hG hR hX f1 f2 (resF a4_0 g1 b1 d1 f1 f2 k1 k2) (resF a4_1 g1 b1 d1 f1 f2 k1 k2) (resF a4_2 g1 b1 d1 f1 f2 k1 k2) (resF a4_3 g1 b1 d1 f1 f2 k1 k2)
  · exact results_no a0_0 a0_1 a0_2 a0_3 a0_4 a1_0 a1_1 a1_2 a1_3 a2_0 a2_1 a2_2 a2_3 a3 a4_0 a4_1 a4_2 a4_3 w (by unfold detector_Expose.f; exact if_neg c)
end Go.Proofs.Ytgagnoijnhhegaa.Px
