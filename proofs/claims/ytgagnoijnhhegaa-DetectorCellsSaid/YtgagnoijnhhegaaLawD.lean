/- The law DetectorGrows, walked: with more light, a greater ghost and a greater offset no cell has less counts, and no estimate is less. -/
import Derived.Test.YtgagnoijnhhegaaLawB
namespace Go.Proofs.Ytgagnoijnhhegaa.Px
open Go.RowKit Go.Proofs.YtgagnoijnhhegaaW.PrintWords Go.Proofs.YtgagnoijnhhegaaW.PrintLast Go.Proofs.YtgagnoijnhhegaaW.PrintMore
attribute [local go_sem] max2_int min2_int max_two min_two max_three min_three max_four min_four World.size_setCell
attribute [local go_sem high] eqA25 eqM27
set_option linter.unusedVariables false
set_option linter.unusedSimpArgs false
/-- What is known of one cell of two exposures. -/
def GroF (l g m r one two a b p q : Int) (v u : Bool) : Prop :=
  l ≤ m → g ≤ r → one ≤ two → a ≤ b ∧ (v = false ∨ (v = true ∧ u = false) ∨ (v = true ∧ u = true ∧ p ≤ q))
theorem clp_mono {x x' y : Int} (h : x ≤ x') (hy : 0 ≤ y) : clp x y ≤ clp x' y := by unfold clp mx mn; (repeat' split) <;> omega
theorem expo_mono {g b d x y o x' y' o' : Int} (bad : Bool) (g1 : 1 ≤ g) (hx : x ≤ x') (hy : y ≤ y') (ho : o ≤ o') : expo bad g b d x y o ≤ expo bad g b d x' y' o' := by
  unfold expo
  split
  · exact Int.le_refl _
  · have h1 : (x + y) * g ≤ (x' + y') * g := Int.mul_le_mul_of_nonneg_right (by omega) (by omega)
    have h2 : (x + y) * g / 1000 ≤ (x' + y') * g / 1000 := Int.ediv_le_ediv (by omega) h1
    omega
theorem red_mono {r r' g b d : Int} (g1 : 1 ≤ g) (h : r ≤ r') : red true r g b d ≤ red true r' g b d := by
  unfold red
  rw [if_pos rfl, if_pos rfl]
  refine Int.ediv_le_ediv (by omega) ?_
  unfold mx
  (repeat' split) <;> omega
theorem groF {g b d f x y o x' y' o' : Int} (bad : Bool) (g1 : 1 ≤ g) (f1 : 1 ≤ f) :
    GroF x y x' y' o o' (clp (expo bad g b d x y o) f) (clp (expo bad g b d x' y' o') f) (red (okc bad (clp (expo bad g b d x y o) f) f) (clp (expo bad g b d x y o) f) g b d) (red (okc bad (clp (expo bad g b d x' y' o') f) f) (clp (expo bad g b d x' y' o') f) g b d)
      (okc bad (clp (expo bad g b d x y o) f) f) (okc bad (clp (expo bad g b d x' y' o') f) f) := by
  intro h1 h2 h3
  have hm := clp_mono (expo_mono (b := b) (d := d) bad g1 h1 h2 h3) (y := f) (by omega)
  refine ⟨hm, ?_⟩
  cases hv : okc bad (clp (expo bad g b d x y o) f) f with
  | false => exact .inl rfl
  | true =>
    cases hu : okc bad (clp (expo bad g b d x' y' o') f) f with
    | false => exact .inr (.inl ⟨rfl, rfl⟩)
    | true => exact .inr (.inr ⟨rfl, rfl, red_mono g1 hm⟩)
set_option maxRecDepth 100000 in
set_option maxHeartbeats 16000000 in
theorem grows_ok (a0_0 a0_1 a0_2 a0_3 a0_4 : Int) (a1_0 a1_1 a1_2 a1_3 : Int) (a2_0 a2_1 a2_2 a2_3 : Int) (a3_0 a3_1 a3_2 a3_3 : Int) (a4_0 a4_1 a4_2 a4_3 : Int) (a5 : Int) (a6 : Int) (a7_0 a7_1 a7_2 a7_3 : Bool) (e0 e1 e2 e3 f0 f1 f2 f3 p0 p1 p2 p3 q0 q1 q2 q3 : Int) (v0 v1 v2 v3 u0 u1 u2 u3 : Bool) (w : World) (hE_ : detector_Expose.f a0_0 a0_1 a0_2 a0_3 a0_4 a1_0 a1_1 a1_2 a1_3 a2_0 a2_1 a2_2 a2_3 a5 a7_0 a7_1 a7_2 a7_3 = some (e0, e1, e2, e3, 0)) (hF_ : detector_Expose.f a0_0 a0_1 a0_2 a0_3 a0_4 a3_0 a3_1 a3_2 a3_3 a4_0 a4_1 a4_2 a4_3 a6 a7_0 a7_1 a7_2 a7_3 = some (f0, f1, f2, f3, 0)) (hR_ : detector_Reduce.f a0_0 a0_1 a0_2 a0_3 a0_4 e0 e1 e2 e3 a7_0 a7_1 a7_2 a7_3 = some (p0, p1, p2, p3, v0, v1, v2, v3, 0)) (hS_ : detector_Reduce.f a0_0 a0_1 a0_2 a0_3 a0_4 f0 f1 f2 f3 a7_0 a7_1 a7_2 a7_3 = some (q0, q1, q2, q3, u0, u1, u2, u3, 0)) (F0_ : GroF a1_0 a2_0 a3_0 a4_0 a5 a6 e0 f0 p0 q0 v0 u0) (F1_ : GroF a1_1 a2_1 a3_1 a4_1 a5 a6 e1 f1 p1 q1 v1 u1) (F2_ : GroF a1_2 a2_2 a3_2 a4_2 a5 a6 e2 f2 p2 q2 v2 u2) (F3_ : GroF a1_3 a2_3 a3_3 a4_3 a5 a6 e3 f3 p3 q3 v3 u3) :
    Calls Try.prog 5 #[.agg #[.int .i64 a0_0, .int .i64 a0_1, .int .i64 a0_2, .int .i64 a0_3, .int .i64 a0_4], .agg #[.int .i64 a1_0, .int .i64 a1_1, .int .i64 a1_2, .int .i64 a1_3], .agg #[.int .i64 a2_0, .int .i64 a2_1, .int .i64 a2_2, .int .i64 a2_3], .agg #[.int .i64 a3_0, .int .i64 a3_1, .int .i64 a3_2, .int .i64 a3_3], .agg #[.int .i64 a4_0, .int .i64 a4_1, .int .i64 a4_2, .int .i64 a4_3], .int .i64 a5, .int .i64 a6, .agg #[.bool a7_0, .bool a7_1, .bool a7_2, .bool a7_3]] w fun e w' => e = .returned (.bool true) ∧ Below w.heap.size w w' := by
  have hE := Aside0.mk hE_
  clear hE_
  have hF := Aside0.mk hF_
  clear hF_
  have hR := Aside0.mk hR_
  clear hR_
  have hS := Aside0.mk hS_
  clear hS_
  have F0 := Aside0.mk F0_
  clear F0_
  have F1 := Aside0.mk F1_
  clear F1_
  have F2 := Aside0.mk F2_
  clear F2_
  have F3 := Aside0.mk F3_
  clear F3_
  have hu23 := Try.underlying23
  have hu25 := Try.underlying25
  have hu27 := Try.underlying27
  go_enter Try.func5, Try.ntmps5
  go_wp2_with fail
  refine (observatorylaw15_head.calls true _ rfl).mono ?_
  rintro e w0 ⟨rfl, hb0⟩
  obtain ⟨hc0, hf0⟩ := bcell hb0
  have z0_0 : w.heap.size < w0.heap.size := by have := hb0.size; (try simp at this); omega
  have z0_1 : w.heap.size + 1 < w0.heap.size := by have := hb0.size; (try simp at this); omega
  have z0_2 : w.heap.size + 1 + 1 < w0.heap.size := by have := hb0.size; (try simp at this); omega
  have z0_3 : w.heap.size + 1 + 1 + 1 < w0.heap.size := by have := hb0.size; (try simp at this); omega
  have z0_4 : w.heap.size + 1 + 1 + 1 + 1 < w0.heap.size := by have := hb0.size; (try simp at this); omega
  have z0_5 : w.heap.size + 1 + 1 + 1 + 1 + 1 < w0.heap.size := by have := hb0.size; (try simp at this); omega
  go_wp2_with fail
  refine (detector_Expose.calls a0_0 a0_1 a0_2 a0_3 a0_4 a1_0 a1_1 a1_2 a1_3 a2_0 a2_1 a2_2 a2_3 a5 a7_0 a7_1 a7_2 a7_3 e0 e1 e2 e3 0 _ hE.out).mono ?_
  rintro e w1 ⟨rfl, hb1⟩
  obtain ⟨hc1, hf1⟩ := bcell hb1
  have z1_0 : w.heap.size < w1.heap.size := by have := hb1.size; (try simp at this); omega
  have z1_1 : w.heap.size + 1 < w1.heap.size := by have := hb1.size; (try simp at this); omega
  have z1_2 : w.heap.size + 1 + 1 < w1.heap.size := by have := hb1.size; (try simp at this); omega
  have z1_3 : w.heap.size + 1 + 1 + 1 < w1.heap.size := by have := hb1.size; (try simp at this); omega
  have z1_4 : w.heap.size + 1 + 1 + 1 + 1 < w1.heap.size := by have := hb1.size; (try simp at this); omega
  have z1_5 : w.heap.size + 1 + 1 + 1 + 1 + 1 < w1.heap.size := by have := hb1.size; (try simp at this); omega
  go_wp2_with fail
  refine (detector_Expose.calls a0_0 a0_1 a0_2 a0_3 a0_4 a3_0 a3_1 a3_2 a3_3 a4_0 a4_1 a4_2 a4_3 a6 a7_0 a7_1 a7_2 a7_3 f0 f1 f2 f3 0 _ hF.out).mono ?_
  rintro e w2 ⟨rfl, hb2⟩
  obtain ⟨hc2, hf2⟩ := bcell hb2
  have z2_0 : w.heap.size < w2.heap.size := by have := hb2.size; (try simp at this); omega
  have z2_1 : w.heap.size + 1 < w2.heap.size := by have := hb2.size; (try simp at this); omega
  have z2_2 : w.heap.size + 1 + 1 < w2.heap.size := by have := hb2.size; (try simp at this); omega
  have z2_3 : w.heap.size + 1 + 1 + 1 < w2.heap.size := by have := hb2.size; (try simp at this); omega
  have z2_4 : w.heap.size + 1 + 1 + 1 + 1 < w2.heap.size := by have := hb2.size; (try simp at this); omega
  have z2_5 : w.heap.size + 1 + 1 + 1 + 1 + 1 < w2.heap.size := by have := hb2.size; (try simp at this); omega
  have z2_6 : w1.heap.size < w2.heap.size := by have := hb2.size; (try simp at this); omega
  go_wp2_with fail
  refine (detector_Reduce.calls a0_0 a0_1 a0_2 a0_3 a0_4 e0 e1 e2 e3 a7_0 a7_1 a7_2 a7_3 p0 p1 p2 p3 v0 v1 v2 v3 0 _ hR.out).mono ?_
  rintro e w3 ⟨rfl, hb3⟩
  obtain ⟨hc3, hf3⟩ := bcell hb3
  have z3_0 : w.heap.size < w3.heap.size := by have := hb3.size; (try simp at this); omega
  have z3_1 : w.heap.size + 1 < w3.heap.size := by have := hb3.size; (try simp at this); omega
  have z3_2 : w.heap.size + 1 + 1 < w3.heap.size := by have := hb3.size; (try simp at this); omega
  have z3_3 : w.heap.size + 1 + 1 + 1 < w3.heap.size := by have := hb3.size; (try simp at this); omega
  have z3_4 : w.heap.size + 1 + 1 + 1 + 1 < w3.heap.size := by have := hb3.size; (try simp at this); omega
  have z3_5 : w.heap.size + 1 + 1 + 1 + 1 + 1 < w3.heap.size := by have := hb3.size; (try simp at this); omega
  have z3_6 : w1.heap.size < w3.heap.size := by have := hb3.size; (try simp at this); omega
  have z3_7 : w2.heap.size < w3.heap.size := by have := hb3.size; (try simp at this); omega
  have y3_0 : w.heap.size < w3.heap.size + 1 + 1 := by omega
  have y3_1 : w.heap.size + 1 < w3.heap.size + 1 + 1 := by omega
  have y3_2 : w.heap.size + 1 + 1 < w3.heap.size + 1 + 1 := by omega
  have y3_3 : w.heap.size + 1 + 1 + 1 < w3.heap.size + 1 + 1 := by omega
  have y3_4 : w.heap.size + 1 + 1 + 1 + 1 < w3.heap.size + 1 + 1 := by omega
  have y3_5 : w.heap.size + 1 + 1 + 1 + 1 + 1 < w3.heap.size + 1 + 1 := by omega
  have y3_6 : w1.heap.size < w3.heap.size + 1 + 1 := by omega
  have y3_7 : w2.heap.size < w3.heap.size + 1 + 1 := by omega
  have y3_8 : w3.heap.size < w3.heap.size + 1 + 1 := by omega
  have y3_9 : w3.heap.size + 1 < w3.heap.size + 1 + 1 := by omega
  go_wp2_with fail
  refine (detector_Reduce.calls a0_0 a0_1 a0_2 a0_3 a0_4 f0 f1 f2 f3 a7_0 a7_1 a7_2 a7_3 q0 q1 q2 q3 u0 u1 u2 u3 0 _ hS.out).mono ?_
  rintro e w4 ⟨rfl, hb4⟩
  obtain ⟨hc4, hf4⟩ := bcell hb4
  have z4_0 : w.heap.size < w4.heap.size := by have := hb4.size; (try simp at this); omega
  have z4_1 : w.heap.size + 1 < w4.heap.size := by have := hb4.size; (try simp at this); omega
  have z4_2 : w.heap.size + 1 + 1 < w4.heap.size := by have := hb4.size; (try simp at this); omega
  have z4_3 : w.heap.size + 1 + 1 + 1 < w4.heap.size := by have := hb4.size; (try simp at this); omega
  have z4_4 : w.heap.size + 1 + 1 + 1 + 1 < w4.heap.size := by have := hb4.size; (try simp at this); omega
  have z4_5 : w.heap.size + 1 + 1 + 1 + 1 + 1 < w4.heap.size := by have := hb4.size; (try simp at this); omega
  have z4_6 : w1.heap.size < w4.heap.size := by have := hb4.size; (try simp at this); omega
  have z4_7 : w2.heap.size < w4.heap.size := by have := hb4.size; (try simp at this); omega
  have z4_8 : w3.heap.size < w4.heap.size := by have := hb4.size; (try simp at this); omega
  have z4_9 : w3.heap.size + 1 < w4.heap.size := by have := hb4.size; (try simp at this); omega
  have y4_0 : w.heap.size < w4.heap.size + 1 + 1 := by omega
  have y4_1 : w.heap.size + 1 < w4.heap.size + 1 + 1 := by omega
  have y4_2 : w.heap.size + 1 + 1 < w4.heap.size + 1 + 1 := by omega
  have y4_3 : w.heap.size + 1 + 1 + 1 < w4.heap.size + 1 + 1 := by omega
  have y4_4 : w.heap.size + 1 + 1 + 1 + 1 < w4.heap.size + 1 + 1 := by omega
  have y4_5 : w.heap.size + 1 + 1 + 1 + 1 + 1 < w4.heap.size + 1 + 1 := by omega
  have y4_6 : w1.heap.size < w4.heap.size + 1 + 1 := by omega
  have y4_7 : w2.heap.size < w4.heap.size + 1 + 1 := by omega
  have y4_8 : w3.heap.size < w4.heap.size + 1 + 1 := by omega
  have y4_9 : w3.heap.size + 1 < w4.heap.size + 1 + 1 := by omega
  have y4_10 : w4.heap.size < w4.heap.size + 1 + 1 := by omega
  have y4_11 : w4.heap.size + 1 < w4.heap.size + 1 + 1 := by omega
  go_wp2
  go_loopw [28] (fun i wr => ∃ k : Int, 0 ≤ k ∧ k ≤ 4 ∧ i = .int .i64 k ∧ Aside0 (∃ n, wr = ((w4.alloc (.cells #[.int .i64 q0, .int .i64 q1, .int .i64 q2, .int .i64 q3] 25)).alloc (.cells #[.bool u0, .bool u1, .bool u2, .bool u3] 27)).drewN n)) (fun i _ => 4 - (intOf i).toNat)
  case atStart => exact ⟨0, by omega, by omega, rfl, ⟨0, rfl⟩⟩
  case round =>
    obtain ⟨k, hk0, hk, rfl, ⟨n, rfl⟩⟩ := hrel
    have hk5 : k = 0 ∨ k = 1 ∨ k = 2 ∨ k = 3 ∨ k = 4 := by omega
    rcases hk5 with rfl | rfl | rfl | rfl | rfl
    · by_cases c1 : a3_0 < a1_0
      · have s1 : decide (a3_0 < a1_0) = true := decide_eq_true (by omega)
        go_wp2
        go_quiet (fail)
        go_wp2
        go_roundw
        case rel => exact ⟨1, by omega, by omega, rfl, ⟨⟨_, rfl⟩⟩⟩
        case measure => simp [intOf]
      · by_cases c2 : a4_0 < a2_0
        · have s1 : decide (a3_0 < a1_0) = false := decide_eq_false (by omega)
          have s2 : decide (a4_0 < a2_0) = true := decide_eq_true (by omega)
          go_wp2
          go_quiet (fail)
          go_wp2
          go_roundw
          case rel => exact ⟨1, by omega, by omega, rfl, ⟨⟨_, rfl⟩⟩⟩
          case measure => simp [intOf]
        · by_cases c3 : a6 < a5
          · have s1 : decide (a3_0 < a1_0) = false := decide_eq_false (by omega)
            have s2 : decide (a4_0 < a2_0) = false := decide_eq_false (by omega)
            have s3 : decide (a6 < a5) = true := decide_eq_true (by omega)
            go_wp2
            go_quiet (fail)
            go_wp2
            go_roundw
            case rel => exact ⟨1, by omega, by omega, rfl, ⟨⟨_, rfl⟩⟩⟩
            case measure => simp [intOf]
          · obtain ⟨t1, t2⟩ := F0.out (by omega) (by omega) (by omega)
            have t2' := Aside0.mk t2
            clear t2
            have s1 : decide (a3_0 < a1_0) = false := decide_eq_false (by omega)
            have s2 : decide (a4_0 < a2_0) = false := decide_eq_false (by omega)
            have s3 : decide (a6 < a5) = false := decide_eq_false (by omega)
            have s4 : decide (f0 < e0) = false := decide_eq_false (by omega)
            rcases t2'.out with r1 | ⟨r1, r2⟩ | ⟨r1, r2, r3⟩
            · subst r1
              go_wp2
              go_quiet (fail)
              go_wp2
              go_quiet (fail)
              go_wp2
              go_roundw
              case rel => exact ⟨1, by omega, by omega, rfl, ⟨⟨_, rfl⟩⟩⟩
              case measure => simp [intOf]
            · subst r1; subst r2
              go_wp2
              go_quiet (fail)
              go_wp2
              go_quiet (fail)
              go_wp2
              go_roundw
              case rel => exact ⟨1, by omega, by omega, rfl, ⟨⟨_, rfl⟩⟩⟩
              case measure => simp [intOf]
            · subst r1; subst r2
              have s5 : decide (q0 < p0) = false := decide_eq_false (by omega)
              go_wp2
              go_quiet (fail)
              go_wp2
              go_quiet (fail)
              go_wp2
              go_roundw
              case rel => exact ⟨1, by omega, by omega, rfl, ⟨⟨_, rfl⟩⟩⟩
              case measure => simp [intOf]
    · by_cases c1 : a3_1 < a1_1
      · have s1 : decide (a3_1 < a1_1) = true := decide_eq_true (by omega)
        go_wp2
        go_quiet (fail)
        go_wp2
        go_roundw
        case rel => exact ⟨2, by omega, by omega, rfl, ⟨⟨_, rfl⟩⟩⟩
        case measure => simp [intOf]
      · by_cases c2 : a4_1 < a2_1
        · have s1 : decide (a3_1 < a1_1) = false := decide_eq_false (by omega)
          have s2 : decide (a4_1 < a2_1) = true := decide_eq_true (by omega)
          go_wp2
          go_quiet (fail)
          go_wp2
          go_roundw
          case rel => exact ⟨2, by omega, by omega, rfl, ⟨⟨_, rfl⟩⟩⟩
          case measure => simp [intOf]
        · by_cases c3 : a6 < a5
          · have s1 : decide (a3_1 < a1_1) = false := decide_eq_false (by omega)
            have s2 : decide (a4_1 < a2_1) = false := decide_eq_false (by omega)
            have s3 : decide (a6 < a5) = true := decide_eq_true (by omega)
            go_wp2
            go_quiet (fail)
            go_wp2
            go_roundw
            case rel => exact ⟨2, by omega, by omega, rfl, ⟨⟨_, rfl⟩⟩⟩
            case measure => simp [intOf]
          · obtain ⟨t1, t2⟩ := F1.out (by omega) (by omega) (by omega)
            have t2' := Aside0.mk t2
            clear t2
            have s1 : decide (a3_1 < a1_1) = false := decide_eq_false (by omega)
            have s2 : decide (a4_1 < a2_1) = false := decide_eq_false (by omega)
            have s3 : decide (a6 < a5) = false := decide_eq_false (by omega)
            have s4 : decide (f1 < e1) = false := decide_eq_false (by omega)
            rcases t2'.out with r1 | ⟨r1, r2⟩ | ⟨r1, r2, r3⟩
            · subst r1
              go_wp2
              go_quiet (fail)
              go_wp2
              go_quiet (fail)
              go_wp2
              go_roundw
              case rel => exact ⟨2, by omega, by omega, rfl, ⟨⟨_, rfl⟩⟩⟩
              case measure => simp [intOf]
            · subst r1; subst r2
              go_wp2
              go_quiet (fail)
              go_wp2
              go_quiet (fail)
              go_wp2
              go_roundw
              case rel => exact ⟨2, by omega, by omega, rfl, ⟨⟨_, rfl⟩⟩⟩
              case measure => simp [intOf]
            · subst r1; subst r2
              have s5 : decide (q1 < p1) = false := decide_eq_false (by omega)
              go_wp2
              go_quiet (fail)
              go_wp2
              go_quiet (fail)
              go_wp2
              go_roundw
              case rel => exact ⟨2, by omega, by omega, rfl, ⟨⟨_, rfl⟩⟩⟩
              case measure => simp [intOf]
    · by_cases c1 : a3_2 < a1_2
      · have s1 : decide (a3_2 < a1_2) = true := decide_eq_true (by omega)
        go_wp2
        go_quiet (fail)
        go_wp2
        go_roundw
        case rel => exact ⟨3, by omega, by omega, rfl, ⟨⟨_, rfl⟩⟩⟩
        case measure => simp [intOf]
      · by_cases c2 : a4_2 < a2_2
        · have s1 : decide (a3_2 < a1_2) = false := decide_eq_false (by omega)
          have s2 : decide (a4_2 < a2_2) = true := decide_eq_true (by omega)
          go_wp2
          go_quiet (fail)
          go_wp2
          go_roundw
          case rel => exact ⟨3, by omega, by omega, rfl, ⟨⟨_, rfl⟩⟩⟩
          case measure => simp [intOf]
        · by_cases c3 : a6 < a5
          · have s1 : decide (a3_2 < a1_2) = false := decide_eq_false (by omega)
            have s2 : decide (a4_2 < a2_2) = false := decide_eq_false (by omega)
            have s3 : decide (a6 < a5) = true := decide_eq_true (by omega)
            go_wp2
            go_quiet (fail)
            go_wp2
            go_roundw
            case rel => exact ⟨3, by omega, by omega, rfl, ⟨⟨_, rfl⟩⟩⟩
            case measure => simp [intOf]
          · obtain ⟨t1, t2⟩ := F2.out (by omega) (by omega) (by omega)
            have t2' := Aside0.mk t2
            clear t2
            have s1 : decide (a3_2 < a1_2) = false := decide_eq_false (by omega)
            have s2 : decide (a4_2 < a2_2) = false := decide_eq_false (by omega)
            have s3 : decide (a6 < a5) = false := decide_eq_false (by omega)
            have s4 : decide (f2 < e2) = false := decide_eq_false (by omega)
            rcases t2'.out with r1 | ⟨r1, r2⟩ | ⟨r1, r2, r3⟩
            · subst r1
              go_wp2
              go_quiet (fail)
              go_wp2
              go_quiet (fail)
              go_wp2
              go_roundw
              case rel => exact ⟨3, by omega, by omega, rfl, ⟨⟨_, rfl⟩⟩⟩
              case measure => simp [intOf]
            · subst r1; subst r2
              go_wp2
              go_quiet (fail)
              go_wp2
              go_quiet (fail)
              go_wp2
              go_roundw
              case rel => exact ⟨3, by omega, by omega, rfl, ⟨⟨_, rfl⟩⟩⟩
              case measure => simp [intOf]
            · subst r1; subst r2
              have s5 : decide (q2 < p2) = false := decide_eq_false (by omega)
              go_wp2
              go_quiet (fail)
              go_wp2
              go_quiet (fail)
              go_wp2
              go_roundw
              case rel => exact ⟨3, by omega, by omega, rfl, ⟨⟨_, rfl⟩⟩⟩
              case measure => simp [intOf]
    · by_cases c1 : a3_3 < a1_3
      · have s1 : decide (a3_3 < a1_3) = true := decide_eq_true (by omega)
        go_wp2
        go_quiet (fail)
        go_wp2
        go_roundw
        case rel => exact ⟨4, by omega, by omega, rfl, ⟨⟨_, rfl⟩⟩⟩
        case measure => simp [intOf]
      · by_cases c2 : a4_3 < a2_3
        · have s1 : decide (a3_3 < a1_3) = false := decide_eq_false (by omega)
          have s2 : decide (a4_3 < a2_3) = true := decide_eq_true (by omega)
          go_wp2
          go_quiet (fail)
          go_wp2
          go_roundw
          case rel => exact ⟨4, by omega, by omega, rfl, ⟨⟨_, rfl⟩⟩⟩
          case measure => simp [intOf]
        · by_cases c3 : a6 < a5
          · have s1 : decide (a3_3 < a1_3) = false := decide_eq_false (by omega)
            have s2 : decide (a4_3 < a2_3) = false := decide_eq_false (by omega)
            have s3 : decide (a6 < a5) = true := decide_eq_true (by omega)
            go_wp2
            go_quiet (fail)
            go_wp2
            go_roundw
            case rel => exact ⟨4, by omega, by omega, rfl, ⟨⟨_, rfl⟩⟩⟩
            case measure => simp [intOf]
          · obtain ⟨t1, t2⟩ := F3.out (by omega) (by omega) (by omega)
            have t2' := Aside0.mk t2
            clear t2
            have s1 : decide (a3_3 < a1_3) = false := decide_eq_false (by omega)
            have s2 : decide (a4_3 < a2_3) = false := decide_eq_false (by omega)
            have s3 : decide (a6 < a5) = false := decide_eq_false (by omega)
            have s4 : decide (f3 < e3) = false := decide_eq_false (by omega)
            rcases t2'.out with r1 | ⟨r1, r2⟩ | ⟨r1, r2, r3⟩
            · subst r1
              go_wp2
              go_quiet (fail)
              go_wp2
              go_quiet (fail)
              go_wp2
              go_roundw
              case rel => exact ⟨4, by omega, by omega, rfl, ⟨⟨_, rfl⟩⟩⟩
              case measure => simp [intOf]
            · subst r1; subst r2
              go_wp2
              go_quiet (fail)
              go_wp2
              go_quiet (fail)
              go_wp2
              go_roundw
              case rel => exact ⟨4, by omega, by omega, rfl, ⟨⟨_, rfl⟩⟩⟩
              case measure => simp [intOf]
            · subst r1; subst r2
              have s5 : decide (q3 < p3) = false := decide_eq_false (by omega)
              go_wp2
              go_quiet (fail)
              go_wp2
              go_quiet (fail)
              go_wp2
              go_roundw
              case rel => exact ⟨4, by omega, by omega, rfl, ⟨⟨_, rfl⟩⟩⟩
              case measure => simp [intOf]
    · go_wp2
      go_ret
      exact ⟨rfl, by repeat (with_reducible first | exact Below.refl _ _ | (refine below_set ?_ (by first | omega | exact Nat.le_refl _)) | apply below_alloc | apply pw_below_drewN | apply below_drew1 | refine below_step ?_ hb4 | refine below_step ?_ hb3 | refine below_step ?_ hb2 | refine below_step ?_ hb1 | refine below_step ?_ hb0)⟩
set_option maxHeartbeats 2000000 in
theorem grows_no1 (a0_0 a0_1 a0_2 a0_3 a0_4 : Int) (a1_0 a1_1 a1_2 a1_3 : Int) (a2_0 a2_1 a2_2 a2_3 : Int) (a3_0 a3_1 a3_2 a3_3 : Int) (a4_0 a4_1 a4_2 a4_3 : Int) (a5 : Int) (a6 : Int) (a7_0 a7_1 a7_2 a7_3 : Bool) (f0 f1 f2 f3 f4 : Int) (w : World) (hE_ : detector_Expose.f a0_0 a0_1 a0_2 a0_3 a0_4 a1_0 a1_1 a1_2 a1_3 a2_0 a2_1 a2_2 a2_3 a5 a7_0 a7_1 a7_2 a7_3 = some (0, 0, 0, 0, 1)) (hF_ : detector_Expose.f a0_0 a0_1 a0_2 a0_3 a0_4 a3_0 a3_1 a3_2 a3_3 a4_0 a4_1 a4_2 a4_3 a6 a7_0 a7_1 a7_2 a7_3 = some (f0, f1, f2, f3, f4)) :
    Calls Try.prog 5 #[.agg #[.int .i64 a0_0, .int .i64 a0_1, .int .i64 a0_2, .int .i64 a0_3, .int .i64 a0_4], .agg #[.int .i64 a1_0, .int .i64 a1_1, .int .i64 a1_2, .int .i64 a1_3], .agg #[.int .i64 a2_0, .int .i64 a2_1, .int .i64 a2_2, .int .i64 a2_3], .agg #[.int .i64 a3_0, .int .i64 a3_1, .int .i64 a3_2, .int .i64 a3_3], .agg #[.int .i64 a4_0, .int .i64 a4_1, .int .i64 a4_2, .int .i64 a4_3], .int .i64 a5, .int .i64 a6, .agg #[.bool a7_0, .bool a7_1, .bool a7_2, .bool a7_3]] w fun e w' => e = .returned (.bool true) ∧ Below w.heap.size w w' := by
  have hE := Aside0.mk hE_
  clear hE_
  have hF := Aside0.mk hF_
  clear hF_
  have hu23 := Try.underlying23
  have hu25 := Try.underlying25
  have hu27 := Try.underlying27
  go_enter Try.func5, Try.ntmps5
  go_wp2_with fail
  refine (observatorylaw15_head.calls true _ rfl).mono ?_
  rintro e w0 ⟨rfl, hb0⟩
  obtain ⟨hc0, hf0⟩ := bcell hb0
  have z0_0 : w.heap.size < w0.heap.size := by have := hb0.size; (try simp at this); omega
  have z0_1 : w.heap.size + 1 < w0.heap.size := by have := hb0.size; (try simp at this); omega
  have z0_2 : w.heap.size + 1 + 1 < w0.heap.size := by have := hb0.size; (try simp at this); omega
  have z0_3 : w.heap.size + 1 + 1 + 1 < w0.heap.size := by have := hb0.size; (try simp at this); omega
  have z0_4 : w.heap.size + 1 + 1 + 1 + 1 < w0.heap.size := by have := hb0.size; (try simp at this); omega
  have z0_5 : w.heap.size + 1 + 1 + 1 + 1 + 1 < w0.heap.size := by have := hb0.size; (try simp at this); omega
  go_wp2_with fail
  refine (detector_Expose.calls a0_0 a0_1 a0_2 a0_3 a0_4 a1_0 a1_1 a1_2 a1_3 a2_0 a2_1 a2_2 a2_3 a5 a7_0 a7_1 a7_2 a7_3 0 0 0 0 1 _ hE.out).mono ?_
  rintro e w1 ⟨rfl, hb1⟩
  obtain ⟨hc1, hf1⟩ := bcell hb1
  have z1_0 : w.heap.size < w1.heap.size := by have := hb1.size; (try simp at this); omega
  have z1_1 : w.heap.size + 1 < w1.heap.size := by have := hb1.size; (try simp at this); omega
  have z1_2 : w.heap.size + 1 + 1 < w1.heap.size := by have := hb1.size; (try simp at this); omega
  have z1_3 : w.heap.size + 1 + 1 + 1 < w1.heap.size := by have := hb1.size; (try simp at this); omega
  have z1_4 : w.heap.size + 1 + 1 + 1 + 1 < w1.heap.size := by have := hb1.size; (try simp at this); omega
  have z1_5 : w.heap.size + 1 + 1 + 1 + 1 + 1 < w1.heap.size := by have := hb1.size; (try simp at this); omega
  go_wp2_with fail
  refine (detector_Expose.calls a0_0 a0_1 a0_2 a0_3 a0_4 a3_0 a3_1 a3_2 a3_3 a4_0 a4_1 a4_2 a4_3 a6 a7_0 a7_1 a7_2 a7_3 f0 f1 f2 f3 f4 _ hF.out).mono ?_
  rintro e w2 ⟨rfl, hb2⟩
  obtain ⟨hc2, hf2⟩ := bcell hb2
  have z2_0 : w.heap.size < w2.heap.size := by have := hb2.size; (try simp at this); omega
  have z2_1 : w.heap.size + 1 < w2.heap.size := by have := hb2.size; (try simp at this); omega
  have z2_2 : w.heap.size + 1 + 1 < w2.heap.size := by have := hb2.size; (try simp at this); omega
  have z2_3 : w.heap.size + 1 + 1 + 1 < w2.heap.size := by have := hb2.size; (try simp at this); omega
  have z2_4 : w.heap.size + 1 + 1 + 1 + 1 < w2.heap.size := by have := hb2.size; (try simp at this); omega
  have z2_5 : w.heap.size + 1 + 1 + 1 + 1 + 1 < w2.heap.size := by have := hb2.size; (try simp at this); omega
  have z2_6 : w1.heap.size < w2.heap.size := by have := hb2.size; (try simp at this); omega
  go_wp2
  go_ret
  exact ⟨rfl, by repeat (with_reducible first | exact Below.refl _ _ | (refine below_set ?_ (by first | omega | exact Nat.le_refl _)) | apply below_alloc | apply pw_below_drewN | apply below_drew1 | refine below_step ?_ hb2 | refine below_step ?_ hb1 | refine below_step ?_ hb0)⟩
set_option maxHeartbeats 2000000 in
theorem grows_no2 (a0_0 a0_1 a0_2 a0_3 a0_4 : Int) (a1_0 a1_1 a1_2 a1_3 : Int) (a2_0 a2_1 a2_2 a2_3 : Int) (a3_0 a3_1 a3_2 a3_3 : Int) (a4_0 a4_1 a4_2 a4_3 : Int) (a5 : Int) (a6 : Int) (a7_0 a7_1 a7_2 a7_3 : Bool) (e0 e1 e2 e3 : Int) (w : World) (hE_ : detector_Expose.f a0_0 a0_1 a0_2 a0_3 a0_4 a1_0 a1_1 a1_2 a1_3 a2_0 a2_1 a2_2 a2_3 a5 a7_0 a7_1 a7_2 a7_3 = some (e0, e1, e2, e3, 0)) (hF_ : detector_Expose.f a0_0 a0_1 a0_2 a0_3 a0_4 a3_0 a3_1 a3_2 a3_3 a4_0 a4_1 a4_2 a4_3 a6 a7_0 a7_1 a7_2 a7_3 = some (0, 0, 0, 0, 1)) :
    Calls Try.prog 5 #[.agg #[.int .i64 a0_0, .int .i64 a0_1, .int .i64 a0_2, .int .i64 a0_3, .int .i64 a0_4], .agg #[.int .i64 a1_0, .int .i64 a1_1, .int .i64 a1_2, .int .i64 a1_3], .agg #[.int .i64 a2_0, .int .i64 a2_1, .int .i64 a2_2, .int .i64 a2_3], .agg #[.int .i64 a3_0, .int .i64 a3_1, .int .i64 a3_2, .int .i64 a3_3], .agg #[.int .i64 a4_0, .int .i64 a4_1, .int .i64 a4_2, .int .i64 a4_3], .int .i64 a5, .int .i64 a6, .agg #[.bool a7_0, .bool a7_1, .bool a7_2, .bool a7_3]] w fun e w' => e = .returned (.bool true) ∧ Below w.heap.size w w' := by
  have hE := Aside0.mk hE_
  clear hE_
  have hF := Aside0.mk hF_
  clear hF_
  have hu23 := Try.underlying23
  have hu25 := Try.underlying25
  have hu27 := Try.underlying27
  go_enter Try.func5, Try.ntmps5
  go_wp2_with fail
  refine (observatorylaw15_head.calls true _ rfl).mono ?_
  rintro e w0 ⟨rfl, hb0⟩
  obtain ⟨hc0, hf0⟩ := bcell hb0
  have z0_0 : w.heap.size < w0.heap.size := by have := hb0.size; (try simp at this); omega
  have z0_1 : w.heap.size + 1 < w0.heap.size := by have := hb0.size; (try simp at this); omega
  have z0_2 : w.heap.size + 1 + 1 < w0.heap.size := by have := hb0.size; (try simp at this); omega
  have z0_3 : w.heap.size + 1 + 1 + 1 < w0.heap.size := by have := hb0.size; (try simp at this); omega
  have z0_4 : w.heap.size + 1 + 1 + 1 + 1 < w0.heap.size := by have := hb0.size; (try simp at this); omega
  have z0_5 : w.heap.size + 1 + 1 + 1 + 1 + 1 < w0.heap.size := by have := hb0.size; (try simp at this); omega
  go_wp2_with fail
  refine (detector_Expose.calls a0_0 a0_1 a0_2 a0_3 a0_4 a1_0 a1_1 a1_2 a1_3 a2_0 a2_1 a2_2 a2_3 a5 a7_0 a7_1 a7_2 a7_3 e0 e1 e2 e3 0 _ hE.out).mono ?_
  rintro e w1 ⟨rfl, hb1⟩
  obtain ⟨hc1, hf1⟩ := bcell hb1
  have z1_0 : w.heap.size < w1.heap.size := by have := hb1.size; (try simp at this); omega
  have z1_1 : w.heap.size + 1 < w1.heap.size := by have := hb1.size; (try simp at this); omega
  have z1_2 : w.heap.size + 1 + 1 < w1.heap.size := by have := hb1.size; (try simp at this); omega
  have z1_3 : w.heap.size + 1 + 1 + 1 < w1.heap.size := by have := hb1.size; (try simp at this); omega
  have z1_4 : w.heap.size + 1 + 1 + 1 + 1 < w1.heap.size := by have := hb1.size; (try simp at this); omega
  have z1_5 : w.heap.size + 1 + 1 + 1 + 1 + 1 < w1.heap.size := by have := hb1.size; (try simp at this); omega
  go_wp2_with fail
  refine (detector_Expose.calls a0_0 a0_1 a0_2 a0_3 a0_4 a3_0 a3_1 a3_2 a3_3 a4_0 a4_1 a4_2 a4_3 a6 a7_0 a7_1 a7_2 a7_3 0 0 0 0 1 _ hF.out).mono ?_
  rintro e w2 ⟨rfl, hb2⟩
  obtain ⟨hc2, hf2⟩ := bcell hb2
  have z2_0 : w.heap.size < w2.heap.size := by have := hb2.size; (try simp at this); omega
  have z2_1 : w.heap.size + 1 < w2.heap.size := by have := hb2.size; (try simp at this); omega
  have z2_2 : w.heap.size + 1 + 1 < w2.heap.size := by have := hb2.size; (try simp at this); omega
  have z2_3 : w.heap.size + 1 + 1 + 1 < w2.heap.size := by have := hb2.size; (try simp at this); omega
  have z2_4 : w.heap.size + 1 + 1 + 1 + 1 < w2.heap.size := by have := hb2.size; (try simp at this); omega
  have z2_5 : w.heap.size + 1 + 1 + 1 + 1 + 1 < w2.heap.size := by have := hb2.size; (try simp at this); omega
  have z2_6 : w1.heap.size < w2.heap.size := by have := hb2.size; (try simp at this); omega
  go_wp2
  go_ret
  exact ⟨rfl, by repeat (with_reducible first | exact Below.refl _ _ | (refine below_set ?_ (by first | omega | exact Nat.le_refl _)) | apply below_alloc | apply pw_below_drewN | apply below_drew1 | refine below_step ?_ hb2 | refine below_step ?_ hb1 | refine below_step ?_ hb0)⟩
theorem expose_some' (a0_0 a0_1 a0_2 a0_3 a0_4 a1_0 a1_1 a1_2 a1_3 a2_0 a2_1 a2_2 a2_3 o : Int) (a7_0 a7_1 a7_2 a7_3 : Bool) : ∃ r1 r2 r3 r4 r5, detector_Expose.f a0_0 a0_1 a0_2 a0_3 a0_4 a1_0 a1_1 a1_2 a1_3 a2_0 a2_1 a2_2 a2_3 o a7_0 a7_1 a7_2 a7_3 = some (r1, r2, r3, r4, r5) := by
  unfold detector_Expose.f
  split <;> exact ⟨_, _, _, _, _, rfl⟩
theorem grows_walk (a0_0 a0_1 a0_2 a0_3 a0_4 : Int) (a1_0 a1_1 a1_2 a1_3 : Int) (a2_0 a2_1 a2_2 a2_3 : Int) (a3_0 a3_1 a3_2 a3_3 : Int) (a4_0 a4_1 a4_2 a4_3 : Int) (a5 : Int) (a6 : Int) (a7_0 a7_1 a7_2 a7_3 : Bool) (w : World) :
    Calls Try.prog 5 #[.agg #[.int .i64 a0_0, .int .i64 a0_1, .int .i64 a0_2, .int .i64 a0_3, .int .i64 a0_4], .agg #[.int .i64 a1_0, .int .i64 a1_1, .int .i64 a1_2, .int .i64 a1_3], .agg #[.int .i64 a2_0, .int .i64 a2_1, .int .i64 a2_2, .int .i64 a2_3], .agg #[.int .i64 a3_0, .int .i64 a3_1, .int .i64 a3_2, .int .i64 a3_3], .agg #[.int .i64 a4_0, .int .i64 a4_1, .int .i64 a4_2, .int .i64 a4_3], .int .i64 a5, .int .i64 a6, .agg #[.bool a7_0, .bool a7_1, .bool a7_2, .bool a7_3]] w fun e w' => e = .returned (.bool true) ∧ Below w.heap.size w w' := by
  by_cases c : vldB a0_0 a0_1 a0_2 a0_3 a0_4 = true ∧ ligB a1_0 a1_1 a1_2 a1_3 1000000 = true ∧ ligB a2_0 a2_1 a2_2 a2_3 1000000 = true ∧ offB a5 = true
  · have hE : detector_Expose.f a0_0 a0_1 a0_2 a0_3 a0_4 a1_0 a1_1 a1_2 a1_3 a2_0 a2_1 a2_2 a2_3 a5 a7_0 a7_1 a7_2 a7_3 = some ((clp (expo a7_0 a0_0 a0_1 a0_2 a1_0 a2_0 a5) a0_3), (clp (expo a7_1 a0_0 a0_1 a0_2 a1_1 a2_1 a5) a0_3), (clp (expo a7_2 a0_0 a0_1 a0_2 a1_2 a2_2 a5) a0_3), (clp (expo a7_3 a0_0 a0_1 a0_2 a1_3 a2_3 a5) a0_3), 0) := by unfold detector_Expose.f; exact if_pos c
    by_cases c2 : vldB a0_0 a0_1 a0_2 a0_3 a0_4 = true ∧ ligB a3_0 a3_1 a3_2 a3_3 1000000 = true ∧ ligB a4_0 a4_1 a4_2 a4_3 1000000 = true ∧ offB a6 = true
    · have hF : detector_Expose.f a0_0 a0_1 a0_2 a0_3 a0_4 a3_0 a3_1 a3_2 a3_3 a4_0 a4_1 a4_2 a4_3 a6 a7_0 a7_1 a7_2 a7_3 = some ((clp (expo a7_0 a0_0 a0_1 a0_2 a3_0 a4_0 a6) a0_3), (clp (expo a7_1 a0_0 a0_1 a0_2 a3_1 a4_1 a6) a0_3), (clp (expo a7_2 a0_0 a0_1 a0_2 a3_2 a4_2 a6) a0_3), (clp (expo a7_3 a0_0 a0_1 a0_2 a3_3 a4_3 a6) a0_3), 0) := by unfold detector_Expose.f; exact if_pos c2
      obtain ⟨g1, g2, b1, b2, d1, d2, f1, f2, k1, k2⟩ := vld_bd c.1
      have hR : detector_Reduce.f a0_0 a0_1 a0_2 a0_3 a0_4 (clp (expo a7_0 a0_0 a0_1 a0_2 a1_0 a2_0 a5) a0_3) (clp (expo a7_1 a0_0 a0_1 a0_2 a1_1 a2_1 a5) a0_3) (clp (expo a7_2 a0_0 a0_1 a0_2 a1_2 a2_2 a5) a0_3) (clp (expo a7_3 a0_0 a0_1 a0_2 a1_3 a2_3 a5) a0_3) a7_0 a7_1 a7_2 a7_3 = some (red (okc a7_0 (clp (expo a7_0 a0_0 a0_1 a0_2 a1_0 a2_0 a5) a0_3) a0_3) (clp (expo a7_0 a0_0 a0_1 a0_2 a1_0 a2_0 a5) a0_3) a0_0 a0_1 a0_2, red (okc a7_1 (clp (expo a7_1 a0_0 a0_1 a0_2 a1_1 a2_1 a5) a0_3) a0_3) (clp (expo a7_1 a0_0 a0_1 a0_2 a1_1 a2_1 a5) a0_3) a0_0 a0_1 a0_2, red (okc a7_2 (clp (expo a7_2 a0_0 a0_1 a0_2 a1_2 a2_2 a5) a0_3) a0_3) (clp (expo a7_2 a0_0 a0_1 a0_2 a1_2 a2_2 a5) a0_3) a0_0 a0_1 a0_2, red (okc a7_3 (clp (expo a7_3 a0_0 a0_1 a0_2 a1_3 a2_3 a5) a0_3) a0_3) (clp (expo a7_3 a0_0 a0_1 a0_2 a1_3 a2_3 a5) a0_3) a0_0 a0_1 a0_2, (okc a7_0 (clp (expo a7_0 a0_0 a0_1 a0_2 a1_0 a2_0 a5) a0_3) a0_3), (okc a7_1 (clp (expo a7_1 a0_0 a0_1 a0_2 a1_1 a2_1 a5) a0_3) a0_3), (okc a7_2 (clp (expo a7_2 a0_0 a0_1 a0_2 a1_2 a2_2 a5) a0_3) a0_3), (okc a7_3 (clp (expo a7_3 a0_0 a0_1 a0_2 a1_3 a2_3 a5) a0_3) a0_3), 0) := by
        unfold detector_Reduce.f
        exact if_pos (by rw [c.1, clp_lig _ _ _ _ (by omega)]; rfl)
      have hS : detector_Reduce.f a0_0 a0_1 a0_2 a0_3 a0_4 (clp (expo a7_0 a0_0 a0_1 a0_2 a3_0 a4_0 a6) a0_3) (clp (expo a7_1 a0_0 a0_1 a0_2 a3_1 a4_1 a6) a0_3) (clp (expo a7_2 a0_0 a0_1 a0_2 a3_2 a4_2 a6) a0_3) (clp (expo a7_3 a0_0 a0_1 a0_2 a3_3 a4_3 a6) a0_3) a7_0 a7_1 a7_2 a7_3 = some (red (okc a7_0 (clp (expo a7_0 a0_0 a0_1 a0_2 a3_0 a4_0 a6) a0_3) a0_3) (clp (expo a7_0 a0_0 a0_1 a0_2 a3_0 a4_0 a6) a0_3) a0_0 a0_1 a0_2, red (okc a7_1 (clp (expo a7_1 a0_0 a0_1 a0_2 a3_1 a4_1 a6) a0_3) a0_3) (clp (expo a7_1 a0_0 a0_1 a0_2 a3_1 a4_1 a6) a0_3) a0_0 a0_1 a0_2, red (okc a7_2 (clp (expo a7_2 a0_0 a0_1 a0_2 a3_2 a4_2 a6) a0_3) a0_3) (clp (expo a7_2 a0_0 a0_1 a0_2 a3_2 a4_2 a6) a0_3) a0_0 a0_1 a0_2, red (okc a7_3 (clp (expo a7_3 a0_0 a0_1 a0_2 a3_3 a4_3 a6) a0_3) a0_3) (clp (expo a7_3 a0_0 a0_1 a0_2 a3_3 a4_3 a6) a0_3) a0_0 a0_1 a0_2, (okc a7_0 (clp (expo a7_0 a0_0 a0_1 a0_2 a3_0 a4_0 a6) a0_3) a0_3), (okc a7_1 (clp (expo a7_1 a0_0 a0_1 a0_2 a3_1 a4_1 a6) a0_3) a0_3), (okc a7_2 (clp (expo a7_2 a0_0 a0_1 a0_2 a3_2 a4_2 a6) a0_3) a0_3), (okc a7_3 (clp (expo a7_3 a0_0 a0_1 a0_2 a3_3 a4_3 a6) a0_3) a0_3), 0) := by
        unfold detector_Reduce.f
        exact if_pos (by rw [c.1, clp_lig _ _ _ _ (by omega)]; rfl)
      exact grows_ok a0_0 a0_1 a0_2 a0_3 a0_4 a1_0 a1_1 a1_2 a1_3 a2_0 a2_1 a2_2 a2_3 a3_0 a3_1 a3_2 a3_3 a4_0 a4_1 a4_2 a4_3 a5 a6 a7_0 a7_1 a7_2 a7_3 _ _ _ _ _ _ _ _ _ _ _ _ _ _ _ _ _ _ _ _ _ _ _ _ w hE hF hR hS (groF a7_0 g1 f1) (groF a7_1 g1 f1) (groF a7_2 g1 f1) (groF a7_3 g1 f1)
    · exact grows_no2 a0_0 a0_1 a0_2 a0_3 a0_4 a1_0 a1_1 a1_2 a1_3 a2_0 a2_1 a2_2 a2_3 a3_0 a3_1 a3_2 a3_3 a4_0 a4_1 a4_2 a4_3 a5 a6 a7_0 a7_1 a7_2 a7_3 _ _ _ _ w hE (by unfold detector_Expose.f; exact if_neg c2)
  · obtain ⟨f0, f1, f2, f3, f4, hF⟩ := expose_some' a0_0 a0_1 a0_2 a0_3 a0_4 a3_0 a3_1 a3_2 a3_3 a4_0 a4_1 a4_2 a4_3 a6 a7_0 a7_1 a7_2 a7_3
    exact grows_no1 a0_0 a0_1 a0_2 a0_3 a0_4 a1_0 a1_1 a1_2 a1_3 a2_0 a2_1 a2_2 a2_3 a3_0 a3_1 a3_2 a3_3 a4_0 a4_1 a4_2 a4_3 a5 a6 a7_0 a7_1 a7_2 a7_3 _ _ _ _ _ w (by unfold detector_Expose.f; exact if_neg c) hF
end Go.Proofs.Ytgagnoijnhhegaa.Px
