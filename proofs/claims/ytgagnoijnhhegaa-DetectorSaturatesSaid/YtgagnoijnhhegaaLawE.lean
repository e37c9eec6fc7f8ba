/- The law DetectorSaturates, walked: a full cell has no valid estimate, without Keep there is no ghost, and light and ghost can be exchanged. -/
import Derived.Test.YtgagnoijnhhegaaLawB
namespace Go.Proofs.Ytgagnoijnhhegaa.Px
open Go.RowKit Go.Proofs.YtgagnoijnhhegaaW.PrintWords Go.Proofs.YtgagnoijnhhegaaW.PrintLast Go.Proofs.YtgagnoijnhhegaaW.PrintMore
attribute [local go_sem] max2_int min2_int max_two min_two max_three min_three max_four min_four World.size_setCell
attribute [local go_sem high] eqA25 eqM27
set_option linter.unusedVariables false
set_option linter.unusedSimpArgs false
/-- A cell is valid or full. -/
def SatF (f e : Int) (v : Bool) : Prop := (v = true ∧ (e == f) = false) ∨ (v = false ∧ (e == f) = true)
theorem satF (x f : Int) (hf : 0 ≤ f) : SatF f (clp x f) (okc false (clp x f) f) := by
  have h := clp_bd x hf
  unfold SatF okc
  by_cases c : clp x f < f
  · exact .inl ⟨by simp [c], by simp; omega⟩
  · exact .inr ⟨by simp; omega, by simp; omega⟩
theorem expo_swap (bad : Bool) (g b d x y o : Int) : expo bad g b d x y o = expo bad g b d y x o := by unfold expo; rw [Int.add_comm x y]
theorem gho_zero (r f : Int) : gho r f 0 = 0 := by unfold gho; simp
set_option maxRecDepth 100000 in
set_option maxHeartbeats 16000000 in
theorem saturates_ok (a0_0 a0_1 a0_2 a0_3 a0_4 : Int) (a1_0 a1_1 a1_2 a1_3 : Int) (a2_0 a2_1 a2_2 a2_3 : Int) (a3 : Int) (e0 e1 e2 e3 p0 p1 p2 p3 : Int) (v0 v1 v2 v3 : Bool) (w : World) (hE_ : detector_Expose.f a0_0 a0_1 a0_2 a0_3 a0_4 a1_0 a1_1 a1_2 a1_3 a2_0 a2_1 a2_2 a2_3 a3 false false false false = some (e0, e1, e2, e3, 0)) (hF_ : detector_Expose.f a0_0 a0_1 a0_2 a0_3 a0_4 a2_0 a2_1 a2_2 a2_3 a1_0 a1_1 a1_2 a1_3 a3 false false false false = some (e0, e1, e2, e3, 0)) (hR_ : detector_Reduce.f a0_0 a0_1 a0_2 a0_3 a0_4 e0 e1 e2 e3 false false false false = some (p0, p1, p2, p3, v0, v1, v2, v3, 0)) (hG_ : detector_Ghost.f a0_0 a0_1 a0_2 a0_3 0 e0 e1 e2 e3 = some (0, 0, 0, 0, 0)) (F0_ : SatF a0_3 e0 v0) (F1_ : SatF a0_3 e1 v1) (F2_ : SatF a0_3 e2 v2) (F3_ : SatF a0_3 e3 v3) :
    Calls Try.prog 8 #[.agg #[.int .i64 a0_0, .int .i64 a0_1, .int .i64 a0_2, .int .i64 a0_3, .int .i64 a0_4], .agg #[.int .i64 a1_0, .int .i64 a1_1, .int .i64 a1_2, .int .i64 a1_3], .agg #[.int .i64 a2_0, .int .i64 a2_1, .int .i64 a2_2, .int .i64 a2_3], .int .i64 a3] w fun e w' => e = .returned (.bool true) ∧ Below w.heap.size w w' := by
  have hE := Aside0.mk hE_
  clear hE_
  have hF := Aside0.mk hF_
  clear hF_
  have hR := Aside0.mk hR_
  clear hR_
  have hG := Aside0.mk hG_
  clear hG_
  have F0 := Aside0.mk F0_
  clear F0_
  have F1 := Aside0.mk F1_
  clear F1_
  have F2 := Aside0.mk F2_
  clear F2_
  have F3 := Aside0.mk F3_
  clear F3_
  have hu23 := Try.underlying23
  have hu25 := Try.underlying25
  have hu27 := Try.underlying27
  go_enter Try.func8, Try.ntmps8
  go_wp2_with fail
  refine (observatorylaw15_head.calls true _ rfl).mono ?_
  rintro e w0 ⟨rfl, hb0⟩
  obtain ⟨hc0, hf0⟩ := bcell hb0
  have z0_0 : w.heap.size < w0.heap.size := by have := hb0.size; (try simp at this); omega
  have z0_1 : w.heap.size + 1 < w0.heap.size := by have := hb0.size; (try simp at this); omega
  have z0_2 : w.heap.size + 1 + 1 < w0.heap.size := by have := hb0.size; (try simp at this); omega
  go_wp2_with fail
  refine (detector_Expose.calls a0_0 a0_1 a0_2 a0_3 a0_4 a1_0 a1_1 a1_2 a1_3 a2_0 a2_1 a2_2 a2_3 a3 false false false false e0 e1 e2 e3 0 _ hE.out).mono ?_
  rintro e w1 ⟨rfl, hb1⟩
  obtain ⟨hc1, hf1⟩ := bcell hb1
  have z1_0 : w.heap.size < w1.heap.size := by have := hb1.size; (try simp at this); omega
  have z1_1 : w.heap.size + 1 < w1.heap.size := by have := hb1.size; (try simp at this); omega
  have z1_2 : w.heap.size + 1 + 1 < w1.heap.size := by have := hb1.size; (try simp at this); omega
  go_wp2_with fail
  refine (detector_Expose.calls a0_0 a0_1 a0_2 a0_3 a0_4 a2_0 a2_1 a2_2 a2_3 a1_0 a1_1 a1_2 a1_3 a3 false false false false e0 e1 e2 e3 0 _ hF.out).mono ?_
  rintro e w2 ⟨rfl, hb2⟩
  obtain ⟨hc2, hf2⟩ := bcell hb2
  have z2_0 : w.heap.size < w2.heap.size := by have := hb2.size; (try simp at this); omega
  have z2_1 : w.heap.size + 1 < w2.heap.size := by have := hb2.size; (try simp at this); omega
  have z2_2 : w.heap.size + 1 + 1 < w2.heap.size := by have := hb2.size; (try simp at this); omega
  have z2_3 : w1.heap.size < w2.heap.size := by have := hb2.size; (try simp at this); omega
  go_wp2_with fail
  refine (detector_Reduce.calls a0_0 a0_1 a0_2 a0_3 a0_4 e0 e1 e2 e3 false false false false p0 p1 p2 p3 v0 v1 v2 v3 0 _ hR.out).mono ?_
  rintro e w3 ⟨rfl, hb3⟩
  obtain ⟨hc3, hf3⟩ := bcell hb3
  have z3_0 : w.heap.size < w3.heap.size := by have := hb3.size; (try simp at this); omega
  have z3_1 : w.heap.size + 1 < w3.heap.size := by have := hb3.size; (try simp at this); omega
  have z3_2 : w.heap.size + 1 + 1 < w3.heap.size := by have := hb3.size; (try simp at this); omega
  have z3_3 : w1.heap.size < w3.heap.size := by have := hb3.size; (try simp at this); omega
  have z3_4 : w2.heap.size < w3.heap.size := by have := hb3.size; (try simp at this); omega
  have yyy3_0 : w.heap.size < w3.heap.size + 1 + 1 := by omega
  have yyy3_1 : w.heap.size + 1 < w3.heap.size + 1 + 1 := by omega
  have yyy3_2 : w.heap.size + 1 + 1 < w3.heap.size + 1 + 1 := by omega
  have yyy3_3 : w1.heap.size < w3.heap.size + 1 + 1 := by omega
  have yyy3_4 : w2.heap.size < w3.heap.size + 1 + 1 := by omega
  have yyy3_5 : w3.heap.size < w3.heap.size + 1 + 1 := by omega
  have yyy3_6 : w3.heap.size + 1 < w3.heap.size + 1 + 1 := by omega
  have y3_0 : w.heap.size < w3.heap.size + 1 + 1 + 1 := by omega
  have y3_1 : w.heap.size + 1 < w3.heap.size + 1 + 1 + 1 := by omega
  have y3_2 : w.heap.size + 1 + 1 < w3.heap.size + 1 + 1 + 1 := by omega
  have y3_3 : w1.heap.size < w3.heap.size + 1 + 1 + 1 := by omega
  have y3_4 : w2.heap.size < w3.heap.size + 1 + 1 + 1 := by omega
  have y3_5 : w3.heap.size < w3.heap.size + 1 + 1 + 1 := by omega
  have y3_6 : w3.heap.size + 1 < w3.heap.size + 1 + 1 + 1 := by omega
  have y3_7 : w3.heap.size + 1 + 1 < w3.heap.size + 1 + 1 + 1 := by omega
  go_wp2_with fail
  refine (detector_Ghost.calls a0_0 a0_1 a0_2 a0_3 0 e0 e1 e2 e3 0 0 0 0 0 _ hG.out).mono ?_
  rintro e w4 ⟨rfl, hb4⟩
  obtain ⟨hc4, hf4⟩ := bcell hb4
  have z4_0 : w.heap.size < w4.heap.size := by have := hb4.size; (try simp at this); omega
  have z4_1 : w.heap.size + 1 < w4.heap.size := by have := hb4.size; (try simp at this); omega
  have z4_2 : w.heap.size + 1 + 1 < w4.heap.size := by have := hb4.size; (try simp at this); omega
  have z4_3 : w1.heap.size < w4.heap.size := by have := hb4.size; (try simp at this); omega
  have z4_4 : w2.heap.size < w4.heap.size := by have := hb4.size; (try simp at this); omega
  have z4_5 : w3.heap.size < w4.heap.size := by have := hb4.size; (try simp at this); omega
  have z4_6 : w3.heap.size + 1 < w4.heap.size := by have := hb4.size; (try simp at this); omega
  have z4_7 : w3.heap.size + 1 + 1 < w4.heap.size := by have := hb4.size; (try simp at this); omega
  go_wp2
  go_loopw [20] (fun i wr => ∃ k : Int, 0 ≤ k ∧ k ≤ 4 ∧ i = .int .i64 k ∧ Aside0 (∃ n, wr = (w4.alloc (.cells #[.int .i64 0, .int .i64 0, .int .i64 0, .int .i64 0] 25)).drewN n)) (fun i _ => 4 - (intOf i).toNat)
  case atStart => exact ⟨0, by omega, by omega, rfl, ⟨0, rfl⟩⟩
  case round =>
    obtain ⟨k, hk0, hk, rfl, ⟨n, rfl⟩⟩ := hrel
    have hk5 : k = 0 ∨ k = 1 ∨ k = 2 ∨ k = 3 ∨ k = 4 := by omega
    rcases hk5 with rfl | rfl | rfl | rfl | rfl
    · rcases F0.out with ⟨t1, t2⟩ | ⟨t1, t2⟩
      · subst t1
        go_wp2
        go_quiet (fail)
        go_wp2
        go_roundw
        case rel => exact ⟨1, by omega, by omega, rfl, ⟨⟨_, rfl⟩⟩⟩
        case measure => simp [intOf]
      · subst t1
        go_wp2
        go_quiet (fail)
        go_wp2
        go_roundw
        case rel => exact ⟨1, by omega, by omega, rfl, ⟨⟨_, rfl⟩⟩⟩
        case measure => simp [intOf]
    · rcases F1.out with ⟨t1, t2⟩ | ⟨t1, t2⟩
      · subst t1
        go_wp2
        go_quiet (fail)
        go_wp2
        go_roundw
        case rel => exact ⟨2, by omega, by omega, rfl, ⟨⟨_, rfl⟩⟩⟩
        case measure => simp [intOf]
      · subst t1
        go_wp2
        go_quiet (fail)
        go_wp2
        go_roundw
        case rel => exact ⟨2, by omega, by omega, rfl, ⟨⟨_, rfl⟩⟩⟩
        case measure => simp [intOf]
    · rcases F2.out with ⟨t1, t2⟩ | ⟨t1, t2⟩
      · subst t1
        go_wp2
        go_quiet (fail)
        go_wp2
        go_roundw
        case rel => exact ⟨3, by omega, by omega, rfl, ⟨⟨_, rfl⟩⟩⟩
        case measure => simp [intOf]
      · subst t1
        go_wp2
        go_quiet (fail)
        go_wp2
        go_roundw
        case rel => exact ⟨3, by omega, by omega, rfl, ⟨⟨_, rfl⟩⟩⟩
        case measure => simp [intOf]
    · rcases F3.out with ⟨t1, t2⟩ | ⟨t1, t2⟩
      · subst t1
        go_wp2
        go_quiet (fail)
        go_wp2
        go_roundw
        case rel => exact ⟨4, by omega, by omega, rfl, ⟨⟨_, rfl⟩⟩⟩
        case measure => simp [intOf]
      · subst t1
        go_wp2
        go_quiet (fail)
        go_wp2
        go_roundw
        case rel => exact ⟨4, by omega, by omega, rfl, ⟨⟨_, rfl⟩⟩⟩
        case measure => simp [intOf]
    · go_wp2
      go_ret
      exact ⟨rfl, by repeat (with_reducible first | exact Below.refl _ _ | (refine below_set ?_ (by first | omega | exact Nat.le_refl _)) | apply below_alloc | apply pw_below_drewN | apply below_drew1 | refine below_step ?_ hb4 | refine below_step ?_ hb3 | refine below_step ?_ hb2 | refine below_step ?_ hb1 | refine below_step ?_ hb0)⟩
set_option maxHeartbeats 2000000 in
theorem saturates_no (a0_0 a0_1 a0_2 a0_3 a0_4 : Int) (a1_0 a1_1 a1_2 a1_3 : Int) (a2_0 a2_1 a2_2 a2_3 : Int) (a3 : Int) (w : World) (hE_ : detector_Expose.f a0_0 a0_1 a0_2 a0_3 a0_4 a1_0 a1_1 a1_2 a1_3 a2_0 a2_1 a2_2 a2_3 a3 false false false false = some (0, 0, 0, 0, 1)) (hF_ : detector_Expose.f a0_0 a0_1 a0_2 a0_3 a0_4 a2_0 a2_1 a2_2 a2_3 a1_0 a1_1 a1_2 a1_3 a3 false false false false = some (0, 0, 0, 0, 1)) :
    Calls Try.prog 8 #[.agg #[.int .i64 a0_0, .int .i64 a0_1, .int .i64 a0_2, .int .i64 a0_3, .int .i64 a0_4], .agg #[.int .i64 a1_0, .int .i64 a1_1, .int .i64 a1_2, .int .i64 a1_3], .agg #[.int .i64 a2_0, .int .i64 a2_1, .int .i64 a2_2, .int .i64 a2_3], .int .i64 a3] w fun e w' => e = .returned (.bool true) ∧ Below w.heap.size w w' := by
  have hE := Aside0.mk hE_
  clear hE_
  have hF := Aside0.mk hF_
  clear hF_
  have hu23 := Try.underlying23
  have hu25 := Try.underlying25
  have hu27 := Try.underlying27
  go_enter Try.func8, Try.ntmps8
  go_wp2_with fail
  refine (observatorylaw15_head.calls true _ rfl).mono ?_
  rintro e w0 ⟨rfl, hb0⟩
  obtain ⟨hc0, hf0⟩ := bcell hb0
  have z0_0 : w.heap.size < w0.heap.size := by have := hb0.size; (try simp at this); omega
  have z0_1 : w.heap.size + 1 < w0.heap.size := by have := hb0.size; (try simp at this); omega
  have z0_2 : w.heap.size + 1 + 1 < w0.heap.size := by have := hb0.size; (try simp at this); omega
  go_wp2_with fail
  refine (detector_Expose.calls a0_0 a0_1 a0_2 a0_3 a0_4 a1_0 a1_1 a1_2 a1_3 a2_0 a2_1 a2_2 a2_3 a3 false false false false 0 0 0 0 1 _ hE.out).mono ?_
  rintro e w1 ⟨rfl, hb1⟩
  obtain ⟨hc1, hf1⟩ := bcell hb1
  have z1_0 : w.heap.size < w1.heap.size := by have := hb1.size; (try simp at this); omega
  have z1_1 : w.heap.size + 1 < w1.heap.size := by have := hb1.size; (try simp at this); omega
  have z1_2 : w.heap.size + 1 + 1 < w1.heap.size := by have := hb1.size; (try simp at this); omega
  go_wp2_with fail
  refine (detector_Expose.calls a0_0 a0_1 a0_2 a0_3 a0_4 a2_0 a2_1 a2_2 a2_3 a1_0 a1_1 a1_2 a1_3 a3 false false false false 0 0 0 0 1 _ hF.out).mono ?_
  rintro e w2 ⟨rfl, hb2⟩
  obtain ⟨hc2, hf2⟩ := bcell hb2
  have z2_0 : w.heap.size < w2.heap.size := by have := hb2.size; (try simp at this); omega
  have z2_1 : w.heap.size + 1 < w2.heap.size := by have := hb2.size; (try simp at this); omega
  have z2_2 : w.heap.size + 1 + 1 < w2.heap.size := by have := hb2.size; (try simp at this); omega
  have z2_3 : w1.heap.size < w2.heap.size := by have := hb2.size; (try simp at this); omega
  go_wp2
  go_ret
  exact ⟨rfl, by repeat (with_reducible first | exact Below.refl _ _ | (refine below_set ?_ (by first | omega | exact Nat.le_refl _)) | apply below_alloc | apply pw_below_drewN | apply below_drew1 | refine below_step ?_ hb2 | refine below_step ?_ hb1 | refine below_step ?_ hb0)⟩
theorem saturates_walk (a0_0 a0_1 a0_2 a0_3 a0_4 : Int) (a1_0 a1_1 a1_2 a1_3 : Int) (a2_0 a2_1 a2_2 a2_3 : Int) (a3 : Int) (w : World) :
    Calls Try.prog 8 #[.agg #[.int .i64 a0_0, .int .i64 a0_1, .int .i64 a0_2, .int .i64 a0_3, .int .i64 a0_4], .agg #[.int .i64 a1_0, .int .i64 a1_1, .int .i64 a1_2, .int .i64 a1_3], .agg #[.int .i64 a2_0, .int .i64 a2_1, .int .i64 a2_2, .int .i64 a2_3], .int .i64 a3] w fun e w' => e = .returned (.bool true) ∧ Below w.heap.size w w' := by
  by_cases c : vldB a0_0 a0_1 a0_2 a0_3 a0_4 = true ∧ ligB a1_0 a1_1 a1_2 a1_3 1000000 = true ∧ ligB a2_0 a2_1 a2_2 a2_3 1000000 = true ∧ offB a3 = true
  · have hE : detector_Expose.f a0_0 a0_1 a0_2 a0_3 a0_4 a1_0 a1_1 a1_2 a1_3 a2_0 a2_1 a2_2 a2_3 a3 false false false false = some ((clp (expo false a0_0 a0_1 a0_2 a1_0 a2_0 a3) a0_3), (clp (expo false a0_0 a0_1 a0_2 a1_1 a2_1 a3) a0_3), (clp (expo false a0_0 a0_1 a0_2 a1_2 a2_2 a3) a0_3), (clp (expo false a0_0 a0_1 a0_2 a1_3 a2_3 a3) a0_3), 0) := by unfold detector_Expose.f; exact if_pos c
    have hF : detector_Expose.f a0_0 a0_1 a0_2 a0_3 a0_4 a2_0 a2_1 a2_2 a2_3 a1_0 a1_1 a1_2 a1_3 a3 false false false false = some ((clp (expo false a0_0 a0_1 a0_2 a1_0 a2_0 a3) a0_3), (clp (expo false a0_0 a0_1 a0_2 a1_1 a2_1 a3) a0_3), (clp (expo false a0_0 a0_1 a0_2 a1_2 a2_2 a3) a0_3), (clp (expo false a0_0 a0_1 a0_2 a1_3 a2_3 a3) a0_3), 0) := by
      unfold detector_Expose.f
      rw [if_pos ⟨c.1, c.2.2.1, c.2.1, c.2.2.2⟩]
      simp only [expo_swap false a0_0 a0_1 a0_2 a2_0 a1_0 a3, expo_swap false a0_0 a0_1 a0_2 a2_1 a1_1 a3, expo_swap false a0_0 a0_1 a0_2 a2_2 a1_2 a3, expo_swap false a0_0 a0_1 a0_2 a2_3 a1_3 a3]
    obtain ⟨g1, g2, b1, b2, d1, d2, f1, f2, k1, k2⟩ := vld_bd c.1
    have hL := clp_lig (expo false a0_0 a0_1 a0_2 a1_0 a2_0 a3) (expo false a0_0 a0_1 a0_2 a1_1 a2_1 a3) (expo false a0_0 a0_1 a0_2 a1_2 a2_2 a3) (expo false a0_0 a0_1 a0_2 a1_3 a2_3 a3) (y := a0_3) (by omega)
    have hR : detector_Reduce.f a0_0 a0_1 a0_2 a0_3 a0_4 (clp (expo false a0_0 a0_1 a0_2 a1_0 a2_0 a3) a0_3) (clp (expo false a0_0 a0_1 a0_2 a1_1 a2_1 a3) a0_3) (clp (expo false a0_0 a0_1 a0_2 a1_2 a2_2 a3) a0_3) (clp (expo false a0_0 a0_1 a0_2 a1_3 a2_3 a3) a0_3) false false false false = some (red (okc false (clp (expo false a0_0 a0_1 a0_2 a1_0 a2_0 a3) a0_3) a0_3) (clp (expo false a0_0 a0_1 a0_2 a1_0 a2_0 a3) a0_3) a0_0 a0_1 a0_2, red (okc false (clp (expo false a0_0 a0_1 a0_2 a1_1 a2_1 a3) a0_3) a0_3) (clp (expo false a0_0 a0_1 a0_2 a1_1 a2_1 a3) a0_3) a0_0 a0_1 a0_2, red (okc false (clp (expo false a0_0 a0_1 a0_2 a1_2 a2_2 a3) a0_3) a0_3) (clp (expo false a0_0 a0_1 a0_2 a1_2 a2_2 a3) a0_3) a0_0 a0_1 a0_2, red (okc false (clp (expo false a0_0 a0_1 a0_2 a1_3 a2_3 a3) a0_3) a0_3) (clp (expo false a0_0 a0_1 a0_2 a1_3 a2_3 a3) a0_3) a0_0 a0_1 a0_2, (okc false (clp (expo false a0_0 a0_1 a0_2 a1_0 a2_0 a3) a0_3) a0_3), (okc false (clp (expo false a0_0 a0_1 a0_2 a1_1 a2_1 a3) a0_3) a0_3), (okc false (clp (expo false a0_0 a0_1 a0_2 a1_2 a2_2 a3) a0_3) a0_3), (okc false (clp (expo false a0_0 a0_1 a0_2 a1_3 a2_3 a3) a0_3) a0_3), 0) := by
      unfold detector_Reduce.f
      exact if_pos (by rw [c.1, hL]; rfl)
    have hG : detector_Ghost.f a0_0 a0_1 a0_2 a0_3 0 (clp (expo false a0_0 a0_1 a0_2 a1_0 a2_0 a3) a0_3) (clp (expo false a0_0 a0_1 a0_2 a1_1 a2_1 a3) a0_3) (clp (expo false a0_0 a0_1 a0_2 a1_2 a2_2 a3) a0_3) (clp (expo false a0_0 a0_1 a0_2 a1_3 a2_3 a3) a0_3) = some (0, 0, 0, 0, 0) := by
      have hv : vldB a0_0 a0_1 a0_2 a0_3 0 = true := decide_eq_true ⟨g1, g2, b1, b2, d1, d2, f1, f2, by omega, by omega⟩
      unfold detector_Ghost.f
      rw [if_pos (by rw [hv, hL]; rfl)]
      simp only [gho_zero]
    exact saturates_ok a0_0 a0_1 a0_2 a0_3 a0_4 a1_0 a1_1 a1_2 a1_3 a2_0 a2_1 a2_2 a2_3 a3 _ _ _ _ _ _ _ _ _ _ _ _ w hE hF hR hG (satF _ _ (by omega)) (satF _ _ (by omega)) (satF _ _ (by omega)) (satF _ _ (by omega))
  · exact saturates_no a0_0 a0_1 a0_2 a0_3 a0_4 a1_0 a1_1 a1_2 a1_3 a2_0 a2_1 a2_2 a2_3 a3 w (by unfold detector_Expose.f; exact if_neg c) (by unfold detector_Expose.f; exact if_neg (fun h => c ⟨h.1, h.2.2.1, h.2.1, h.2.2.2⟩))
end Go.Proofs.Ytgagnoijnhhegaa.Px
