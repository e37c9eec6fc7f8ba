/- Contracts of the detector's Expose, Ghost and Reduce, in the form of the print's contracts: what each call hands back, and that it changes nothing that was there. -/
import Derived.Test.YtgagnoijnhhegaaPxx6
import Derived.Test.YtgagnoijnhhegaaPxx8
namespace Go.Proofs.Ytgagnoijnhhegaa.Px
open Go.RowKit Go.Proofs.YtgagnoijnhhegaaW.PrintWords Go.Proofs.YtgagnoijnhhegaaW.PrintLast Go.Proofs.YtgagnoijnhhegaaW.PrintMore
attribute [local go_sem] max2_int min2_int max_two min_two max_three min_three max_four min_four
set_option linter.unusedVariables false
set_option linter.unusedSimpArgs false

/-- A detector's numbers are in their ranges. -/
def vldB (g b d f k : Int) : Bool := decide (1 ≤ g ∧ g ≤ 10000 ∧ 0 ≤ b ∧ b ≤ 1000 ∧ 0 ≤ d ∧ d ≤ 1000 ∧ 1 ≤ f ∧ f ≤ 65535 ∧ 0 ≤ k ∧ k ≤ 1000)
/-- Four numbers are in a range. -/
def ligB (x0 x1 x2 x3 hi : Int) : Bool := decide (0 ≤ x0 ∧ x0 ≤ hi ∧ 0 ≤ x1 ∧ x1 ≤ hi ∧ 0 ≤ x2 ∧ x2 ≤ hi ∧ 0 ≤ x3 ∧ x3 ≤ hi)
/-- An offset is in its range. -/
def offB (o : Int) : Bool := decide (-50 ≤ o ∧ o ≤ 50)
theorem win_eq (n lo hi : Int) : detector_within.f n lo hi = some (decide (lo ≤ n ∧ n ≤ hi)) := by
  unfold detector_within.f
  by_cases h : lo ≤ n
  · rw [if_pos h]; simp [h]
  · rw [if_neg h]; simp [h]
theorem val_eq (g b d f k : Int) : detector_Valid.f g b d f k = some (vldB g b d f k) := by
  unfold detector_Valid.f vldB
  simp only [win_eq, Option.bind_some]
  by_cases h1 : 1 ≤ g ∧ g ≤ 10000
  · by_cases h2 : 0 ≤ b ∧ b ≤ 1000
    · by_cases h3 : 0 ≤ d ∧ d ≤ 1000
      · by_cases h4 : 1 ≤ f ∧ f ≤ 65535
        · simp [h1, h2, h3, h4]
        · simp [h1, h2, h3, h4]
          omega
      · simp [h1, h2, h3]
        omega
    · simp [h1, h2]
      omega
  · simp [h1]
    omega
theorem clp_same (x y : Int) (hy : 0 ≤ y) : (x == clp x y) = decide (0 ≤ x ∧ x ≤ y) := by
  unfold clp mx mn
  rw [Bool.eq_iff_iff]
  simp only [beq_iff_eq, decide_eq_true_eq]
  (repeat' split) <;> omega
theorem lig_eq (x0 x1 x2 x3 : Int) : detector_light.f x0 x1 x2 x3 = some (ligB x0 x1 x2 x3 1000000) := by
  unfold detector_light.f detector_clipped.f ligB
  simp only [Option.bind_some, clp_same _ 1000000 (by omega), Option.some.injEq]
  rw [Bool.eq_iff_iff]
  simp only [Bool.and_eq_true, decide_eq_true_eq]
  omega
theorem cnt_eq (g b d f k x0 x1 x2 x3 : Int) : detector_counts.f g b d f k x0 x1 x2 x3 = some (vldB g b d f k && ligB x0 x1 x2 x3 f) := by
  unfold detector_counts.f
  rw [val_eq]
  simp only [Option.bind_some]
  cases hv : vldB g b d f k with
  | false => simp
  | true =>
    have hf : 0 ≤ f := by unfold vldB at hv; simp only [decide_eq_true_eq] at hv; omega
    unfold detector_clipped.f ligB
    simp only [Option.bind_some, if_true, clp_same _ f hf, Bool.true_and, Option.some.injEq]
    rw [Bool.eq_iff_iff]
    simp only [Bool.and_eq_true, decide_eq_true_eq]
    omega
theorem bcellN {W w1 : World} {n : Nat} (hb : Below (W.drewN n).heap.size (W.drewN n) w1) : (∀ b o, b < W.heap.size → w1.cell? ⟨b, o, none⟩ = W.cell? ⟨b, o, none⟩) ∧ (∀ b o, b < W.heap.size → w1.frozen? ⟨b, o, none⟩ = W.frozen? ⟨b, o, none⟩) :=
  ⟨fun b o h => hb.cell (p := ⟨b, o, none⟩) h, fun b o h => hb.frozen (p := ⟨b, o, none⟩) h⟩
theorem vld_bd {g b d f k : Int} (h : vldB g b d f k = true) : 1 ≤ g ∧ g ≤ 10000 ∧ 0 ≤ b ∧ b ≤ 1000 ∧ 0 ≤ d ∧ d ≤ 1000 ∧ 1 ≤ f ∧ f ≤ 65535 ∧ 0 ≤ k ∧ k ≤ 1000 := of_decide_eq_true h
theorem lig_bd {x0 x1 x2 x3 hi : Int} (h : ligB x0 x1 x2 x3 hi = true) : 0 ≤ x0 ∧ x0 ≤ hi ∧ 0 ≤ x1 ∧ x1 ≤ hi ∧ 0 ≤ x2 ∧ x2 ≤ hi ∧ 0 ≤ x3 ∧ x3 ≤ hi := of_decide_eq_true h
theorem off_bd {o : Int} (h : offB o = true) : -50 ≤ o ∧ o ≤ 50 := of_decide_eq_true h

/-! ### detector_Expose: function 10 -/
def detector_Expose.f (a0_0 a0_1 a0_2 a0_3 a0_4 a1_0 a1_1 a1_2 a1_3 a2_0 a2_1 a2_2 a2_3 a3 : Int) (a4_0 a4_1 a4_2 a4_3 : Bool) : Option (Int × Int × Int × Int × Int) :=
  if (vldB a0_0 a0_1 a0_2 a0_3 a0_4) = true ∧ (ligB a1_0 a1_1 a1_2 a1_3 1000000) = true ∧ (ligB a2_0 a2_1 a2_2 a2_3 1000000) = true ∧ (offB a3) = true then some (clp (expo a4_0 a0_0 a0_1 a0_2 a1_0 a2_0 a3) a0_3, clp (expo a4_1 a0_0 a0_1 a0_2 a1_1 a2_1 a3) a0_3, clp (expo a4_2 a0_0 a0_1 a0_2 a1_2 a2_2 a3) a0_3, clp (expo a4_3 a0_0 a0_1 a0_2 a1_3 a2_3 a3) a0_3, 0) else some (0, 0, 0, 0, 1)

set_option maxHeartbeats 1000000 in
theorem expose_no0 (a0_0 a0_1 a0_2 a0_3 a0_4 a1_0 a1_1 a1_2 a1_3 a2_0 a2_1 a2_2 a2_3 a3 : Int) (a4_0 a4_1 a4_2 a4_3 : Bool) (w : World) (hv_ : detector_Valid.f a0_0 a0_1 a0_2 a0_3 a0_4 = some false) :
    Calls Try.prog 10 #[.agg #[.int .i64 a0_0, .int .i64 a0_1, .int .i64 a0_2, .int .i64 a0_3, .int .i64 a0_4], .agg #[.int .i64 a1_0, .int .i64 a1_1, .int .i64 a1_2, .int .i64 a1_3], .agg #[.int .i64 a2_0, .int .i64 a2_1, .int .i64 a2_2, .int .i64 a2_3], .int .i64 a3, .agg #[.bool a4_0, .bool a4_1, .bool a4_2, .bool a4_3]] w fun e w' => e = .returned (.tuple #[.agg #[.int .i64 0, .int .i64 0, .int .i64 0, .int .i64 0], .int .i64 1]) ∧ Below w.heap.size w w' := by
  have hv := Aside0.mk hv_
  clear hv_
  have hu23 := Try.underlying23
  have hu25 := Try.underlying25
  have hu27 := Try.underlying27
  go_enter Try.func10, Try.ntmps10
  go_wp2_with fail
  refine (detector_Valid.calls a0_0 a0_1 a0_2 a0_3 a0_4 false _ hv.out).mono ?_
  rintro e w0 ⟨rfl, hb0⟩
  obtain ⟨hc0, hf0⟩ := bcell hb0
  have z0_0 : w.heap.size < w0.heap.size := by have := hb0.size; (try simp at this); omega
  have z0_1 : w.heap.size + 1 < w0.heap.size := by have := hb0.size; (try simp at this); omega
  have z0_2 : w.heap.size + 1 + 1 < w0.heap.size := by have := hb0.size; (try simp at this); omega
  have z0_3 : w.heap.size + 1 + 1 + 1 < w0.heap.size := by have := hb0.size; (try simp at this); omega
  have z0_4 : w.heap.size + 1 + 1 + 1 + 1 < w0.heap.size := by have := hb0.size; (try simp at this); omega
  have z0_5 : w.heap.size + 1 + 1 + 1 + 1 + 1 < w0.heap.size := by have := hb0.size; (try simp at this); omega
  go_wp2
  refine bodyPost_ret (v := .tuple #[.agg #[.int .i64 0, .int .i64 0, .int .i64 0, .int .i64 0], .int .i64 1]) ?hr rfl ⟨rfl, ?_⟩
  case hr =>
    simp only [results, Try.results10]
    go_simp
  repeat (with_reducible first | exact Below.refl _ _ | (refine below_set ?_ (by first | omega | exact Nat.le_refl _)) | apply below_alloc | apply pw_below_drewN | apply below_drew1 | refine below_step ?_ hb0)

set_option maxHeartbeats 1000000 in
theorem expose_no1 (a0_0 a0_1 a0_2 a0_3 a0_4 a1_0 a1_1 a1_2 a1_3 a2_0 a2_1 a2_2 a2_3 a3 : Int) (a4_0 a4_1 a4_2 a4_3 : Bool) (w : World) (hv_ : detector_Valid.f a0_0 a0_1 a0_2 a0_3 a0_4 = some true) (h1_ : detector_light.f a1_0 a1_1 a1_2 a1_3 = some false) :
    Calls Try.prog 10 #[.agg #[.int .i64 a0_0, .int .i64 a0_1, .int .i64 a0_2, .int .i64 a0_3, .int .i64 a0_4], .agg #[.int .i64 a1_0, .int .i64 a1_1, .int .i64 a1_2, .int .i64 a1_3], .agg #[.int .i64 a2_0, .int .i64 a2_1, .int .i64 a2_2, .int .i64 a2_3], .int .i64 a3, .agg #[.bool a4_0, .bool a4_1, .bool a4_2, .bool a4_3]] w fun e w' => e = .returned (.tuple #[.agg #[.int .i64 0, .int .i64 0, .int .i64 0, .int .i64 0], .int .i64 1]) ∧ Below w.heap.size w w' := by
  have hv := Aside0.mk hv_
  clear hv_
  have h1 := Aside0.mk h1_
  clear h1_
  have hu23 := Try.underlying23
  have hu25 := Try.underlying25
  have hu27 := Try.underlying27
  go_enter Try.func10, Try.ntmps10
  go_wp2_with fail
  refine (detector_Valid.calls a0_0 a0_1 a0_2 a0_3 a0_4 true _ hv.out).mono ?_
  rintro e w0 ⟨rfl, hb0⟩
  obtain ⟨hc0, hf0⟩ := bcell hb0
  have z0_0 : w.heap.size < w0.heap.size := by have := hb0.size; (try simp at this); omega
  have z0_1 : w.heap.size + 1 < w0.heap.size := by have := hb0.size; (try simp at this); omega
  have z0_2 : w.heap.size + 1 + 1 < w0.heap.size := by have := hb0.size; (try simp at this); omega
  have z0_3 : w.heap.size + 1 + 1 + 1 < w0.heap.size := by have := hb0.size; (try simp at this); omega
  have z0_4 : w.heap.size + 1 + 1 + 1 + 1 < w0.heap.size := by have := hb0.size; (try simp at this); omega
  have z0_5 : w.heap.size + 1 + 1 + 1 + 1 + 1 < w0.heap.size := by have := hb0.size; (try simp at this); omega
  go_wp2_with fail
  refine (detector_light.calls a1_0 a1_1 a1_2 a1_3 false _ h1.out).mono ?_
  rintro e w1 ⟨rfl, hb1⟩
  obtain ⟨hc1, hf1⟩ := bcell hb1
  have z1_0 : w.heap.size < w1.heap.size := by have := hb1.size; (try simp at this); omega
  have z1_1 : w.heap.size + 1 < w1.heap.size := by have := hb1.size; (try simp at this); omega
  have z1_2 : w.heap.size + 1 + 1 < w1.heap.size := by have := hb1.size; (try simp at this); omega
  have z1_3 : w.heap.size + 1 + 1 + 1 < w1.heap.size := by have := hb1.size; (try simp at this); omega
  have z1_4 : w.heap.size + 1 + 1 + 1 + 1 < w1.heap.size := by have := hb1.size; (try simp at this); omega
  have z1_5 : w.heap.size + 1 + 1 + 1 + 1 + 1 < w1.heap.size := by have := hb1.size; (try simp at this); omega
  go_wp2
  refine bodyPost_ret (v := .tuple #[.agg #[.int .i64 0, .int .i64 0, .int .i64 0, .int .i64 0], .int .i64 1]) ?hr rfl ⟨rfl, ?_⟩
  case hr =>
    simp only [results, Try.results10]
    go_simp
  repeat (with_reducible first | exact Below.refl _ _ | (refine below_set ?_ (by first | omega | exact Nat.le_refl _)) | apply below_alloc | apply pw_below_drewN | apply below_drew1 | refine below_step ?_ hb1 | refine below_step ?_ hb0)

set_option maxHeartbeats 1000000 in
theorem expose_no2 (a0_0 a0_1 a0_2 a0_3 a0_4 a1_0 a1_1 a1_2 a1_3 a2_0 a2_1 a2_2 a2_3 a3 : Int) (a4_0 a4_1 a4_2 a4_3 : Bool) (w : World) (hv_ : detector_Valid.f a0_0 a0_1 a0_2 a0_3 a0_4 = some true) (h1_ : detector_light.f a1_0 a1_1 a1_2 a1_3 = some true) (h2_ : detector_light.f a2_0 a2_1 a2_2 a2_3 = some false) :
    Calls Try.prog 10 #[.agg #[.int .i64 a0_0, .int .i64 a0_1, .int .i64 a0_2, .int .i64 a0_3, .int .i64 a0_4], .agg #[.int .i64 a1_0, .int .i64 a1_1, .int .i64 a1_2, .int .i64 a1_3], .agg #[.int .i64 a2_0, .int .i64 a2_1, .int .i64 a2_2, .int .i64 a2_3], .int .i64 a3, .agg #[.bool a4_0, .bool a4_1, .bool a4_2, .bool a4_3]] w fun e w' => e = .returned (.tuple #[.agg #[.int .i64 0, .int .i64 0, .int .i64 0, .int .i64 0], .int .i64 1]) ∧ Below w.heap.size w w' := by
  have hv := Aside0.mk hv_
  clear hv_
  have h1 := Aside0.mk h1_
  clear h1_
  have h2 := Aside0.mk h2_
  clear h2_
  have hu23 := Try.underlying23
  have hu25 := Try.underlying25
  have hu27 := Try.underlying27
  go_enter Try.func10, Try.ntmps10
  go_wp2_with fail
  refine (detector_Valid.calls a0_0 a0_1 a0_2 a0_3 a0_4 true _ hv.out).mono ?_
  rintro e w0 ⟨rfl, hb0⟩
  obtain ⟨hc0, hf0⟩ := bcell hb0
  have z0_0 : w.heap.size < w0.heap.size := by have := hb0.size; (try simp at this); omega
  have z0_1 : w.heap.size + 1 < w0.heap.size := by have := hb0.size; (try simp at this); omega
  have z0_2 : w.heap.size + 1 + 1 < w0.heap.size := by have := hb0.size; (try simp at this); omega
  have z0_3 : w.heap.size + 1 + 1 + 1 < w0.heap.size := by have := hb0.size; (try simp at this); omega
  have z0_4 : w.heap.size + 1 + 1 + 1 + 1 < w0.heap.size := by have := hb0.size; (try simp at this); omega
  have z0_5 : w.heap.size + 1 + 1 + 1 + 1 + 1 < w0.heap.size := by have := hb0.size; (try simp at this); omega
  go_wp2_with fail
  refine (detector_light.calls a1_0 a1_1 a1_2 a1_3 true _ h1.out).mono ?_
  rintro e w1 ⟨rfl, hb1⟩
  obtain ⟨hc1, hf1⟩ := bcell hb1
  have z1_0 : w.heap.size < w1.heap.size := by have := hb1.size; (try simp at this); omega
  have z1_1 : w.heap.size + 1 < w1.heap.size := by have := hb1.size; (try simp at this); omega
  have z1_2 : w.heap.size + 1 + 1 < w1.heap.size := by have := hb1.size; (try simp at this); omega
  have z1_3 : w.heap.size + 1 + 1 + 1 < w1.heap.size := by have := hb1.size; (try simp at this); omega
  have z1_4 : w.heap.size + 1 + 1 + 1 + 1 < w1.heap.size := by have := hb1.size; (try simp at this); omega
  have z1_5 : w.heap.size + 1 + 1 + 1 + 1 + 1 < w1.heap.size := by have := hb1.size; (try simp at this); omega
  go_wp2_with fail
  refine (detector_light.calls a2_0 a2_1 a2_2 a2_3 false _ h2.out).mono ?_
  rintro e w2 ⟨rfl, hb2⟩
  obtain ⟨hc2, hf2⟩ := bcell hb2
  have z2_0 : w.heap.size < w2.heap.size := by have := hb2.size; (try simp at this); omega
  have z2_1 : w.heap.size + 1 < w2.heap.size := by have := hb2.size; (try simp at this); omega
  have z2_2 : w.heap.size + 1 + 1 < w2.heap.size := by have := hb2.size; (try simp at this); omega
  have z2_3 : w.heap.size + 1 + 1 + 1 < w2.heap.size := by have := hb2.size; (try simp at this); omega
  have z2_4 : w.heap.size + 1 + 1 + 1 + 1 < w2.heap.size := by have := hb2.size; (try simp at this); omega
  have z2_5 : w.heap.size + 1 + 1 + 1 + 1 + 1 < w2.heap.size := by have := hb2.size; (try simp at this); omega
  go_wp2
  refine bodyPost_ret (v := .tuple #[.agg #[.int .i64 0, .int .i64 0, .int .i64 0, .int .i64 0], .int .i64 1]) ?hr rfl ⟨rfl, ?_⟩
  case hr =>
    simp only [results, Try.results10]
    go_simp
  repeat (with_reducible first | exact Below.refl _ _ | (refine below_set ?_ (by first | omega | exact Nat.le_refl _)) | apply below_alloc | apply pw_below_drewN | apply below_drew1 | refine below_step ?_ hb2 | refine below_step ?_ hb1 | refine below_step ?_ hb0)

set_option maxHeartbeats 1000000 in
theorem expose_no3 (a0_0 a0_1 a0_2 a0_3 a0_4 a1_0 a1_1 a1_2 a1_3 a2_0 a2_1 a2_2 a2_3 a3 : Int) (a4_0 a4_1 a4_2 a4_3 : Bool) (w : World) (hv_ : detector_Valid.f a0_0 a0_1 a0_2 a0_3 a0_4 = some true) (h1_ : detector_light.f a1_0 a1_1 a1_2 a1_3 = some true) (h2_ : detector_light.f a2_0 a2_1 a2_2 a2_3 = some true) (ho_ : detector_within.f a3 (-50) 50 = some false) :
    Calls Try.prog 10 #[.agg #[.int .i64 a0_0, .int .i64 a0_1, .int .i64 a0_2, .int .i64 a0_3, .int .i64 a0_4], .agg #[.int .i64 a1_0, .int .i64 a1_1, .int .i64 a1_2, .int .i64 a1_3], .agg #[.int .i64 a2_0, .int .i64 a2_1, .int .i64 a2_2, .int .i64 a2_3], .int .i64 a3, .agg #[.bool a4_0, .bool a4_1, .bool a4_2, .bool a4_3]] w fun e w' => e = .returned (.tuple #[.agg #[.int .i64 0, .int .i64 0, .int .i64 0, .int .i64 0], .int .i64 1]) ∧ Below w.heap.size w w' := by
  have hv := Aside0.mk hv_
  clear hv_
  have h1 := Aside0.mk h1_
  clear h1_
  have h2 := Aside0.mk h2_
  clear h2_
  have ho := Aside0.mk ho_
  clear ho_
  have hu23 := Try.underlying23
  have hu25 := Try.underlying25
  have hu27 := Try.underlying27
  go_enter Try.func10, Try.ntmps10
  go_wp2_with fail
  refine (detector_Valid.calls a0_0 a0_1 a0_2 a0_3 a0_4 true _ hv.out).mono ?_
  rintro e w0 ⟨rfl, hb0⟩
  obtain ⟨hc0, hf0⟩ := bcell hb0
  have z0_0 : w.heap.size < w0.heap.size := by have := hb0.size; (try simp at this); omega
  have z0_1 : w.heap.size + 1 < w0.heap.size := by have := hb0.size; (try simp at this); omega
  have z0_2 : w.heap.size + 1 + 1 < w0.heap.size := by have := hb0.size; (try simp at this); omega
  have z0_3 : w.heap.size + 1 + 1 + 1 < w0.heap.size := by have := hb0.size; (try simp at this); omega
  have z0_4 : w.heap.size + 1 + 1 + 1 + 1 < w0.heap.size := by have := hb0.size; (try simp at this); omega
  have z0_5 : w.heap.size + 1 + 1 + 1 + 1 + 1 < w0.heap.size := by have := hb0.size; (try simp at this); omega
  go_wp2_with fail
  refine (detector_light.calls a1_0 a1_1 a1_2 a1_3 true _ h1.out).mono ?_
  rintro e w1 ⟨rfl, hb1⟩
  obtain ⟨hc1, hf1⟩ := bcell hb1
  have z1_0 : w.heap.size < w1.heap.size := by have := hb1.size; (try simp at this); omega
  have z1_1 : w.heap.size + 1 < w1.heap.size := by have := hb1.size; (try simp at this); omega
  have z1_2 : w.heap.size + 1 + 1 < w1.heap.size := by have := hb1.size; (try simp at this); omega
  have z1_3 : w.heap.size + 1 + 1 + 1 < w1.heap.size := by have := hb1.size; (try simp at this); omega
  have z1_4 : w.heap.size + 1 + 1 + 1 + 1 < w1.heap.size := by have := hb1.size; (try simp at this); omega
  have z1_5 : w.heap.size + 1 + 1 + 1 + 1 + 1 < w1.heap.size := by have := hb1.size; (try simp at this); omega
  go_wp2_with fail
  refine (detector_light.calls a2_0 a2_1 a2_2 a2_3 true _ h2.out).mono ?_
  rintro e w2 ⟨rfl, hb2⟩
  obtain ⟨hc2, hf2⟩ := bcell hb2
  have z2_0 : w.heap.size < w2.heap.size := by have := hb2.size; (try simp at this); omega
  have z2_1 : w.heap.size + 1 < w2.heap.size := by have := hb2.size; (try simp at this); omega
  have z2_2 : w.heap.size + 1 + 1 < w2.heap.size := by have := hb2.size; (try simp at this); omega
  have z2_3 : w.heap.size + 1 + 1 + 1 < w2.heap.size := by have := hb2.size; (try simp at this); omega
  have z2_4 : w.heap.size + 1 + 1 + 1 + 1 < w2.heap.size := by have := hb2.size; (try simp at this); omega
  have z2_5 : w.heap.size + 1 + 1 + 1 + 1 + 1 < w2.heap.size := by have := hb2.size; (try simp at this); omega
  go_wp2_with fail
  refine (detector_within.calls a3 (-50) 50 false _ ho.out).mono ?_
  rintro e w3 ⟨rfl, ⟨n3, rfl⟩⟩
  go_wp2
  refine bodyPost_ret (v := .tuple #[.agg #[.int .i64 0, .int .i64 0, .int .i64 0, .int .i64 0], .int .i64 1]) ?hr rfl ⟨rfl, ?_⟩
  case hr =>
    simp only [results, Try.results10]
    go_simp
  repeat (with_reducible first | exact Below.refl _ _ | (refine below_set ?_ (by first | omega | exact Nat.le_refl _)) | apply below_alloc | apply pw_below_drewN | apply below_drew1 | refine below_step ?_ hb2 | refine below_step ?_ hb1 | refine below_step ?_ hb0)

set_option maxHeartbeats 2000000 in
theorem expose_yes (a0_0 a0_1 a0_2 a0_3 a0_4 a1_0 a1_1 a1_2 a1_3 a2_0 a2_1 a2_2 a2_3 a3 : Int) (a4_0 a4_1 a4_2 a4_3 : Bool) (w : World) (hv_ : detector_Valid.f a0_0 a0_1 a0_2 a0_3 a0_4 = some true) (h1_ : detector_light.f a1_0 a1_1 a1_2 a1_3 = some true) (h2_ : detector_light.f a2_0 a2_1 a2_2 a2_3 = some true) (ho_ : detector_within.f a3 (-50) 50 = some true) (v_ : vldB a0_0 a0_1 a0_2 a0_3 a0_4 = true) (l1_ : ligB a1_0 a1_1 a1_2 a1_3 1000000 = true) (l2_ : ligB a2_0 a2_1 a2_2 a2_3 1000000 = true) (o_ : offB a3 = true) :
    Calls Try.prog 10 #[.agg #[.int .i64 a0_0, .int .i64 a0_1, .int .i64 a0_2, .int .i64 a0_3, .int .i64 a0_4], .agg #[.int .i64 a1_0, .int .i64 a1_1, .int .i64 a1_2, .int .i64 a1_3], .agg #[.int .i64 a2_0, .int .i64 a2_1, .int .i64 a2_2, .int .i64 a2_3], .int .i64 a3, .agg #[.bool a4_0, .bool a4_1, .bool a4_2, .bool a4_3]] w fun e w' => e = .returned (.tuple #[.agg #[.int .i64 (clp (expo a4_0 a0_0 a0_1 a0_2 a1_0 a2_0 a3) a0_3), .int .i64 (clp (expo a4_1 a0_0 a0_1 a0_2 a1_1 a2_1 a3) a0_3), .int .i64 (clp (expo a4_2 a0_0 a0_1 a0_2 a1_2 a2_2 a3) a0_3), .int .i64 (clp (expo a4_3 a0_0 a0_1 a0_2 a1_3 a2_3 a3) a0_3)], .int .i64 0]) ∧ Below w.heap.size w w' := by
  obtain ⟨g1, g2, b1, b2, d1, d2, f1, f2, k1, k2⟩ := vld_bd v_
  obtain ⟨x10, x20, x11, x21, x12, x22, x13, x23⟩ := lig_bd l1_
  obtain ⟨y10, y20, y11, y21, y12, y22, y13, y23⟩ := lig_bd l2_
  obtain ⟨o1, o2⟩ := off_bd o_
  clear v_ l1_ l2_ o_
  have hv := Aside0.mk hv_
  clear hv_
  have h1 := Aside0.mk h1_
  clear h1_
  have h2 := Aside0.mk h2_
  clear h2_
  have ho := Aside0.mk ho_
  clear ho_
  have hu23 := Try.underlying23
  have hu25 := Try.underlying25
  have hu27 := Try.underlying27
  have hmf : ∀ (fn : Fn) (first cap : Array Value) (w : World), (Instr.makeFunc fn first cap).run Try.prog w = .ok (.func fn first cap) w := fun _ _ _ _ => rfl
  go_enter Try.func10, Try.ntmps10
  go_wp2_with fail
  refine (detector_Valid.calls a0_0 a0_1 a0_2 a0_3 a0_4 true _ hv.out).mono ?_
  rintro e w0 ⟨rfl, hb0⟩
  obtain ⟨hc0, hf0⟩ := bcell hb0
  have z0_0 : w.heap.size < w0.heap.size := by have := hb0.size; (try simp at this); omega
  have z0_1 : w.heap.size + 1 < w0.heap.size := by have := hb0.size; (try simp at this); omega
  have z0_2 : w.heap.size + 1 + 1 < w0.heap.size := by have := hb0.size; (try simp at this); omega
  have z0_3 : w.heap.size + 1 + 1 + 1 < w0.heap.size := by have := hb0.size; (try simp at this); omega
  have z0_4 : w.heap.size + 1 + 1 + 1 + 1 < w0.heap.size := by have := hb0.size; (try simp at this); omega
  have z0_5 : w.heap.size + 1 + 1 + 1 + 1 + 1 < w0.heap.size := by have := hb0.size; (try simp at this); omega
  go_wp2_with fail
  refine (detector_light.calls a1_0 a1_1 a1_2 a1_3 true _ h1.out).mono ?_
  rintro e w1 ⟨rfl, hb1⟩
  obtain ⟨hc1, hf1⟩ := bcell hb1
  have z1_0 : w.heap.size < w1.heap.size := by have := hb1.size; (try simp at this); omega
  have z1_1 : w.heap.size + 1 < w1.heap.size := by have := hb1.size; (try simp at this); omega
  have z1_2 : w.heap.size + 1 + 1 < w1.heap.size := by have := hb1.size; (try simp at this); omega
  have z1_3 : w.heap.size + 1 + 1 + 1 < w1.heap.size := by have := hb1.size; (try simp at this); omega
  have z1_4 : w.heap.size + 1 + 1 + 1 + 1 < w1.heap.size := by have := hb1.size; (try simp at this); omega
  have z1_5 : w.heap.size + 1 + 1 + 1 + 1 + 1 < w1.heap.size := by have := hb1.size; (try simp at this); omega
  go_wp2_with fail
  refine (detector_light.calls a2_0 a2_1 a2_2 a2_3 true _ h2.out).mono ?_
  rintro e w2 ⟨rfl, hb2⟩
  obtain ⟨hc2, hf2⟩ := bcell hb2
  have z2_0 : w.heap.size < w2.heap.size := by have := hb2.size; (try simp at this); omega
  have z2_1 : w.heap.size + 1 < w2.heap.size := by have := hb2.size; (try simp at this); omega
  have z2_2 : w.heap.size + 1 + 1 < w2.heap.size := by have := hb2.size; (try simp at this); omega
  have z2_3 : w.heap.size + 1 + 1 + 1 < w2.heap.size := by have := hb2.size; (try simp at this); omega
  have z2_4 : w.heap.size + 1 + 1 + 1 + 1 < w2.heap.size := by have := hb2.size; (try simp at this); omega
  have z2_5 : w.heap.size + 1 + 1 + 1 + 1 + 1 < w2.heap.size := by have := hb2.size; (try simp at this); omega
  go_wp2_with fail
  refine (detector_within.calls a3 (-50) 50 true _ ho.out).mono ?_
  rintro e w3 ⟨rfl, ⟨n3, rfl⟩⟩
  go_wp2_with fail
  refine (cells22 _ _ _ _ _ a4_0 a4_1 a4_2 a4_3 a0_0 a0_1 a0_2 a1_0 a1_1 a1_2 a1_3 a2_0 a2_1 a2_2 a2_3 a3 _ ?h0 ?h1 ?h2 ?h3 ?h4 ?h5 ?h6 ?h7 ?h8 ?h9 ?h10 ?h11 ?h12 ?h13 ?h14 ?h15 g1 g2 b1 b2 d1 d2 o1 o2 x10 x20 y10 y20 x11 x21 y11 y21 x12 x22 y12 y22 x13 x23 y13 y23).mono ?_
  case h0 => go_simp
  case h1 => go_simp
  case h2 => go_simp
  case h3 => go_simp
  case h4 => go_simp
  case h5 => go_simp
  case h6 => go_simp
  case h7 => go_simp
  case h8 => go_simp
  case h9 => go_simp
  case h10 => go_simp
  case h11 => go_simp
  case h12 => go_simp
  case h13 => go_simp
  case h14 => go_simp
  case h15 => go_simp
  rintro e w4 ⟨rfl, hb4⟩
  obtain ⟨hc4, hf4⟩ := bcellN hb4
  have z4_0 : w.heap.size < w4.heap.size := by have := hb4.size; (try simp at this); omega
  have z4_1 : w.heap.size + 1 < w4.heap.size := by have := hb4.size; (try simp at this); omega
  have z4_2 : w.heap.size + 1 + 1 < w4.heap.size := by have := hb4.size; (try simp at this); omega
  have z4_3 : w.heap.size + 1 + 1 + 1 < w4.heap.size := by have := hb4.size; (try simp at this); omega
  have z4_4 : w.heap.size + 1 + 1 + 1 + 1 < w4.heap.size := by have := hb4.size; (try simp at this); omega
  have z4_5 : w.heap.size + 1 + 1 + 1 + 1 + 1 < w4.heap.size := by have := hb4.size; (try simp at this); omega
  go_wp2_with fail
  refine (detector_clipped.calls (expo a4_0 a0_0 a0_1 a0_2 a1_0 a2_0 a3) (expo a4_1 a0_0 a0_1 a0_2 a1_1 a2_1 a3) (expo a4_2 a0_0 a0_1 a0_2 a1_2 a2_2 a3) (expo a4_3 a0_0 a0_1 a0_2 a1_3 a2_3 a3) a0_3 (clp (expo a4_0 a0_0 a0_1 a0_2 a1_0 a2_0 a3) a0_3) (clp (expo a4_1 a0_0 a0_1 a0_2 a1_1 a2_1 a3) a0_3) (clp (expo a4_2 a0_0 a0_1 a0_2 a1_2 a2_2 a3) a0_3) (clp (expo a4_3 a0_0 a0_1 a0_2 a1_3 a2_3 a3) a0_3) _ rfl).mono ?_
  rintro e w5 ⟨rfl, hb5⟩
  obtain ⟨hc5, hf5⟩ := bcell hb5
  have z5_0 : w.heap.size < w5.heap.size := by have := hb5.size; (try simp at this); omega
  have z5_1 : w.heap.size + 1 < w5.heap.size := by have := hb5.size; (try simp at this); omega
  have z5_2 : w.heap.size + 1 + 1 < w5.heap.size := by have := hb5.size; (try simp at this); omega
  have z5_3 : w.heap.size + 1 + 1 + 1 < w5.heap.size := by have := hb5.size; (try simp at this); omega
  have z5_4 : w.heap.size + 1 + 1 + 1 + 1 < w5.heap.size := by have := hb5.size; (try simp at this); omega
  have z5_5 : w.heap.size + 1 + 1 + 1 + 1 + 1 < w5.heap.size := by have := hb5.size; (try simp at this); omega
  have z5_6 : w4.heap.size < w5.heap.size := by have := hb5.size; (try simp at this); omega
  go_wp2
  refine bodyPost_ret (v := .tuple #[.agg #[.int .i64 (clp (expo a4_0 a0_0 a0_1 a0_2 a1_0 a2_0 a3) a0_3), .int .i64 (clp (expo a4_1 a0_0 a0_1 a0_2 a1_1 a2_1 a3) a0_3), .int .i64 (clp (expo a4_2 a0_0 a0_1 a0_2 a1_2 a2_2 a3) a0_3), .int .i64 (clp (expo a4_3 a0_0 a0_1 a0_2 a1_3 a2_3 a3) a0_3)], .int .i64 0]) ?hr rfl ⟨rfl, ?_⟩
  case hr =>
    simp only [results, Try.results10]
    go_simp
  repeat (with_reducible first | exact Below.refl _ _ | (refine below_set ?_ (by first | omega | exact Nat.le_refl _)) | apply below_alloc | apply pw_below_drewN | apply below_drew1 | refine below_step ?_ hb5 | refine below_step ?_ hb4 | refine below_step ?_ hb2 | refine below_step ?_ hb1 | refine below_step ?_ hb0)

theorem detector_Expose.calls (a0_0 a0_1 a0_2 a0_3 a0_4 a1_0 a1_1 a1_2 a1_3 a2_0 a2_1 a2_2 a2_3 a3 : Int) (a4_0 a4_1 a4_2 a4_3 : Bool) (r1 r2 r3 r4 r5 : Int) (w : World) (h : detector_Expose.f a0_0 a0_1 a0_2 a0_3 a0_4 a1_0 a1_1 a1_2 a1_3 a2_0 a2_1 a2_2 a2_3 a3 a4_0 a4_1 a4_2 a4_3 = some (r1, r2, r3, r4, r5)) :
    Calls Try.prog 10 #[.agg #[.int .i64 a0_0, .int .i64 a0_1, .int .i64 a0_2, .int .i64 a0_3, .int .i64 a0_4], .agg #[.int .i64 a1_0, .int .i64 a1_1, .int .i64 a1_2, .int .i64 a1_3], .agg #[.int .i64 a2_0, .int .i64 a2_1, .int .i64 a2_2, .int .i64 a2_3], .int .i64 a3, .agg #[.bool a4_0, .bool a4_1, .bool a4_2, .bool a4_3]] w fun e w' => e = .returned (.tuple #[.agg #[.int .i64 r1, .int .i64 r2, .int .i64 r3, .int .i64 r4], .int .i64 r5]) ∧ Below w.heap.size w w' := by
  have hv := val_eq a0_0 a0_1 a0_2 a0_3 a0_4
  have h1 := lig_eq a1_0 a1_1 a1_2 a1_3
  have h2 := lig_eq a2_0 a2_1 a2_2 a2_3
  have ho : detector_within.f a3 (-50) 50 = some (offB a3) := win_eq a3 (-50) 50
  unfold detector_Expose.f at h
  cases cv : vldB a0_0 a0_1 a0_2 a0_3 a0_4
  · rw [if_neg (by simp [cv])] at h
    simp only [Option.some.injEq, Prod.mk.injEq] at h
    obtain ⟨rfl, rfl, rfl, rfl, rfl⟩ := h
    exact expose_no0 a0_0 a0_1 a0_2 a0_3 a0_4 a1_0 a1_1 a1_2 a1_3 a2_0 a2_1 a2_2 a2_3 a3 a4_0 a4_1 a4_2 a4_3 w (hv.trans (by rw [cv]))
  cases c1 : ligB a1_0 a1_1 a1_2 a1_3 1000000
  · rw [if_neg (by simp [c1])] at h
    simp only [Option.some.injEq, Prod.mk.injEq] at h
    obtain ⟨rfl, rfl, rfl, rfl, rfl⟩ := h
    exact expose_no1 a0_0 a0_1 a0_2 a0_3 a0_4 a1_0 a1_1 a1_2 a1_3 a2_0 a2_1 a2_2 a2_3 a3 a4_0 a4_1 a4_2 a4_3 w (hv.trans (by rw [cv])) (h1.trans (by rw [c1]))
  cases c2 : ligB a2_0 a2_1 a2_2 a2_3 1000000
  · rw [if_neg (by simp [c2])] at h
    simp only [Option.some.injEq, Prod.mk.injEq] at h
    obtain ⟨rfl, rfl, rfl, rfl, rfl⟩ := h
    exact expose_no2 a0_0 a0_1 a0_2 a0_3 a0_4 a1_0 a1_1 a1_2 a1_3 a2_0 a2_1 a2_2 a2_3 a3 a4_0 a4_1 a4_2 a4_3 w (hv.trans (by rw [cv])) (h1.trans (by rw [c1])) (h2.trans (by rw [c2]))
  cases c3 : offB a3
  · rw [if_neg (by simp [c3])] at h
    simp only [Option.some.injEq, Prod.mk.injEq] at h
    obtain ⟨rfl, rfl, rfl, rfl, rfl⟩ := h
    exact expose_no3 a0_0 a0_1 a0_2 a0_3 a0_4 a1_0 a1_1 a1_2 a1_3 a2_0 a2_1 a2_2 a2_3 a3 a4_0 a4_1 a4_2 a4_3 w (hv.trans (by rw [cv])) (h1.trans (by rw [c1])) (h2.trans (by rw [c2])) (ho.trans (by rw [c3]))
  rw [if_pos ⟨cv, c1, c2, c3⟩] at h
  simp only [Option.some.injEq, Prod.mk.injEq] at h
  obtain ⟨rfl, rfl, rfl, rfl, rfl⟩ := h
  exact expose_yes a0_0 a0_1 a0_2 a0_3 a0_4 a1_0 a1_1 a1_2 a1_3 a2_0 a2_1 a2_2 a2_3 a3 a4_0 a4_1 a4_2 a4_3 w (hv.trans (by rw [cv])) (h1.trans (by rw [c1])) (h2.trans (by rw [c2])) (ho.trans (by rw [c3])) cv c1 c2 c3

end Go.Proofs.Ytgagnoijnhhegaa.Px
