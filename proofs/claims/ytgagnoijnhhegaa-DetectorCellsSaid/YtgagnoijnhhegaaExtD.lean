/- Contracts of the reference's Expose and Reduce, in the form of the print's contracts: what each call hands back, and that it changes nothing that was there. -/
import Derived.Test.YtgagnoijnhhegaaPxx6
import Derived.Test.YtgagnoijnhhegaaPxx13
import Derived.Test.YtgagnoijnhhegaaPxx14
import Derived.Test.YtgagnoijnhhegaaPxx16
import Derived.Test.YtgagnoijnhhegaaPxx18
import Derived.Test.YtgagnoijnhhegaaExtC
namespace Go.Proofs.Ytgagnoijnhhegaa.Px
open Go.RowKit Go.Proofs.YtgagnoijnhhegaaW.PrintWords Go.Proofs.YtgagnoijnhhegaaW.PrintLast Go.Proofs.YtgagnoijnhhegaaW.PrintMore
attribute [local go_sem] max2_int min2_int max_two min_two max_three min_three max_four min_four
set_option linter.unusedVariables false
set_option linter.unusedSimpArgs false

theorem to_below {P : Program} {f : FuncId} {xs : Array Value} {w : World} {v : Ending} (h : Calls P f xs w fun e w' => e = v ∧ Drawn0 w w') : Calls P f xs w fun e w' => e = v ∧ Below w.heap.size w w' := h.mono fun _ _ h => ⟨h.1, h.2.below⟩
/-- A place of what has been told so far. -/
def nth (j k v : Int) : Int := if j < k then v else 0
theorem rwin_eq (n lo hi : Int) : observatoryref15_within.f n lo hi = some (decide (lo ≤ n ∧ n ≤ hi)) := by
  unfold observatoryref15_within.f
  by_cases h : n ≥ lo
  · rw [if_pos h]; simp; omega
  · rw [if_neg h]; simp; omega
theorem rval_eq (g b d f k : Int) : observatoryref15_Valid.f g b d f k = some (vldB g b d f k) := by
  unfold observatoryref15_Valid.f vldB
  simp only [rwin_eq, Option.bind_some]
  by_cases h1 : 1 ≤ g ∧ g ≤ 10000
  · by_cases h2 : 0 ≤ b ∧ b ≤ 1000
    · by_cases h3 : 0 ≤ d ∧ d ≤ 1000
      · by_cases h4 : 1 ≤ f ∧ f ≤ 65535
        · simp [h1, h2, h3, h4]
        · simp [h1, h2, h3, h4]
          omega
      · simp [h1, h2, h3]
        omega
    · simp [h1, h2]
      omega
  · simp [h1]
    omega
theorem rall_eq (x0 x1 x2 x3 hi : Int) : observatoryref15_all.f x0 x1 x2 x3 hi = some (ligB x0 x1 x2 x3 hi) := by
  unfold observatoryref15_all.f ligB
  simp only [rwin_eq, Option.bind_some]
  by_cases h1 : 0 ≤ x0 ∧ x0 ≤ hi
  · by_cases h2 : 0 ≤ x1 ∧ x1 ≤ hi
    · by_cases h3 : 0 ≤ x2 ∧ x2 ≤ hi
      · simp [h1, h2, h3]
      · simp [h1, h2, h3]
        omega
    · simp [h1, h2]
      omega
  · simp [h1]
    omega
theorem rlig_eq (x0 x1 x2 x3 : Int) : observatoryref15_Light.f x0 x1 x2 x3 = some (ligB x0 x1 x2 x3 1000000) := by
  unfold observatoryref15_Light.f
  rw [rall_eq]
  rfl
theorem rraw_eq (g b d f k x0 x1 x2 x3 : Int) : observatoryref15_Raw.f g b d f k x0 x1 x2 x3 = some (vldB g b d f k && ligB x0 x1 x2 x3 f) := by
  unfold observatoryref15_Raw.f
  rw [rval_eq]
  simp only [Option.bind_some, rall_eq]
  cases vldB g b d f k <;> simp
theorem mul_bd {x y g : Int} (g1 : 1 ≤ g) (g2 : g ≤ 10000) (x1 : 0 ≤ x) (x2 : x ≤ 1000000) (y1 : 0 ≤ y) (y2 : y ≤ 1000000) : 0 ≤ (x + y) * g ∧ (x + y) * g ≤ 20000000000 := by
  have m0 : 0 ≤ (x + y) * g := Int.mul_nonneg (by omega) (by omega)
  have h : (x + y) * g ≤ 2000000 * 10000 := Int.mul_le_mul (by omega) g2 (by omega) (by omega)
  omega
theorem clp_bad {g b d x y o f : Int} (hf : 1 ≤ f) : clp (expo true g b d x y o) f = 0 := by unfold clp expo mx mn; simp; omega
theorem clp_hi {g b d x y o f : Int} (hf : 1 ≤ f) (h : f < b + d + (x + y) * g / 1000 + o) : clp (expo false g b d x y o) f = f := by
  unfold clp expo mx mn
  rw [if_neg (by decide : ¬ (false = true)), if_pos h, if_pos (by omega)]
theorem clp_lo {g b d x y o f : Int} (h : ¬ f < b + d + (x + y) * g / 1000 + o) (h2 : b + d + (x + y) * g / 1000 + o < 0) : clp (expo false g b d x y o) f = 0 := by
  unfold clp expo mx mn
  rw [if_neg (by decide : ¬ (false = true)), if_neg h, if_neg (by omega)]
theorem clp_in {g b d x y o f : Int} (h : ¬ f < b + d + (x + y) * g / 1000 + o) (h2 : ¬ b + d + (x + y) * g / 1000 + o < 0) : clp (expo false g b d x y o) f = b + d + (x + y) * g / 1000 + o := by
  unfold clp expo mx mn
  rw [if_neg (by decide : ¬ (false = true)), if_neg h]
  split <;> omega

/-! ### observatoryref15_Expose: function 11 -/
def observatoryref15_Expose.f (a0_0 a0_1 a0_2 a0_3 a0_4 a1_0 a1_1 a1_2 a1_3 a2_0 a2_1 a2_2 a2_3 a3 : Int) (a4_0 a4_1 a4_2 a4_3 : Bool) : Option (Int × Int × Int × Int × Int) :=
  if (vldB a0_0 a0_1 a0_2 a0_3 a0_4) = true ∧ (ligB a1_0 a1_1 a1_2 a1_3 1000000) = true ∧ (ligB a2_0 a2_1 a2_2 a2_3 1000000) = true ∧ (offB a3) = true then some (clp (expo a4_0 a0_0 a0_1 a0_2 a1_0 a2_0 a3) a0_3, clp (expo a4_1 a0_0 a0_1 a0_2 a1_1 a2_1 a3) a0_3, clp (expo a4_2 a0_0 a0_1 a0_2 a1_2 a2_2 a3) a0_3, clp (expo a4_3 a0_0 a0_1 a0_2 a1_3 a2_3 a3) a0_3, 0) else some (0, 0, 0, 0, 1)

set_option maxHeartbeats 1000000 in
theorem rexpose_no0 (a0_0 a0_1 a0_2 a0_3 a0_4 a1_0 a1_1 a1_2 a1_3 a2_0 a2_1 a2_2 a2_3 a3 : Int) (a4_0 a4_1 a4_2 a4_3 : Bool) (w : World) (hv_ : observatoryref15_Valid.f a0_0 a0_1 a0_2 a0_3 a0_4 = some false) :
    Calls Try.prog 11 #[.agg #[.int .i64 a0_0, .int .i64 a0_1, .int .i64 a0_2, .int .i64 a0_3, .int .i64 a0_4], .agg #[.int .i64 a1_0, .int .i64 a1_1, .int .i64 a1_2, .int .i64 a1_3], .agg #[.int .i64 a2_0, .int .i64 a2_1, .int .i64 a2_2, .int .i64 a2_3], .int .i64 a3, .agg #[.bool a4_0, .bool a4_1, .bool a4_2, .bool a4_3]] w fun e w' => e = .returned (.tuple #[.agg #[.int .i64 0, .int .i64 0, .int .i64 0, .int .i64 0], .int .i64 1]) ∧ Below w.heap.size w w' := by
  have hv := Aside0.mk hv_
  clear hv_
  have hu23 := Try.underlying23
  have hu25 := Try.underlying25
  have hu27 := Try.underlying27
  go_enter Try.func11, Try.ntmps11
  go_wp2_with fail
  refine (observatoryref15_Valid.calls a0_0 a0_1 a0_2 a0_3 a0_4 false _ hv.out).mono ?_
  rintro e w0 ⟨rfl, hb0⟩
  obtain ⟨hc0, hf0⟩ := bcell hb0
  have z0_0 : w.heap.size < w0.heap.size := by have := hb0.size; (try simp at this); omega
  have z0_1 : w.heap.size + 1 < w0.heap.size := by have := hb0.size; (try simp at this); omega
  have z0_2 : w.heap.size + 1 + 1 < w0.heap.size := by have := hb0.size; (try simp at this); omega
  have z0_3 : w.heap.size + 1 + 1 + 1 < w0.heap.size := by have := hb0.size; (try simp at this); omega
  have z0_4 : w.heap.size + 1 + 1 + 1 + 1 < w0.heap.size := by have := hb0.size; (try simp at this); omega
  go_wp2
  refine bodyPost_ret (v := .tuple #[.agg #[.int .i64 0, .int .i64 0, .int .i64 0, .int .i64 0], .int .i64 1]) ?hr rfl ⟨rfl, ?_⟩
  case hr =>
    simp only [results, Try.results11]
    go_simp
  repeat (with_reducible first | exact Below.refl _ _ | (refine below_set ?_ (by first | omega | exact Nat.le_refl _)) | apply below_alloc | apply pw_below_drewN | apply below_drew1 | refine below_step ?_ hb0)

set_option maxHeartbeats 1000000 in
theorem rexpose_no1 (a0_0 a0_1 a0_2 a0_3 a0_4 a1_0 a1_1 a1_2 a1_3 a2_0 a2_1 a2_2 a2_3 a3 : Int) (a4_0 a4_1 a4_2 a4_3 : Bool) (w : World) (hv_ : observatoryref15_Valid.f a0_0 a0_1 a0_2 a0_3 a0_4 = some true) (h1_ : observatoryref15_Light.f a1_0 a1_1 a1_2 a1_3 = some false) :
    Calls Try.prog 11 #[.agg #[.int .i64 a0_0, .int .i64 a0_1, .int .i64 a0_2, .int .i64 a0_3, .int .i64 a0_4], .agg #[.int .i64 a1_0, .int .i64 a1_1, .int .i64 a1_2, .int .i64 a1_3], .agg #[.int .i64 a2_0, .int .i64 a2_1, .int .i64 a2_2, .int .i64 a2_3], .int .i64 a3, .agg #[.bool a4_0, .bool a4_1, .bool a4_2, .bool a4_3]] w fun e w' => e = .returned (.tuple #[.agg #[.int .i64 0, .int .i64 0, .int .i64 0, .int .i64 0], .int .i64 1]) ∧ Below w.heap.size w w' := by
  have hv := Aside0.mk hv_
  clear hv_
  have h1 := Aside0.mk h1_
  clear h1_
  have hu23 := Try.underlying23
  have hu25 := Try.underlying25
  have hu27 := Try.underlying27
  go_enter Try.func11, Try.ntmps11
  go_wp2_with fail
  refine (observatoryref15_Valid.calls a0_0 a0_1 a0_2 a0_3 a0_4 true _ hv.out).mono ?_
  rintro e w0 ⟨rfl, hb0⟩
  obtain ⟨hc0, hf0⟩ := bcell hb0
  have z0_0 : w.heap.size < w0.heap.size := by have := hb0.size; (try simp at this); omega
  have z0_1 : w.heap.size + 1 < w0.heap.size := by have := hb0.size; (try simp at this); omega
  have z0_2 : w.heap.size + 1 + 1 < w0.heap.size := by have := hb0.size; (try simp at this); omega
  have z0_3 : w.heap.size + 1 + 1 + 1 < w0.heap.size := by have := hb0.size; (try simp at this); omega
  have z0_4 : w.heap.size + 1 + 1 + 1 + 1 < w0.heap.size := by have := hb0.size; (try simp at this); omega
  go_wp2_with fail
  refine (observatoryref15_Light.calls a1_0 a1_1 a1_2 a1_3 false _ h1.out).mono ?_
  rintro e w1 ⟨rfl, hb1⟩
  obtain ⟨hc1, hf1⟩ := bcell hb1
  have z1_0 : w.heap.size < w1.heap.size := by have := hb1.size; (try simp at this); omega
  have z1_1 : w.heap.size + 1 < w1.heap.size := by have := hb1.size; (try simp at this); omega
  have z1_2 : w.heap.size + 1 + 1 < w1.heap.size := by have := hb1.size; (try simp at this); omega
  have z1_3 : w.heap.size + 1 + 1 + 1 < w1.heap.size := by have := hb1.size; (try simp at this); omega
  have z1_4 : w.heap.size + 1 + 1 + 1 + 1 < w1.heap.size := by have := hb1.size; (try simp at this); omega
  go_wp2
  refine bodyPost_ret (v := .tuple #[.agg #[.int .i64 0, .int .i64 0, .int .i64 0, .int .i64 0], .int .i64 1]) ?hr rfl ⟨rfl, ?_⟩
  case hr =>
    simp only [results, Try.results11]
    go_simp
  repeat (with_reducible first | exact Below.refl _ _ | (refine below_set ?_ (by first | omega | exact Nat.le_refl _)) | apply below_alloc | apply pw_below_drewN | apply below_drew1 | refine below_step ?_ hb1 | refine below_step ?_ hb0)

set_option maxHeartbeats 1000000 in
theorem rexpose_no2 (a0_0 a0_1 a0_2 a0_3 a0_4 a1_0 a1_1 a1_2 a1_3 a2_0 a2_1 a2_2 a2_3 a3 : Int) (a4_0 a4_1 a4_2 a4_3 : Bool) (w : World) (hv_ : observatoryref15_Valid.f a0_0 a0_1 a0_2 a0_3 a0_4 = some true) (h1_ : observatoryref15_Light.f a1_0 a1_1 a1_2 a1_3 = some true) (h2_ : observatoryref15_Light.f a2_0 a2_1 a2_2 a2_3 = some false) :
    Calls Try.prog 11 #[.agg #[.int .i64 a0_0, .int .i64 a0_1, .int .i64 a0_2, .int .i64 a0_3, .int .i64 a0_4], .agg #[.int .i64 a1_0, .int .i64 a1_1, .int .i64 a1_2, .int .i64 a1_3], .agg #[.int .i64 a2_0, .int .i64 a2_1, .int .i64 a2_2, .int .i64 a2_3], .int .i64 a3, .agg #[.bool a4_0, .bool a4_1, .bool a4_2, .bool a4_3]] w fun e w' => e = .returned (.tuple #[.agg #[.int .i64 0, .int .i64 0, .int .i64 0, .int .i64 0], .int .i64 1]) ∧ Below w.heap.size w w' := by
  have hv := Aside0.mk hv_
  clear hv_
  have h1 := Aside0.mk h1_
  clear h1_
  have h2 := Aside0.mk h2_
  clear h2_
  have hu23 := Try.underlying23
  have hu25 := Try.underlying25
  have hu27 := Try.underlying27
  go_enter Try.func11, Try.ntmps11
  go_wp2_with fail
  refine (observatoryref15_Valid.calls a0_0 a0_1 a0_2 a0_3 a0_4 true _ hv.out).mono ?_
  rintro e w0 ⟨rfl, hb0⟩
  obtain ⟨hc0, hf0⟩ := bcell hb0
  have z0_0 : w.heap.size < w0.heap.size := by have := hb0.size; (try simp at this); omega
  have z0_1 : w.heap.size + 1 < w0.heap.size := by have := hb0.size; (try simp at this); omega
  have z0_2 : w.heap.size + 1 + 1 < w0.heap.size := by have := hb0.size; (try simp at this); omega
  have z0_3 : w.heap.size + 1 + 1 + 1 < w0.heap.size := by have := hb0.size; (try simp at this); omega
  have z0_4 : w.heap.size + 1 + 1 + 1 + 1 < w0.heap.size := by have := hb0.size; (try simp at this); omega
  go_wp2_with fail
  refine (observatoryref15_Light.calls a1_0 a1_1 a1_2 a1_3 true _ h1.out).mono ?_
  rintro e w1 ⟨rfl, hb1⟩
  obtain ⟨hc1, hf1⟩ := bcell hb1
  have z1_0 : w.heap.size < w1.heap.size := by have := hb1.size; (try simp at this); omega
  have z1_1 : w.heap.size + 1 < w1.heap.size := by have := hb1.size; (try simp at this); omega
  have z1_2 : w.heap.size + 1 + 1 < w1.heap.size := by have := hb1.size; (try simp at this); omega
  have z1_3 : w.heap.size + 1 + 1 + 1 < w1.heap.size := by have := hb1.size; (try simp at this); omega
  have z1_4 : w.heap.size + 1 + 1 + 1 + 1 < w1.heap.size := by have := hb1.size; (try simp at this); omega
  go_wp2_with fail
  refine (observatoryref15_Light.calls a2_0 a2_1 a2_2 a2_3 false _ h2.out).mono ?_
  rintro e w2 ⟨rfl, hb2⟩
  obtain ⟨hc2, hf2⟩ := bcell hb2
  have z2_0 : w.heap.size < w2.heap.size := by have := hb2.size; (try simp at this); omega
  have z2_1 : w.heap.size + 1 < w2.heap.size := by have := hb2.size; (try simp at this); omega
  have z2_2 : w.heap.size + 1 + 1 < w2.heap.size := by have := hb2.size; (try simp at this); omega
  have z2_3 : w.heap.size + 1 + 1 + 1 < w2.heap.size := by have := hb2.size; (try simp at this); omega
  have z2_4 : w.heap.size + 1 + 1 + 1 + 1 < w2.heap.size := by have := hb2.size; (try simp at this); omega
  go_wp2
  refine bodyPost_ret (v := .tuple #[.agg #[.int .i64 0, .int .i64 0, .int .i64 0, .int .i64 0], .int .i64 1]) ?hr rfl ⟨rfl, ?_⟩
  case hr =>
    simp only [results, Try.results11]
    go_simp
  repeat (with_reducible first | exact Below.refl _ _ | (refine below_set ?_ (by first | omega | exact Nat.le_refl _)) | apply below_alloc | apply pw_below_drewN | apply below_drew1 | refine below_step ?_ hb2 | refine below_step ?_ hb1 | refine below_step ?_ hb0)

set_option maxHeartbeats 1000000 in
theorem rexpose_no3 (a0_0 a0_1 a0_2 a0_3 a0_4 a1_0 a1_1 a1_2 a1_3 a2_0 a2_1 a2_2 a2_3 a3 : Int) (a4_0 a4_1 a4_2 a4_3 : Bool) (w : World) (hv_ : observatoryref15_Valid.f a0_0 a0_1 a0_2 a0_3 a0_4 = some true) (h1_ : observatoryref15_Light.f a1_0 a1_1 a1_2 a1_3 = some true) (h2_ : observatoryref15_Light.f a2_0 a2_1 a2_2 a2_3 = some true) (ho_ : observatoryref15_within.f a3 (-50) 50 = some false) :
    Calls Try.prog 11 #[.agg #[.int .i64 a0_0, .int .i64 a0_1, .int .i64 a0_2, .int .i64 a0_3, .int .i64 a0_4], .agg #[.int .i64 a1_0, .int .i64 a1_1, .int .i64 a1_2, .int .i64 a1_3], .agg #[.int .i64 a2_0, .int .i64 a2_1, .int .i64 a2_2, .int .i64 a2_3], .int .i64 a3, .agg #[.bool a4_0, .bool a4_1, .bool a4_2, .bool a4_3]] w fun e w' => e = .returned (.tuple #[.agg #[.int .i64 0, .int .i64 0, .int .i64 0, .int .i64 0], .int .i64 1]) ∧ Below w.heap.size w w' := by
  have hv := Aside0.mk hv_
  clear hv_
  have h1 := Aside0.mk h1_
  clear h1_
  have h2 := Aside0.mk h2_
  clear h2_
  have ho := Aside0.mk ho_
  clear ho_
  have hu23 := Try.underlying23
  have hu25 := Try.underlying25
  have hu27 := Try.underlying27
  go_enter Try.func11, Try.ntmps11
  go_wp2_with fail
  refine (observatoryref15_Valid.calls a0_0 a0_1 a0_2 a0_3 a0_4 true _ hv.out).mono ?_
  rintro e w0 ⟨rfl, hb0⟩
  obtain ⟨hc0, hf0⟩ := bcell hb0
  have z0_0 : w.heap.size < w0.heap.size := by have := hb0.size; (try simp at this); omega
  have z0_1 : w.heap.size + 1 < w0.heap.size := by have := hb0.size; (try simp at this); omega
  have z0_2 : w.heap.size + 1 + 1 < w0.heap.size := by have := hb0.size; (try simp at this); omega
  have z0_3 : w.heap.size + 1 + 1 + 1 < w0.heap.size := by have := hb0.size; (try simp at this); omega
  have z0_4 : w.heap.size + 1 + 1 + 1 + 1 < w0.heap.size := by have := hb0.size; (try simp at this); omega
  go_wp2_with fail
  refine (observatoryref15_Light.calls a1_0 a1_1 a1_2 a1_3 true _ h1.out).mono ?_
  rintro e w1 ⟨rfl, hb1⟩
  obtain ⟨hc1, hf1⟩ := bcell hb1
  have z1_0 : w.heap.size < w1.heap.size := by have := hb1.size; (try simp at this); omega
  have z1_1 : w.heap.size + 1 < w1.heap.size := by have := hb1.size; (try simp at this); omega
  have z1_2 : w.heap.size + 1 + 1 < w1.heap.size := by have := hb1.size; (try simp at this); omega
  have z1_3 : w.heap.size + 1 + 1 + 1 < w1.heap.size := by have := hb1.size; (try simp at this); omega
  have z1_4 : w.heap.size + 1 + 1 + 1 + 1 < w1.heap.size := by have := hb1.size; (try simp at this); omega
  go_wp2_with fail
  refine (observatoryref15_Light.calls a2_0 a2_1 a2_2 a2_3 true _ h2.out).mono ?_
  rintro e w2 ⟨rfl, hb2⟩
  obtain ⟨hc2, hf2⟩ := bcell hb2
  have z2_0 : w.heap.size < w2.heap.size := by have := hb2.size; (try simp at this); omega
  have z2_1 : w.heap.size + 1 < w2.heap.size := by have := hb2.size; (try simp at this); omega
  have z2_2 : w.heap.size + 1 + 1 < w2.heap.size := by have := hb2.size; (try simp at this); omega
  have z2_3 : w.heap.size + 1 + 1 + 1 < w2.heap.size := by have := hb2.size; (try simp at this); omega
  have z2_4 : w.heap.size + 1 + 1 + 1 + 1 < w2.heap.size := by have := hb2.size; (try simp at this); omega
  go_wp2_with fail
  refine (observatoryref15_within.calls a3 (-50) 50 false _ ho.out).mono ?_
  rintro e w3 ⟨rfl, ⟨n3, rfl⟩⟩
  go_wp2
  refine bodyPost_ret (v := .tuple #[.agg #[.int .i64 0, .int .i64 0, .int .i64 0, .int .i64 0], .int .i64 1]) ?hr rfl ⟨rfl, ?_⟩
  case hr =>
    simp only [results, Try.results11]
    go_simp
  repeat (with_reducible first | exact Below.refl _ _ | (refine below_set ?_ (by first | omega | exact Nat.le_refl _)) | apply below_alloc | apply pw_below_drewN | apply below_drew1 | refine below_step ?_ hb2 | refine below_step ?_ hb1 | refine below_step ?_ hb0)

set_option maxHeartbeats 4000000 in
theorem rexpose_yes (a0_0 a0_1 a0_2 a0_3 a0_4 a1_0 a1_1 a1_2 a1_3 a2_0 a2_1 a2_2 a2_3 a3 : Int) (a4_0 a4_1 a4_2 a4_3 : Bool) (w : World) (hv_ : observatoryref15_Valid.f a0_0 a0_1 a0_2 a0_3 a0_4 = some true) (h1_ : observatoryref15_Light.f a1_0 a1_1 a1_2 a1_3 = some true) (h2_ : observatoryref15_Light.f a2_0 a2_1 a2_2 a2_3 = some true) (ho_ : observatoryref15_within.f a3 (-50) 50 = some true) (v_ : vldB a0_0 a0_1 a0_2 a0_3 a0_4 = true) (l1_ : ligB a1_0 a1_1 a1_2 a1_3 1000000 = true) (l2_ : ligB a2_0 a2_1 a2_2 a2_3 1000000 = true) (o_ : offB a3 = true) :
    Calls Try.prog 11 #[.agg #[.int .i64 a0_0, .int .i64 a0_1, .int .i64 a0_2, .int .i64 a0_3, .int .i64 a0_4], .agg #[.int .i64 a1_0, .int .i64 a1_1, .int .i64 a1_2, .int .i64 a1_3], .agg #[.int .i64 a2_0, .int .i64 a2_1, .int .i64 a2_2, .int .i64 a2_3], .int .i64 a3, .agg #[.bool a4_0, .bool a4_1, .bool a4_2, .bool a4_3]] w fun e w' => e = .returned (.tuple #[.agg #[.int .i64 (clp (expo a4_0 a0_0 a0_1 a0_2 a1_0 a2_0 a3) a0_3), .int .i64 (clp (expo a4_1 a0_0 a0_1 a0_2 a1_1 a2_1 a3) a0_3), .int .i64 (clp (expo a4_2 a0_0 a0_1 a0_2 a1_2 a2_2 a3) a0_3), .int .i64 (clp (expo a4_3 a0_0 a0_1 a0_2 a1_3 a2_3 a3) a0_3)], .int .i64 0]) ∧ Below w.heap.size w w' := by
  obtain ⟨g1, g2, b1, b2, d1, d2, f1, f2, k1, k2⟩ := vld_bd v_
  obtain ⟨x10, x20, x11, x21, x12, x22, x13, x23⟩ := lig_bd l1_
  obtain ⟨y10, y20, y11, y21, y12, y22, y13, y23⟩ := lig_bd l2_
  obtain ⟨o1, o2⟩ := off_bd o_
  clear v_ l1_ l2_ o_
  obtain ⟨m00, m10⟩ := mul_bd g1 g2 x10 x20 y10 y20
  obtain ⟨m01, m11⟩ := mul_bd g1 g2 x11 x21 y11 y21
  obtain ⟨m02, m12⟩ := mul_bd g1 g2 x12 x22 y12 y22
  obtain ⟨m03, m13⟩ := mul_bd g1 g2 x13 x23 y13 y23
  have hv := Aside0.mk hv_
  clear hv_
  have h1 := Aside0.mk h1_
  clear h1_
  have h2 := Aside0.mk h2_
  clear h2_
  have ho := Aside0.mk ho_
  clear ho_
  have hu23 := Try.underlying23
  have hu25 := Try.underlying25
  have hu27 := Try.underlying27
  go_enter Try.func11, Try.ntmps11
  go_wp2_with fail
  refine (observatoryref15_Valid.calls a0_0 a0_1 a0_2 a0_3 a0_4 true _ hv.out).mono ?_
  rintro e w0 ⟨rfl, hb0⟩
  obtain ⟨hc0, hf0⟩ := bcell hb0
  have z0_0 : w.heap.size < w0.heap.size := by have := hb0.size; (try simp at this); omega
  have z0_1 : w.heap.size + 1 < w0.heap.size := by have := hb0.size; (try simp at this); omega
  have z0_2 : w.heap.size + 1 + 1 < w0.heap.size := by have := hb0.size; (try simp at this); omega
  have z0_3 : w.heap.size + 1 + 1 + 1 < w0.heap.size := by have := hb0.size; (try simp at this); omega
  have z0_4 : w.heap.size + 1 + 1 + 1 + 1 < w0.heap.size := by have := hb0.size; (try simp at this); omega
  go_wp2_with fail
  refine (observatoryref15_Light.calls a1_0 a1_1 a1_2 a1_3 true _ h1.out).mono ?_
  rintro e w1 ⟨rfl, hb1⟩
  obtain ⟨hc1, hf1⟩ := bcell hb1
  have z1_0 : w.heap.size < w1.heap.size := by have := hb1.size; (try simp at this); omega
  have z1_1 : w.heap.size + 1 < w1.heap.size := by have := hb1.size; (try simp at this); omega
  have z1_2 : w.heap.size + 1 + 1 < w1.heap.size := by have := hb1.size; (try simp at this); omega
  have z1_3 : w.heap.size + 1 + 1 + 1 < w1.heap.size := by have := hb1.size; (try simp at this); omega
  have z1_4 : w.heap.size + 1 + 1 + 1 + 1 < w1.heap.size := by have := hb1.size; (try simp at this); omega
  go_wp2_with fail
  refine (observatoryref15_Light.calls a2_0 a2_1 a2_2 a2_3 true _ h2.out).mono ?_
  rintro e w2 ⟨rfl, hb2⟩
  obtain ⟨hc2, hf2⟩ := bcell hb2
  have z2_0 : w.heap.size < w2.heap.size := by have := hb2.size; (try simp at this); omega
  have z2_1 : w.heap.size + 1 < w2.heap.size := by have := hb2.size; (try simp at this); omega
  have z2_2 : w.heap.size + 1 + 1 < w2.heap.size := by have := hb2.size; (try simp at this); omega
  have z2_3 : w.heap.size + 1 + 1 + 1 < w2.heap.size := by have := hb2.size; (try simp at this); omega
  have z2_4 : w.heap.size + 1 + 1 + 1 + 1 < w2.heap.size := by have := hb2.size; (try simp at this); omega
  go_wp2_with fail
  refine (to_below (observatoryref15_within.calls a3 (-50) 50 true _ ho.out)).mono ?_
  rintro e w3 ⟨rfl, hb3⟩
  obtain ⟨hc3, hf3⟩ := bcell hb3
  have z3_0 : w.heap.size < w3.heap.size := by have := hb3.size; (try simp at this); omega
  have z3_1 : w.heap.size + 1 < w3.heap.size := by have := hb3.size; (try simp at this); omega
  have z3_2 : w.heap.size + 1 + 1 < w3.heap.size := by have := hb3.size; (try simp at this); omega
  have z3_3 : w.heap.size + 1 + 1 + 1 < w3.heap.size := by have := hb3.size; (try simp at this); omega
  have z3_4 : w.heap.size + 1 + 1 + 1 + 1 < w3.heap.size := by have := hb3.size; (try simp at this); omega
  go_wp2
  go_loopw [13] (fun i wr => ∃ k : Int, 0 ≤ k ∧ k ≤ 4 ∧ i = .int .i64 k ∧ Aside0 (wr.heap[w3.heap.size]? = some (.cells #[.int .i64 (nth 0 k (clp (expo a4_0 a0_0 a0_1 a0_2 a1_0 a2_0 a3) a0_3)), .int .i64 (nth 1 k (clp (expo a4_1 a0_0 a0_1 a0_2 a1_1 a2_1 a3) a0_3)), .int .i64 (nth 2 k (clp (expo a4_2 a0_0 a0_1 a0_2 a1_2 a2_2 a3) a0_3)), .int .i64 (nth 3 k (clp (expo a4_3 a0_0 a0_1 a0_2 a1_3 a2_3 a3) a0_3))] 25 (0, 0))) ∧ Below w3.heap.size w3 wr) (fun i _ => 4 - (intOf i).toNat)
  case atStart => exact ⟨0, by omega, by omega, rfl, ⟨by simpa [nth] using blk_new w3 _⟩, by repeat (with_reducible first | exact Below.refl _ _ | (refine below_set ?_ (by first | omega | exact Nat.le_refl _)) | apply below_alloc | apply pw_below_drewN | apply below_drew1)⟩
  case round =>
    obtain ⟨k, hk0, hk, rfl, HBK, hbr⟩ := hrel
    obtain ⟨hcr, hfr⟩ := bcell hbr
    have zr := blk_lt HBK.out
    have zr_0 : w.heap.size < wr.heap.size := by have := hbr.size; omega
    have zn_0 : ¬ (w.heap.size = w3.heap.size) := by omega
    have zr_1 : w.heap.size + 1 < wr.heap.size := by have := hbr.size; omega
    have zn_1 : ¬ (w.heap.size + 1 = w3.heap.size) := by omega
    have zr_2 : w.heap.size + 1 + 1 < wr.heap.size := by have := hbr.size; omega
    have zn_2 : ¬ (w.heap.size + 1 + 1 = w3.heap.size) := by omega
    have zr_3 : w.heap.size + 1 + 1 + 1 < wr.heap.size := by have := hbr.size; omega
    have zn_3 : ¬ (w.heap.size + 1 + 1 + 1 = w3.heap.size) := by omega
    have zr_4 : w.heap.size + 1 + 1 + 1 + 1 < wr.heap.size := by have := hbr.size; omega
    have zn_4 : ¬ (w.heap.size + 1 + 1 + 1 + 1 = w3.heap.size) := by omega
    have hk5 : k = 0 ∨ k = 1 ∨ k = 2 ∨ k = 3 ∨ k = 4 := by omega
    rcases hk5 with rfl | rfl | rfl | rfl | rfl
    · have hk0 : wr.cell? ⟨w3.heap.size, 0, none⟩ = some (.int .i64 (nth 0 0 (clp (expo a4_0 a0_0 a0_1 a0_2 a1_0 a2_0 a3) a0_3))) := (blk_cell HBK.out 0).trans rfl
      have hfz : wr.frozen? ⟨w3.heap.size, 0, none⟩ = false := blk_frozen HBK.out 0
      rcases Bool.eq_false_or_eq_true a4_0 with hbad | hbad
      · subst hbad
        go_wp2
        go_roundw
        case rel => exact ⟨1, by omega, by omega, rfl, ⟨by have h_ := HBK.out; simp only [nth, clp_bad (f := a0_3) f1] at h_ ⊢; simpa using h_⟩, hbr⟩
        case measure => simp [intOf]
      · subst hbad
        by_cases c1 : a0_3 < a0_1 + a0_2 + (a1_0 + a2_0) * a0_0 / 1000 + a3
        · go_wp2
          go_quiet (fail)
          go_wp2
          go_roundw
          case rel => exact ⟨1, by omega, by omega, rfl, ⟨blk_put (blk_drewN HBK.out _) 0 _ (by simp [nth, clp_hi f1 c1])⟩, below_set (pw_below_drewN hbr _) (Nat.le_refl _)⟩
          case measure => simp [intOf]
        · by_cases c2 : a0_1 + a0_2 + (a1_0 + a2_0) * a0_0 / 1000 + a3 < 0
          · go_wp2
            go_quiet (fail)
            go_wp2
            go_roundw
            case rel => exact ⟨1, by omega, by omega, rfl, ⟨blk_put (blk_drewN HBK.out _) 0 _ (by simp [nth, clp_lo (Int.not_lt.2 c1) c2])⟩, below_set (pw_below_drewN hbr _) (Nat.le_refl _)⟩
            case measure => simp [intOf]
          · go_wp2
            go_quiet (fail)
            go_wp2
            go_roundw
            case rel => exact ⟨1, by omega, by omega, rfl, ⟨blk_put (blk_drewN HBK.out _) 0 _ (by simp [nth, clp_in (Int.not_lt.2 c1) (Int.not_lt.2 c2)])⟩, below_set (pw_below_drewN hbr _) (Nat.le_refl _)⟩
            case measure => simp [intOf]
    · have hk1 : wr.cell? ⟨w3.heap.size, 1, none⟩ = some (.int .i64 (nth 1 1 (clp (expo a4_1 a0_0 a0_1 a0_2 a1_1 a2_1 a3) a0_3))) := (blk_cell HBK.out 1).trans rfl
      have hfz : wr.frozen? ⟨w3.heap.size, 1, none⟩ = false := blk_frozen HBK.out 1
      rcases Bool.eq_false_or_eq_true a4_1 with hbad | hbad
      · subst hbad
        go_wp2
        go_roundw
        case rel => exact ⟨2, by omega, by omega, rfl, ⟨by have h_ := HBK.out; simp only [nth, clp_bad (f := a0_3) f1] at h_ ⊢; simpa using h_⟩, hbr⟩
        case measure => simp [intOf]
      · subst hbad
        by_cases c1 : a0_3 < a0_1 + a0_2 + (a1_1 + a2_1) * a0_0 / 1000 + a3
        · go_wp2
          go_quiet (fail)
          go_wp2
          go_roundw
          case rel => exact ⟨2, by omega, by omega, rfl, ⟨blk_put (blk_drewN HBK.out _) 1 _ (by simp [nth, clp_hi f1 c1])⟩, below_set (pw_below_drewN hbr _) (Nat.le_refl _)⟩
          case measure => simp [intOf]
        · by_cases c2 : a0_1 + a0_2 + (a1_1 + a2_1) * a0_0 / 1000 + a3 < 0
          · go_wp2
            go_quiet (fail)
            go_wp2
            go_roundw
            case rel => exact ⟨2, by omega, by omega, rfl, ⟨blk_put (blk_drewN HBK.out _) 1 _ (by simp [nth, clp_lo (Int.not_lt.2 c1) c2])⟩, below_set (pw_below_drewN hbr _) (Nat.le_refl _)⟩
            case measure => simp [intOf]
          · go_wp2
            go_quiet (fail)
            go_wp2
            go_roundw
            case rel => exact ⟨2, by omega, by omega, rfl, ⟨blk_put (blk_drewN HBK.out _) 1 _ (by simp [nth, clp_in (Int.not_lt.2 c1) (Int.not_lt.2 c2)])⟩, below_set (pw_below_drewN hbr _) (Nat.le_refl _)⟩
            case measure => simp [intOf]
    · have hk2 : wr.cell? ⟨w3.heap.size, 2, none⟩ = some (.int .i64 (nth 2 2 (clp (expo a4_2 a0_0 a0_1 a0_2 a1_2 a2_2 a3) a0_3))) := (blk_cell HBK.out 2).trans rfl
      have hfz : wr.frozen? ⟨w3.heap.size, 2, none⟩ = false := blk_frozen HBK.out 2
      rcases Bool.eq_false_or_eq_true a4_2 with hbad | hbad
      · subst hbad
        go_wp2
        go_roundw
        case rel => exact ⟨3, by omega, by omega, rfl, ⟨by have h_ := HBK.out; simp only [nth, clp_bad (f := a0_3) f1] at h_ ⊢; simpa using h_⟩, hbr⟩
        case measure => simp [intOf]
      · subst hbad
        by_cases c1 : a0_3 < a0_1 + a0_2 + (a1_2 + a2_2) * a0_0 / 1000 + a3
        · go_wp2
          go_quiet (fail)
          go_wp2
          go_roundw
          case rel => exact ⟨3, by omega, by omega, rfl, ⟨blk_put (blk_drewN HBK.out _) 2 _ (by simp [nth, clp_hi f1 c1])⟩, below_set (pw_below_drewN hbr _) (Nat.le_refl _)⟩
          case measure => simp [intOf]
        · by_cases c2 : a0_1 + a0_2 + (a1_2 + a2_2) * a0_0 / 1000 + a3 < 0
          · go_wp2
            go_quiet (fail)
            go_wp2
            go_roundw
            case rel => exact ⟨3, by omega, by omega, rfl, ⟨blk_put (blk_drewN HBK.out _) 2 _ (by simp [nth, clp_lo (Int.not_lt.2 c1) c2])⟩, below_set (pw_below_drewN hbr _) (Nat.le_refl _)⟩
            case measure => simp [intOf]
          · go_wp2
            go_quiet (fail)
            go_wp2
            go_roundw
            case rel => exact ⟨3, by omega, by omega, rfl, ⟨blk_put (blk_drewN HBK.out _) 2 _ (by simp [nth, clp_in (Int.not_lt.2 c1) (Int.not_lt.2 c2)])⟩, below_set (pw_below_drewN hbr _) (Nat.le_refl _)⟩
            case measure => simp [intOf]
    · have hk3 : wr.cell? ⟨w3.heap.size, 3, none⟩ = some (.int .i64 (nth 3 3 (clp (expo a4_3 a0_0 a0_1 a0_2 a1_3 a2_3 a3) a0_3))) := (blk_cell HBK.out 3).trans rfl
      have hfz : wr.frozen? ⟨w3.heap.size, 3, none⟩ = false := blk_frozen HBK.out 3
      rcases Bool.eq_false_or_eq_true a4_3 with hbad | hbad
      · subst hbad
        go_wp2
        go_roundw
        case rel => exact ⟨4, by omega, by omega, rfl, ⟨by have h_ := HBK.out; simp only [nth, clp_bad (f := a0_3) f1] at h_ ⊢; simpa using h_⟩, hbr⟩
        case measure => simp [intOf]
      · subst hbad
        by_cases c1 : a0_3 < a0_1 + a0_2 + (a1_3 + a2_3) * a0_0 / 1000 + a3
        · go_wp2
          go_quiet (fail)
          go_wp2
          go_roundw
          case rel => exact ⟨4, by omega, by omega, rfl, ⟨blk_put (blk_drewN HBK.out _) 3 _ (by simp [nth, clp_hi f1 c1])⟩, below_set (pw_below_drewN hbr _) (Nat.le_refl _)⟩
          case measure => simp [intOf]
        · by_cases c2 : a0_1 + a0_2 + (a1_3 + a2_3) * a0_0 / 1000 + a3 < 0
          · go_wp2
            go_quiet (fail)
            go_wp2
            go_roundw
            case rel => exact ⟨4, by omega, by omega, rfl, ⟨blk_put (blk_drewN HBK.out _) 3 _ (by simp [nth, clp_lo (Int.not_lt.2 c1) c2])⟩, below_set (pw_below_drewN hbr _) (Nat.le_refl _)⟩
            case measure => simp [intOf]
          · go_wp2
            go_quiet (fail)
            go_wp2
            go_roundw
            case rel => exact ⟨4, by omega, by omega, rfl, ⟨blk_put (blk_drewN HBK.out _) 3 _ (by simp [nth, clp_in (Int.not_lt.2 c1) (Int.not_lt.2 c2)])⟩, below_set (pw_below_drewN hbr _) (Nat.le_refl _)⟩
            case measure => simp [intOf]
    · have hk0 : wr.cell? ⟨w3.heap.size, 0, none⟩ = some (.int .i64 (clp (expo a4_0 a0_0 a0_1 a0_2 a1_0 a2_0 a3) a0_3)) := (blk_cell HBK.out 0).trans rfl
      have hk1 : wr.cell? ⟨w3.heap.size, 1, none⟩ = some (.int .i64 (clp (expo a4_1 a0_0 a0_1 a0_2 a1_1 a2_1 a3) a0_3)) := (blk_cell HBK.out 1).trans rfl
      have hk2 : wr.cell? ⟨w3.heap.size, 2, none⟩ = some (.int .i64 (clp (expo a4_2 a0_0 a0_1 a0_2 a1_2 a2_2 a3) a0_3)) := (blk_cell HBK.out 2).trans rfl
      have hk3 : wr.cell? ⟨w3.heap.size, 3, none⟩ = some (.int .i64 (clp (expo a4_3 a0_0 a0_1 a0_2 a1_3 a2_3 a3) a0_3)) := (blk_cell HBK.out 3).trans rfl
      go_wp2
      refine bodyPost_ret (v := .tuple #[.agg #[.int .i64 (clp (expo a4_0 a0_0 a0_1 a0_2 a1_0 a2_0 a3) a0_3), .int .i64 (clp (expo a4_1 a0_0 a0_1 a0_2 a1_1 a2_1 a3) a0_3), .int .i64 (clp (expo a4_2 a0_0 a0_1 a0_2 a1_2 a2_2 a3) a0_3), .int .i64 (clp (expo a4_3 a0_0 a0_1 a0_2 a1_3 a2_3 a3) a0_3)], .int .i64 0]) ?hr rfl ⟨rfl, ?_⟩
      case hr =>
        simp only [results, Try.results11]
        go_simp
      repeat (with_reducible first | exact Below.refl _ _ | (refine below_set ?_ (by first | omega | exact Nat.le_refl _)) | apply below_alloc | apply pw_below_drewN | apply below_drew1 | refine below_step ?_ hbr | refine below_step ?_ hb3 | refine below_step ?_ hb2 | refine below_step ?_ hb1 | refine below_step ?_ hb0)

theorem observatoryref15_Expose.calls (a0_0 a0_1 a0_2 a0_3 a0_4 a1_0 a1_1 a1_2 a1_3 a2_0 a2_1 a2_2 a2_3 a3 : Int) (a4_0 a4_1 a4_2 a4_3 : Bool) (r1 r2 r3 r4 r5 : Int) (w : World) (h : observatoryref15_Expose.f a0_0 a0_1 a0_2 a0_3 a0_4 a1_0 a1_1 a1_2 a1_3 a2_0 a2_1 a2_2 a2_3 a3 a4_0 a4_1 a4_2 a4_3 = some (r1, r2, r3, r4, r5)) :
    Calls Try.prog 11 #[.agg #[.int .i64 a0_0, .int .i64 a0_1, .int .i64 a0_2, .int .i64 a0_3, .int .i64 a0_4], .agg #[.int .i64 a1_0, .int .i64 a1_1, .int .i64 a1_2, .int .i64 a1_3], .agg #[.int .i64 a2_0, .int .i64 a2_1, .int .i64 a2_2, .int .i64 a2_3], .int .i64 a3, .agg #[.bool a4_0, .bool a4_1, .bool a4_2, .bool a4_3]] w fun e w' => e = .returned (.tuple #[.agg #[.int .i64 r1, .int .i64 r2, .int .i64 r3, .int .i64 r4], .int .i64 r5]) ∧ Below w.heap.size w w' := by
  have hv := rval_eq a0_0 a0_1 a0_2 a0_3 a0_4
  have h1 := rlig_eq a1_0 a1_1 a1_2 a1_3
  have h2 := rlig_eq a2_0 a2_1 a2_2 a2_3
  have ho : observatoryref15_within.f a3 (-50) 50 = some (offB a3) := rwin_eq a3 (-50) 50
  unfold observatoryref15_Expose.f at h
  cases cv : vldB a0_0 a0_1 a0_2 a0_3 a0_4
  · rw [if_neg (by simp [cv])] at h
    simp only [Option.some.injEq, Prod.mk.injEq] at h
    obtain ⟨rfl, rfl, rfl, rfl, rfl⟩ := h
    exact rexpose_no0 a0_0 a0_1 a0_2 a0_3 a0_4 a1_0 a1_1 a1_2 a1_3 a2_0 a2_1 a2_2 a2_3 a3 a4_0 a4_1 a4_2 a4_3 w (hv.trans (by rw [cv]))
  cases c1 : ligB a1_0 a1_1 a1_2 a1_3 1000000
  · rw [if_neg (by simp [c1])] at h
    simp only [Option.some.injEq, Prod.mk.injEq] at h
    obtain ⟨rfl, rfl, rfl, rfl, rfl⟩ := h
    exact rexpose_no1 a0_0 a0_1 a0_2 a0_3 a0_4 a1_0 a1_1 a1_2 a1_3 a2_0 a2_1 a2_2 a2_3 a3 a4_0 a4_1 a4_2 a4_3 w (hv.trans (by rw [cv])) (h1.trans (by rw [c1]))
  cases c2 : ligB a2_0 a2_1 a2_2 a2_3 1000000
  · rw [if_neg (by simp [c2])] at h
    simp only [Option.some.injEq, Prod.mk.injEq] at h
    obtain ⟨rfl, rfl, rfl, rfl, rfl⟩ := h
    exact rexpose_no2 a0_0 a0_1 a0_2 a0_3 a0_4 a1_0 a1_1 a1_2 a1_3 a2_0 a2_1 a2_2 a2_3 a3 a4_0 a4_1 a4_2 a4_3 w (hv.trans (by rw [cv])) (h1.trans (by rw [c1])) (h2.trans (by rw [c2]))
  cases c3 : offB a3
  · rw [if_neg (by simp [c3])] at h
    simp only [Option.some.injEq, Prod.mk.injEq] at h
    obtain ⟨rfl, rfl, rfl, rfl, rfl⟩ := h
    exact rexpose_no3 a0_0 a0_1 a0_2 a0_3 a0_4 a1_0 a1_1 a1_2 a1_3 a2_0 a2_1 a2_2 a2_3 a3 a4_0 a4_1 a4_2 a4_3 w (hv.trans (by rw [cv])) (h1.trans (by rw [c1])) (h2.trans (by rw [c2])) (ho.trans (by rw [c3]))
  rw [if_pos ⟨cv, c1, c2, c3⟩] at h
  simp only [Option.some.injEq, Prod.mk.injEq] at h
  obtain ⟨rfl, rfl, rfl, rfl, rfl⟩ := h
  exact rexpose_yes a0_0 a0_1 a0_2 a0_3 a0_4 a1_0 a1_1 a1_2 a1_3 a2_0 a2_1 a2_2 a2_3 a3 a4_0 a4_1 a4_2 a4_3 w (hv.trans (by rw [cv])) (h1.trans (by rw [c1])) (h2.trans (by rw [c2])) (ho.trans (by rw [c3])) cv c1 c2 c3

end Go.Proofs.Ytgagnoijnhhegaa.Px
