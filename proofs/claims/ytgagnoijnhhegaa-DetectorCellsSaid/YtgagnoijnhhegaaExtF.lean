/- The contract of the laws' head, in the form of the print's contracts: what each call hands back, and that it changes nothing that was there. -/
import Derived.Test.YtgagnoijnhhegaaExtC
import Derived.Test.YtgagnoijnhhegaaPxx1
import Derived.Test.YtgagnoijnhhegaaPxx11
namespace Go.Proofs.Ytgagnoijnhhegaa.Px
open Go.RowKit Go.Proofs.YtgagnoijnhhegaaW.PrintWords Go.Proofs.YtgagnoijnhhegaaW.PrintLast Go.Proofs.YtgagnoijnhhegaaW.PrintMore
attribute [local go_sem] max2_int min2_int max_two min_two max_three min_three max_four min_four
set_option linter.unusedVariables false
set_option linter.unusedSimpArgs false

/-! ### observatorylaw15_head: function 9 -/
def observatorylaw15_head.f : Option Bool := some true
attribute [local go_sem high] eqA25
attribute [local go_sem] World.size_setCell
theorem eqM27 (d : Nat) (w : World) (x0 y0 x1 y1 x2 y2 x3 y3 : Bool) :
    (Op.equalIn (d + 2) 27 (.agg #[.bool x0, .bool x1, .bool x2, .bool x3]) (.agg #[.bool y0, .bool y1, .bool y2, .bool y3])).run Try.prog w = .ok (x0 == y0 && (x1 == y1 && (x2 == y2 && (x3 == y3)))) w := by
  obtain ⟨i, hi⟩ : ∃ i, Try.prog.info? 4 = some i := ⟨_, rfl⟩
  have hc : Try.prog.cellsOf 4 = 1 := by kernel_rfl
  rw [run_equalIn_array (P := Try.prog) w (d + 1) _ _ Try.underlying27 hi, hc]
  simp only [show List.range 4 = [0, 1, 2, 3] from rfl, Op.eqItems]
  go_simp
  by_cases h0 : x0 = y0 <;> by_cases h1 : x1 = y1 <;> by_cases h2 : x2 = y2 <;> by_cases h3 : x3 = y3 <;> simp [h0, h1, h2, h3]
attribute [local go_sem high] eqM27
set_option maxHeartbeats 4000000 in
theorem observatorylaw15_head.calls (r : Bool) (w : World) (h : observatorylaw15_head.f = some r) :
    Calls Try.prog 9 #[] w fun e w' => e = .returned (.bool r) ∧ Below w.heap.size w w' := by
  obtain rfl := Option.some.inj h
  clear h
  have hu23 := Try.underlying23
  have hu25 := Try.underlying25
  have hu27 := Try.underlying27
  go_enter Try.func9, Try.ntmps9
  go_wp2_with fail
  refine (observatorylaw15_example.calls 500 100 20 1000 100 _ rfl).mono ?_
  rintro e w0 ⟨rfl, hb0⟩
  obtain ⟨hc0, hf0⟩ := bcell hb0
  have y0_0 : w0.heap.size < w0.heap.size + 1 + 1 := by omega
  have y0_1 : w0.heap.size + 1 < w0.heap.size + 1 + 1 := by omega
  go_wp2_with fail
  refine (detector_Expose.calls 500 100 20 1000 100 0 1000 3000 7 0 0 0 1 5 true false false false 0 625 1000 129 0 _ (by decide)).mono ?_
  rintro e w1 ⟨rfl, hb1⟩
  obtain ⟨hc1, hf1⟩ := bcell hb1
  have z1_0 : w0.heap.size < w1.heap.size := by have := hb1.size; (try simp at this); omega
  have z1_1 : w0.heap.size + 1 < w1.heap.size := by have := hb1.size; (try simp at this); omega
  go_wp2_with fail
  refine (detector_Ghost.calls 500 100 20 1000 100 0 625 1000 129 0 0 100 0 0 _ (by decide)).mono ?_
  rintro e w2 ⟨rfl, hb2⟩
  obtain ⟨hc2, hf2⟩ := bcell hb2
  have z2_0 : w0.heap.size < w2.heap.size := by have := hb2.size; (try simp at this); omega
  have z2_1 : w0.heap.size + 1 < w2.heap.size := by have := hb2.size; (try simp at this); omega
  have z2_2 : w1.heap.size < w2.heap.size := by have := hb2.size; (try simp at this); omega
  go_wp2_with fail
  refine (detector_Reduce.calls 500 100 20 1000 100 0 625 1000 129 true false false false 0 1010 0 18 false true false true 0 _ (by rfl)).mono ?_
  rintro e w3 ⟨rfl, hb3⟩
  obtain ⟨hc3, hf3⟩ := bcell hb3
  have z3_0 : w0.heap.size < w3.heap.size := by have := hb3.size; (try simp at this); omega
  have z3_1 : w0.heap.size + 1 < w3.heap.size := by have := hb3.size; (try simp at this); omega
  have z3_2 : w1.heap.size < w3.heap.size := by have := hb3.size; (try simp at this); omega
  have z3_3 : w2.heap.size < w3.heap.size := by have := hb3.size; (try simp at this); omega
  have y3_0 : w0.heap.size < w3.heap.size + 1 + 1 := by omega
  have y3_1 : w0.heap.size + 1 < w3.heap.size + 1 + 1 := by omega
  have y3_2 : w1.heap.size < w3.heap.size + 1 + 1 := by omega
  have y3_3 : w2.heap.size < w3.heap.size + 1 + 1 := by omega
  have y3_4 : w3.heap.size < w3.heap.size + 1 + 1 := by omega
  have y3_5 : w3.heap.size + 1 < w3.heap.size + 1 + 1 := by omega
  go_wp2_with fail
  refine (detector_Expose.calls 500 100 20 1000 100 0 0 0 0 0 0 0 0 51 true false false false 0 0 0 0 1 _ (by decide)).mono ?_
  rintro e w4 ⟨rfl, hb4⟩
  obtain ⟨hc4, hf4⟩ := bcell hb4
  have z4_0 : w0.heap.size < w4.heap.size := by have := hb4.size; (try simp at this); omega
  have z4_1 : w0.heap.size + 1 < w4.heap.size := by have := hb4.size; (try simp at this); omega
  have z4_2 : w1.heap.size < w4.heap.size := by have := hb4.size; (try simp at this); omega
  have z4_3 : w2.heap.size < w4.heap.size := by have := hb4.size; (try simp at this); omega
  have z4_4 : w3.heap.size < w4.heap.size := by have := hb4.size; (try simp at this); omega
  have z4_5 : w3.heap.size + 1 < w4.heap.size := by have := hb4.size; (try simp at this); omega
  go_wp2_with fail
  refine (detector_Ghost.calls 500 100 20 1000 100 1001 0 0 0 0 0 0 0 1 _ (by decide)).mono ?_
  rintro e w5 ⟨rfl, hb5⟩
  obtain ⟨hc5, hf5⟩ := bcell hb5
  have z5_0 : w0.heap.size < w5.heap.size := by have := hb5.size; (try simp at this); omega
  have z5_1 : w0.heap.size + 1 < w5.heap.size := by have := hb5.size; (try simp at this); omega
  have z5_2 : w1.heap.size < w5.heap.size := by have := hb5.size; (try simp at this); omega
  have z5_3 : w2.heap.size < w5.heap.size := by have := hb5.size; (try simp at this); omega
  have z5_4 : w3.heap.size < w5.heap.size := by have := hb5.size; (try simp at this); omega
  have z5_5 : w3.heap.size + 1 < w5.heap.size := by have := hb5.size; (try simp at this); omega
  have z5_6 : w4.heap.size < w5.heap.size := by have := hb5.size; (try simp at this); omega
  go_wp2_with fail
  refine (detector_Valid.calls 500 100 20 1000 100 true _ (by decide)).mono ?_
  rintro e w6 ⟨rfl, hb6⟩
  obtain ⟨hc6, hf6⟩ := bcell hb6
  have z6_0 : w0.heap.size < w6.heap.size := by have := hb6.size; (try simp at this); omega
  have z6_1 : w0.heap.size + 1 < w6.heap.size := by have := hb6.size; (try simp at this); omega
  have z6_2 : w1.heap.size < w6.heap.size := by have := hb6.size; (try simp at this); omega
  have z6_3 : w2.heap.size < w6.heap.size := by have := hb6.size; (try simp at this); omega
  have z6_4 : w3.heap.size < w6.heap.size := by have := hb6.size; (try simp at this); omega
  have z6_5 : w3.heap.size + 1 < w6.heap.size := by have := hb6.size; (try simp at this); omega
  have z6_6 : w4.heap.size < w6.heap.size := by have := hb6.size; (try simp at this); omega
  have z6_7 : w5.heap.size < w6.heap.size := by have := hb6.size; (try simp at this); omega
  go_wp2_with fail
  refine (detector_Valid.calls 0 0 0 0 0 false _ (by decide)).mono ?_
  rintro e w7 ⟨rfl, hb7⟩
  obtain ⟨hc7, hf7⟩ := bcell hb7
  have z7_0 : w0.heap.size < w7.heap.size := by have := hb7.size; (try simp at this); omega
  have z7_1 : w0.heap.size + 1 < w7.heap.size := by have := hb7.size; (try simp at this); omega
  have z7_2 : w1.heap.size < w7.heap.size := by have := hb7.size; (try simp at this); omega
  have z7_3 : w2.heap.size < w7.heap.size := by have := hb7.size; (try simp at this); omega
  have z7_4 : w3.heap.size < w7.heap.size := by have := hb7.size; (try simp at this); omega
  have z7_5 : w3.heap.size + 1 < w7.heap.size := by have := hb7.size; (try simp at this); omega
  have z7_6 : w4.heap.size < w7.heap.size := by have := hb7.size; (try simp at this); omega
  have z7_7 : w5.heap.size < w7.heap.size := by have := hb7.size; (try simp at this); omega
  go_wp2
  go_ret
  exact ⟨rfl, by repeat (with_reducible first | exact Below.refl _ _ | (refine below_set ?_ (by first | omega | exact Nat.le_refl _)) | apply below_alloc | apply pw_below_drewN | apply below_drew1 | refine below_step ?_ hb7 | refine below_step ?_ hb6 | refine below_step ?_ hb5 | refine below_step ?_ hb4 | refine below_step ?_ hb3 | refine below_step ?_ hb2 | refine below_step ?_ hb1 | refine below_step ?_ hb0)⟩

end Go.Proofs.Ytgagnoijnhhegaa.Px
