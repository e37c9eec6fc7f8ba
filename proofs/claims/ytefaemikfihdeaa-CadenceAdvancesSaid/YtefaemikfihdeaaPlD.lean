/- The plain law CadenceAdvances. -/
import Derived.Test.YtefaemikfihdeaaPlP
import Derived.Test.YtefaemikfihdeaaPxx27
import Derived.OpenShut
namespace Go.Proofs.Ytefaemikfihdeaa.Px
open Go.RowKit Go.Proofs.YtefaemikfihdeaaW.PrintWords Go.Proofs.YtefaemikfihdeaaW.PrintLast Go.Proofs.YtefaemikfihdeaaW.PrintMore
set_option linter.unusedVariables false
set_option linter.unusedSimpArgs false

theorem CB_mk {l : List S35} {a c0 c1 c2 : Int} {c3 : Bool} (v : VB l a = true) (h : CP l a c0 c1 c2 c3) : CB l a c0 c1 c2 c3 = true := by
  unfold CB
  rw [v, Bool.true_and]
  exact decide_eq_true h
theorem advances_pure (l : List S35) (a c0 c1 c2 : Int) (c3 : Bool) (m : Int) (hl : l.length ≤ 140737488351232) : ∃ k, observatorylaw24_CadenceAdvances.f k l a c0 c1 c2 c3 m = some true := by
  obtain ⟨K1, h1⟩ := advance_ev l a c0 c1 c2 c3 m hl
  obtain ⟨K5, h5⟩ := window_ev l a (advV l a c0 c1 c2 c3 m).1 (advV l a c0 c1 c2 c3 m).2.1 (advV l a c0 c1 c2 c3 m).2.2.1 (advV l a c0 c1 c2 c3 m).2.2.2.1 hl
  obtain ⟨K9, h9⟩ := ready_ev l a c0 c1 c2 c3 m hl
  obtain ⟨n, hn⟩ : ∃ n, n = K1 + K5 + K9 := ⟨_, rfl⟩
  refine ⟨n, ?_⟩
  replace h1 := h1 n (by omega)
  replace h5 := h5 n (by omega)
  replace h9 := h9 n (by omega)
  simp only at h1 h5 h9
  simp only [observatorylaw24_CadenceAdvances.f, observatorylaw24_head.f, observatoryref24_Few.f, Option.bind_some, h1, h5, h9, observatorylaw24_taken.f]
  split
  · by_cases z : rdyV l a c0 c1 c2 c3 m = 0
    · obtain ⟨rfl, hc, m0, m1⟩ := rdy_zero z
      obtain ⟨v', i1, i2, i3, i4, i5, i6, i7⟩ := CB_false hc
      have b := VB_bd v'
      have p1 : 0 ≤ c1 * (l.length : Int) := Int.mul_nonneg i3 (by omega)
      have p2 : c1 * (l.length : Int) ≤ 100 * 40 := Int.mul_le_mul (by omega) (by omega) (by omega) (by omega)
      have p3 : (c1 + 1) * (l.length : Int) = c1 * (l.length : Int) + l.length := by rw [Int.add_mul]; omega
      have p4 : 0 ≤ a * (l.length : Int) := Int.mul_nonneg (by omega) (by omega)
      have p5 : a * (l.length : Int) ≤ 100 * 40 := Int.mul_le_mul (by omega) (by omega) (by omega) (by omega)
      have p6 : (c1 + 1) * (l.length : Int) ≤ a * (l.length : Int) := Int.mul_le_mul_of_nonneg_right (by omega) (by omega)
      have ea : advV l a c0 c1 c2 false m = if c0 + 1 = l.length then (0, c1 + 1, m, c1 + 1 == a, 0) else (c0 + 1, c1, m, false, 0) := by unfold advV; rw [if_pos z]
      rw [ea]
      by_cases e : c0 + 1 = (l.length : Int)
      · simp only [if_pos e, if_true]
        have cb : CB l a 0 (c1 + 1) m (c1 + 1 == a) = true := by
          refine CB_mk v' ?_
          by_cases q : c1 + 1 = a
          · right; left; exact ⟨by simpa using q, rfl, q, m0, m1⟩
          · right; right; exact ⟨by simpa using q, by omega, by omega, by omega, by omega, m0, m1, by omega⟩
        have w1 : (winV l a 0 (c1 + 1) m (c1 + 1 == a)).2.2 ≠ 1 := by
          unfold winV
          rw [if_pos cb]
          repeat' split
          all_goals simp
        rw [if_neg w1, wr (x := (c1 + 1) * (l.length : Int)) (by omega) (by omega), wr (x := (c1 + 1) * (l.length : Int) + 0) (by omega) (by omega), wr (x := c1 * (l.length : Int)) (by omega) (by omega), wr (x := c1 * (l.length : Int) + c0) (by omega) (by omega), wr (x := c1 * (l.length : Int) + c0 + 1) (by omega) (by omega), wr (x := a * (l.length : Int)) (by omega) (by omega), if_pos (by omega)]
        by_cases q : c1 + 1 = a
        · rw [q]; simp
        · have p7 : (c1 + 2) * (l.length : Int) ≤ a * (l.length : Int) := Int.mul_le_mul_of_nonneg_right (by omega) (by omega)
          have p8 : (c1 + 2) * (l.length : Int) = c1 * (l.length : Int) + l.length + l.length := by rw [Int.add_mul]; omega
          rw [show (c1 + 1 == a) = false from by simpa using q, show ((c1 + 1) * (l.length : Int) + 0 == a * (l.length : Int)) = false from by simp only [beq_eq_false_iff_ne]; omega]
          rfl
      · simp only [if_neg e, if_true]
        have cb : CB l a (c0 + 1) c1 m false = true := by
          refine CB_mk v' ?_
          right; right; exact ⟨rfl, by omega, by omega, by omega, by omega, m0, m1, by omega⟩
        have w1 : (winV l a (c0 + 1) c1 m false).2.2 ≠ 1 := by
          unfold winV
          rw [if_pos cb]
          repeat' split
          all_goals simp
        rw [if_neg w1, wr (x := c1 * (l.length : Int)) (by omega) (by omega), wr (x := c1 * (l.length : Int) + (c0 + 1)) (by omega) (by omega), wr (x := c1 * (l.length : Int) + c0) (by omega) (by omega), wr (x := c1 * (l.length : Int) + c0 + 1) (by omega) (by omega), wr (x := a * (l.length : Int)) (by omega) (by omega), if_pos (by omega), show (c1 * (l.length : Int) + (c0 + 1) == a * (l.length : Int)) = false from by simp only [beq_eq_false_iff_ne]; omega]
        rfl
    · have ea : advV l a c0 c1 c2 c3 m = (0, 0, 0, false, rdyV l a c0 c1 c2 c3 m) := by unfold advV; rw [if_neg z]
      rw [ea]
      simp [z]
  · rfl

theorem few_no {l : List S35} {a : Int} (h : ¬ l.length ≤ 50) : observatoryref24_Few.f l a = some false := by
  unfold observatoryref24_Few.f
  rw [decide_eq_false (by omega)]
theorem few_yes {l : List S35} {a : Int} (h : l.length ≤ 50) : observatoryref24_Few.f l a = some true := by
  unfold observatoryref24_Few.f
  rw [decide_eq_true (by omega)]
theorem CadenceAdvances_law (l : List S35) (a : Int) (c0 c1 c2 : Int) (c3 : Bool) (m : Int) : ∃ k, observatorylaw24_CadenceAdvances.f k l a c0 c1 c2 c3 m = some true := by
  by_cases h : l.length ≤ 50
  · exact advances_pure l a c0 c1 c2 c3 m (by omega)
  · refine ⟨0, ?_⟩
    simp only [observatorylaw24_CadenceAdvances.f, observatorylaw24_head.f, few_no h, Option.bind_some]
    rfl
end Go.Proofs.Ytefaemikfihdeaa.Px
