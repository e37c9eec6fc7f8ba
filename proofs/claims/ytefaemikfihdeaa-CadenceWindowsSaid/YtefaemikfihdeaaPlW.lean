/- The plain law CadenceWindows. -/
import Derived.Test.YtefaemikfihdeaaPlP
import Derived.Test.YtefaemikfihdeaaPxx25
import Derived.OpenShut
namespace Go.Proofs.Ytefaemikfihdeaa.Px
open Go.RowKit Go.Proofs.YtefaemikfihdeaaW.PrintWords Go.Proofs.YtefaemikfihdeaaW.PrintLast Go.Proofs.YtefaemikfihdeaaW.PrintMore
set_option linter.unusedVariables false
set_option linter.unusedSimpArgs false

theorem windows_pure (l : List S35) (a c0 c1 c2 : Int) (c3 : Bool) (m : Int) (hl : l.length ≤ 140737488351232) : ∃ k, observatorylaw24_CadenceWindows.f k l a c0 c1 c2 c3 m = some true := by
  obtain ⟨K5, h5⟩ := window_ev l a c0 c1 c2 c3 hl
  obtain ⟨K9, h9⟩ := ready_ev l a c0 c1 c2 c3 m hl
  obtain ⟨n, hn⟩ : ∃ n, n = K5 + K9 := ⟨_, rfl⟩
  refine ⟨n, ?_⟩
  replace h5 := h5 n (by omega)
  replace h9 := h9 n (by omega)
  simp only at h5 h9
  simp only [observatorylaw24_CadenceWindows.f, observatorylaw24_head.f, observatoryref24_Few.f, Option.bind_some, h5, h9]
  split
  · unfold winV rdyV
    by_cases v : CB l a c0 c1 c2 c3 = true
    · cases c3
      · obtain ⟨v', i1, i2, i3, i4, i5, i6, i7⟩ := CB_false v
        have b := VB_bd v'
        have o := VB_ok v' i1 i2
        rw [if_pos v]
        simp only [v, true_and, if_neg (show ¬ (false = true) by simp)]
        by_cases z : c0 + c1 = 0
        · simp only [if_pos z]
          by_cases hm : 0 ≤ m
          · by_cases hm2 : m ≤ 38399 <;> simp [hm, hm2]
          · simp [hm]
        · simp only [if_neg z]
          by_cases e : c2 + (rd_T35 l c0).f1 > 38399
          · simp only [if_pos e]
            have : (if 0 ≤ m ∧ m ≤ 38399 then (if m < c2 + (rd_T35 l c0).f1 then (16 : Int) else if c2 + (rd_T35 l c0).f2 < m then 17 else 0) else 1) ≠ 0 := by
              repeat' split
              all_goals omega
            simp [this]
          · simp only [if_neg e, if_true]
            rw [if_neg (by omega), if_neg (by unfold mn; split <;> omega), if_neg (by unfold mn; split <;> omega)]
            by_cases q1 : c2 + (rd_T35 l c0).f1 ≤ m
            · rw [if_pos q1]
              by_cases q2 : m ≤ mn (c2 + (rd_T35 l c0).f2) 38399
              · have q2' : m ≤ c2 + (rd_T35 l c0).f2 ∧ m ≤ 38399 := by unfold mn at q2; split at q2 <;> omega
                rw [if_pos (by omega), if_neg (by omega), if_neg (by omega), decide_eq_true q2]
                rfl
              · have q2' : ¬ (m ≤ c2 + (rd_T35 l c0).f2 ∧ m ≤ 38399) := by unfold mn at q2; split at q2 <;> omega
                have : (if 0 ≤ m ∧ m ≤ 38399 then (if m < c2 + (rd_T35 l c0).f1 then (16 : Int) else if c2 + (rd_T35 l c0).f2 < m then 17 else 0) else 1) ≠ 0 := by
                  repeat' split
                  all_goals omega
                rw [decide_eq_false q2]
                simp [this]
            · rw [if_neg q1]
              have : (if 0 ≤ m ∧ m ≤ 38399 then (if m < c2 + (rd_T35 l c0).f1 then (16 : Int) else if c2 + (rd_T35 l c0).f2 < m then 17 else 0) else 1) ≠ 0 := by
                repeat' split
                all_goals omega
              simp [this]
      · rw [if_pos v]
        simp only [v, true_and, if_true]
        by_cases hm : 0 ≤ m ∧ m ≤ 38399
        · simp [hm]
        · simp [hm]
    · rw [if_neg v]
      simp [v]
  · rfl

theorem few_no {l : List S35} {a : Int} (h : ¬ l.length ≤ 50) : observatoryref24_Few.f l a = some false := by
  unfold observatoryref24_Few.f
  rw [decide_eq_false (by omega)]
theorem few_yes {l : List S35} {a : Int} (h : l.length ≤ 50) : observatoryref24_Few.f l a = some true := by
  unfold observatoryref24_Few.f
  rw [decide_eq_true (by omega)]
theorem CadenceWindows_law (l : List S35) (a : Int) (c0 c1 c2 : Int) (c3 : Bool) (m : Int) : ∃ k, observatorylaw24_CadenceWindows.f k l a c0 c1 c2 c3 m = some true := by
  by_cases h : l.length ≤ 50
  · exact windows_pure l a c0 c1 c2 c3 m (by omega)
  · refine ⟨0, ?_⟩
    simp only [observatorylaw24_CadenceWindows.f, observatorylaw24_head.f, few_no h, Option.bind_some]
    rfl
end Go.Proofs.Ytefaemikfihdeaa.Px
