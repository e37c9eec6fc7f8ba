/- What is valid, plainly; what Worst, Allow and Run compute; Worst, walked. -/
import Derived.Test.YtmndechaeaidcaaExtC
import Derived.Test.YtmndechaeaidcaaPxx2
import Derived.Test.YtmndechaeaidcaaPxx3
namespace Go.Proofs.Ytmndechaeaidcaa.Px
open Go.RowKit Go.Proofs.YtmndechaeaidcaaW.PrintWords Go.Proofs.YtmndechaeaidcaaW.PrintLast Go.Proofs.YtmndechaeaidcaaW.PrintMore
attribute [local go_sem] max2_int min2_int max_two min_two max_three min_three max_four min_four World.size_setCell
attribute [local go_sem ↓] Go.wp_at_zero Go.wp_at_succ
set_option linter.unusedVariables false
set_option linter.unusedSimpArgs false

theorem wr {x : Int} (h0 : -9223372036854775808 ≤ x) (h1 : x ≤ 9223372036854775807) : wrap64 x = x := by unfold wrap64; omega
theorem in_f (a b : Int) : preempt_in.f a b = some (decide (0 ≤ a ∧ a ≤ b)) := by
  unfold preempt_in.f
  by_cases h : 0 ≤ a <;> simp [h]
def okI (t : Int) (x : S37) : Bool := decide (0 ≤ x.f0 ∧ x.f0 ≤ 38399 ∧ 0 ≤ x.f1 ∧ x.f1 ≤ 1000 ∧ t ≤ x.f0)
def srt (t : Int) : List S37 → Bool
  | [] => true
  | x :: l => okI t x && srt x.f0 l
def VL (l : List S37) : Bool := srt 0 l && decide (l.length ≤ 200)
def LM (win budget : Int) : Bool := decide (0 < win ∧ win ≤ 38400 ∧ 0 ≤ budget ∧ budget ≤ 1000000)
theorem rd_drop (l : List S37) (i : Nat) (h : i < l.length) : l.drop i = rd_T37 l (i : Int) :: l.drop (i + 1) := by
  rw [List.drop_eq_getElem_cons h]
  congr 1
  simp [rd_T37, List.getD, h]
theorem limits_f (a b : Int) : preempt_limits.f a b = some (LM a b) := by
  unfold preempt_limits.f LM
  simp only [in_f, Option.bind_some]
  by_cases c : a > 0
  · rw [if_pos c]
    by_cases c2 : 0 ≤ a ∧ a ≤ 38400
    · rw [if_pos (decide_eq_true c2)]
      congr 1
      exact decide_eq_decide.mpr (by omega)
    · rw [if_neg (by simpa using c2)]
      congr 1
      exact (decide_eq_false (by omega)).symm
  · rw [if_neg c]
    congr 1
    exact (decide_eq_false (by omega)).symm
theorem valid_l0 (l : List S37) (hl : l.length ≤ 9223372036854775807) : ∀ (d i : Nat) (t : Int), i + d = l.length → Ev (fun k => preempt_valid.l0 k l t l (l.length : Int) (i : Int)) (srt t (l.drop i) && decide (l.length ≤ 200))
  | 0, i, t, h => by
    refine Ev.step (f := fun _ => some (srt t (l.drop i) && decide (l.length ≤ 200))) (fun k => ?_) (Ev.now _)
    simp only [preempt_valid.l0]
    rw [if_neg (by omega), List.drop_of_length_le (by omega)]
    simp only [srt, Bool.true_and]
    congr 1
    exact decide_eq_decide.mpr (by omega)
  | d + 1, i, t, h => by
    have hi : i < l.length := by omega
    have ih := valid_l0 l hl d (i + 1) (rd_T37 l (i : Int)).f0 (by omega)
    rw [rd_drop l i hi]
    simp only [srt]
    generalize hx : rd_T37 l (i : Int) = x at ih ⊢
    by_cases ok : okI t x = true
    · rw [ok, Bool.true_and]
      refine Ev.step (f := fun k => preempt_valid.l0 k l x.f0 l (l.length : Int) ((i + 1 : Nat) : Int)) (fun k => ?_) ih
      have o := of_decide_eq_true ok
      simp only [preempt_valid.l0, in_f, Option.bind_some, hx]
      rw [if_pos (by omega), if_pos (by omega), if_pos (by omega), if_pos (decide_eq_true (by omega)), if_pos (decide_eq_true (by omega)), if_neg (by omega), wr (by omega) (by omega)]
      rfl
    · have o : ¬ (0 ≤ x.f0 ∧ x.f0 ≤ 38399 ∧ 0 ≤ x.f1 ∧ x.f1 ≤ 1000 ∧ t ≤ x.f0) := fun h => ok (decide_eq_true h)
      rw [show okI t x = false by simpa using ok, Bool.false_and, Bool.false_and]
      refine Ev.step (f := fun _ => some false) (fun k => ?_) (Ev.now _)
      simp only [preempt_valid.l0, in_f, Option.bind_some, hx]
      rw [if_pos (by omega), if_pos (by omega), if_pos (by omega)]
      by_cases c1 : 0 ≤ x.f0 ∧ x.f0 ≤ 38399
      · rw [if_pos (decide_eq_true c1)]
        by_cases c2 : 0 ≤ x.f1 ∧ x.f1 ≤ 1000
        · rw [if_pos (decide_eq_true c2), if_pos (by omega)]
        · rw [if_neg (by simpa using c2)]
      · rw [if_neg (by simpa using c1)]
theorem valid_ev (l : List S37) (hl : l.length ≤ 9223372036854775807) : Ev (fun k => preempt_valid.f k l) (VL l) := valid_l0 l hl l.length 0 0 (by omega)
theorem srt_ok : ∀ {l : List S37} {t : Int}, srt t l = true → Ok l
  | [], _, _ => fun x hx => by cases hx
  | y :: l, t, h => by
    simp only [srt, Bool.and_eq_true] at h
    intro x hx
    rcases List.mem_cons.mp hx with rfl | hx
    · have := of_decide_eq_true h.1
      omega
    · exact srt_ok h.2 x hx
theorem VL_ok {l : List S37} (h : VL l = true) : Ok l ∧ l.length ≤ 200 := by
  unfold VL at h
  simp only [Bool.and_eq_true, decide_eq_true_eq] at h
  exact ⟨srt_ok h.1, h.2⟩
theorem LM_bd {a b : Int} (h : LM a b = true) : 1 ≤ a ∧ a ≤ 38400 ∧ 0 ≤ b ∧ b ≤ 1000000 := by
  have := of_decide_eq_true h
  omega
theorem keep_ok {t : Int} : ∀ {l : List S37}, Ok l → Ok (keep t l)
  | [], h => h
  | x :: l, h => by
    unfold keep
    split
    · exact keep_ok h.tail
    · exact h
theorem keep_len (t : Int) : ∀ l : List S37, (keep t l).length ≤ l.length
  | [] => Nat.le_refl _
  | x :: l => by
    unfold keep
    split
    · have := keep_len t l
      simp only [List.length_cons]
      omega
    · exact Nat.le_refl _
theorem Ok.snoc {l : List S37} {x : S37} (h : Ok l) (hx : 0 ≤ x.f0 ∧ x.f0 ≤ 38399 ∧ 0 ≤ x.f1 ∧ x.f1 ≤ 1000) : Ok (l ++ [x]) := fun y hy => by
  rcases List.mem_append.mp hy with hy | hy
  · exact h y hy
  · obtain rfl : y = x := by simpa using hy
    exact hx
theorem sumC_snoc (x : S37) : ∀ l : List S37, sumC (l ++ [x]) = sumC l + x.f1
  | [] => by simp [sumC]
  | y :: l => by
    simp only [List.cons_append, sumC, sumC_snoc x l]
    omega
theorem Ok.rd {l : List S37} (h : Ok l) {i : Int} (h0 : 0 ≤ i) (h1 : i < l.length) : 0 ≤ (rd_T37 l i).f0 ∧ (rd_T37 l i).f0 ≤ 38399 ∧ 0 ≤ (rd_T37 l i).f1 ∧ (rd_T37 l i).f1 ≤ 1000 := by
  refine h _ ?_
  unfold rd_T37
  rw [List.getD_eq_getElem?_getD, List.getElem?_eq_getElem (by omega : i.toNat < l.length)]
  exact List.getElem_mem _
def worstV (win : Int) : List S37 → Int → List S37 → Int
  | _, worst, [] => worst
  | cur, worst, x :: l => worstV win (keep (x.f0 - win) (cur ++ [x])) (mx worst (sumC (keep (x.f0 - win) (cur ++ [x])))) l
def runV (win budget : Int) : List S37 → List S37 → List Bool
  | _, [] => []
  | cur, x :: l => if sumC (keep (x.f0 - win) cur) + x.f1 > budget then false :: runV win budget (keep (x.f0 - win) cur) l else true :: runV win budget (keep (x.f0 - win) cur ++ [x]) l
def preempt_Worst.f (k : Nat) (l : List S37) (win : Int) : Option (Int × Int) := some (if (VL l && LM win 0) = true then (worstV win [] 0 l, 0) else (0, 1))
def preempt_Run.f (k : Nat) (win budget : Int) (l : List S37) : Option (List Bool × Int) := some (if (VL l && LM win budget) = true then (runV win budget [] l, 0) else ([], 1))
def preempt_Allow.f (k : Nat) (l : List S37) (win budget at_ cost : Int) : Option Int :=
  some (if (VL l && (decide (l.length < 200) && (LM win budget && (decide (0 ≤ at_ ∧ at_ ≤ 38399) && decide (0 ≤ cost ∧ cost ≤ 1000))))) = true then (if 0 < l.length ∧ at_ < (rd_T37 l ((l.length : Int) - 1)).f0 then 13 else if sumC (keep (at_ - win) l) + cost > budget then 23 else 0) else 1)
theorem preempt_Worst.mono : ∀ a0 a1 k, LeO (preempt_Worst.f k a0 a1) (preempt_Worst.f (k + 1) a0 a1) := fun _ _ _ => LeO.refl _
theorem preempt_Run.mono : ∀ a0 a1 a2 k, LeO (preempt_Run.f k a0 a1 a2) (preempt_Run.f (k + 1) a0 a1 a2) := fun _ _ _ _ => LeO.refl _
theorem preempt_Allow.mono : ∀ a0 a1 a2 a3 a4 k, LeO (preempt_Allow.f k a0 a1 a2 a3 a4) (preempt_Allow.f (k + 1) a0 a1 a2 a3 a4) := fun _ _ _ _ _ _ => LeO.refl _
end Go.Proofs.Ytmndechaeaidcaa.Px
