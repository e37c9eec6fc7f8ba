/- The plain law PreemptMore. -/
import Derived.Test.YtmndechaeaidcaaPlC
import Derived.Test.YtmndechaeaidcaaPxx23
namespace Go.Proofs.Ytmndechaeaidcaa.Px
open Go.RowKit Go.Proofs.YtmndechaeaidcaaW.PrintWords Go.Proofs.YtmndechaeaidcaaW.PrintLast Go.Proofs.YtmndechaeaidcaaW.PrintMore
set_option linter.unusedVariables false
set_option linter.unusedSimpArgs false

def moreV : List Bool → List Bool → Bool
  | a :: p, b :: q => if a = b then moreV p q else b
  | _, _ => true
theorem more_run {win b1 b2 : Int} (h : b1 ≤ b2) : ∀ (l cur : List S37), moreV (runV win b1 cur l) (runV win b2 cur l) = true
  | [], _ => rfl
  | x :: l, cur => by
    unfold runV
    by_cases c1 : sumC (keep (x.f0 - win) cur) + x.f1 > b1
    · by_cases c2 : sumC (keep (x.f0 - win) cur) + x.f1 > b2
      · rw [if_pos c1, if_pos c2]
        show moreV _ _ = true
        simp only [moreV, if_true]
        exact more_run h l _
      · rw [if_pos c1, if_neg c2]
        rfl
    · rw [if_neg c1, if_neg (by omega)]
      simp only [moreV, if_true]
      exact more_run h l _
theorem rdb_drop (l : List Bool) (i : Nat) (h : i < l.length) : l.drop i = rdOf false l (i : Int) :: l.drop (i + 1) := by
  rw [List.drop_eq_getElem_cons h]
  congr 1
  simp [rdOf, List.getD, h]
theorem more_l0 (l : List S37) (a b : List Bool) (hl : l.length ≤ 1000) (ha : a.length = l.length) (hb : b.length = l.length) : ∀ (d i : Nat), i + d = l.length → Ev (fun k => observatorylaw40_PreemptMore.l0 k l true a b (i : Int)) (moreV (a.drop i) (b.drop i))
  | 0, i, h => by
    refine Ev.step (f := fun _ => some (moreV (a.drop i) (b.drop i))) (fun k => ?_) (Ev.now _)
    simp only [observatorylaw40_PreemptMore.l0]
    rw [if_neg (by omega), List.drop_of_length_le (show a.length ≤ i by omega)]
    rfl
  | d + 1, i, h => by
    have ih := more_l0 l a b hl ha hb d (i + 1) (by omega)
    rw [rdb_drop a i (by omega), rdb_drop b i (by omega)]
    generalize h1 : rdOf false a (i : Int) = x
    generalize h2 : rdOf false b (i : Int) = y
    by_cases c : x = y
    · refine Ev.step (f := fun k => observatorylaw40_PreemptMore.l0 k l true a b ((i + 1 : Nat) : Int)) (fun k => ?_) (by simp only [moreV, if_pos c]; exact ih)
      simp only [observatorylaw40_PreemptMore.l0, h1, h2]
      rw [if_pos (by omega), if_pos (by omega), if_pos (by omega), if_pos (by omega), if_neg (by simpa using c), wr (x := (i : Int) + 1) (by omega) (by omega)]
      rfl
    · refine Ev.step (f := fun _ => some y) (fun k => ?_) (by simp only [moreV, if_neg c]; exact Ev.now _)
      simp only [observatorylaw40_PreemptMore.l0, h1, h2]
      rw [if_pos (by omega), if_pos (by omega), if_pos (by omega), if_pos (by omega), if_pos (by simpa using c)]
      rfl
theorem more_law (l : List S37) (win budget by_ : Int) (hb : -9223372036854775808 ≤ budget) (h1 : 0 ≤ by_) (h2 : by_ ≤ 65535) : ∃ k, observatorylaw40_PreemptMore.f k l win budget by_ = some true := by
  by_cases hl : l.length ≤ 60
  · by_cases hbd : budget ≤ 1000000
    · have e1 : wrap64 (budget + wrap64 by_) = budget + by_ := by rw [wr (x := by_) (by omega) (by omega), wr (by omega) (by omega)]
      by_cases c1 : (VL l && LM win budget) = true
      · by_cases c2 : (VL l && LM win (budget + by_)) = true
        · obtain ⟨K, hK⟩ := more_l0 l (runV win budget [] l) (runV win (budget + by_) [] l) (by omega) (runV_len _ _ _ _) (runV_len _ _ _ _) l.length 0 (by omega)
          have hK' : observatorylaw40_PreemptMore.l0 K l true (runV win budget [] l) (runV win (budget + by_) [] l) 0 = some true := by
            have := hK K (Nat.le_refl _)
            simp only [List.drop_zero, more_run (show budget ≤ budget + by_ by omega)] at this
            exact this
          refine ⟨K + 3, ?_⟩
          simp only [observatorylaw40_PreemptMore.f, observatorylaw40_head.f, Option.bind_some, observatorylaw40_PreemptMore.j0, observatorylaw40_PreemptMore.j1, observatorylaw40_PreemptMore.j2, e1, preempt_Run.f, if_pos c1, if_pos c2, runV_len]
          rw [if_neg (by omega)]
          simp [hK', show ¬ (budget > 1000000) by omega]
        · refine ⟨3, ?_⟩
          simp only [observatorylaw40_PreemptMore.f, observatorylaw40_head.f, Option.bind_some, observatorylaw40_PreemptMore.j0, observatorylaw40_PreemptMore.j1, e1, preempt_Run.f, if_pos c1, if_neg c2]
          rw [if_neg (by omega)]
          simp [show ¬ (budget > 1000000) by omega]
      · refine ⟨3, ?_⟩
        simp only [observatorylaw40_PreemptMore.f, observatorylaw40_head.f, Option.bind_some, observatorylaw40_PreemptMore.j0, observatorylaw40_PreemptMore.j1, e1, preempt_Run.f, if_neg c1]
        rw [if_neg (by omega)]
        simp [show ¬ (budget > 1000000) by omega]
    · refine ⟨1, ?_⟩
      simp only [observatorylaw40_PreemptMore.f, observatorylaw40_head.f, Option.bind_some, observatorylaw40_PreemptMore.j0]
      rw [if_neg (by omega)]
      simp [show budget > 1000000 by omega]
  · refine ⟨1, ?_⟩
    simp only [observatorylaw40_PreemptMore.f, observatorylaw40_head.f, Option.bind_some, observatorylaw40_PreemptMore.j0]
    rw [if_pos (by omega)]
    rfl
end Go.Proofs.Ytmndechaeaidcaa.Px
