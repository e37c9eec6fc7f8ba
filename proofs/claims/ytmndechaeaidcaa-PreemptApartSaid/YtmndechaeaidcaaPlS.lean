/- The plain law PreemptScales. -/
import Derived.Test.YtmndechaeaidcaaPlC
import Derived.Test.YtmndechaeaidcaaPxx25
namespace Go.Proofs.Ytmndechaeaidcaa.Px
open Go.RowKit Go.Proofs.YtmndechaeaidcaaW.PrintWords Go.Proofs.YtmndechaeaidcaaW.PrintLast Go.Proofs.YtmndechaeaidcaaW.PrintMore
set_option linter.unusedVariables false
set_option linter.unusedSimpArgs false

theorem bools_l0 (a : List Bool) (hl : a.length ≤ 140737488351232) : ∀ (d i : Nat), i + d = a.length → Ev (fun k => observatoryref40_Bools.l0 k a a (i : Int)) true
  | 0, i, h => by
    refine Ev.step (f := fun _ => some true) (fun k => ?_) (Ev.now _)
    simp only [observatoryref40_Bools.l0]
    rw [if_neg (by omega)]
  | d + 1, i, h => by
    refine Ev.step (f := fun k => observatoryref40_Bools.l0 k a a ((i + 1 : Nat) : Int)) (fun k => ?_) (bools_l0 a hl d (i + 1) (by omega))
    simp only [observatoryref40_Bools.l0]
    rw [if_pos (by omega), if_pos (by omega), if_pos (by omega), if_neg (by simp), wr (x := (i : Int) + 1) (by omega) (by omega)]
    rfl
theorem bools_ev (a : List Bool) (hl : a.length ≤ 140737488351232) : Ev (fun k => observatoryref40_Bools.f k a a) true := by
  have h := bools_l0 a hl a.length 0 (by omega)
  simpa [observatoryref40_Bools.f] using h
/-- Moved, and with costs multiplied. -/
def sc (k t : Int) (x : S37) : S37 := ⟨x.f0 + t, k * x.f1⟩
theorem sum_sc (k t : Int) : ∀ l : List S37, sumC (l.map (sc k t)) = k * sumC l
  | [] => by simp [sumC]
  | x :: l => by
    simp only [List.map_cons, sumC, sum_sc k t l, sc]
    rw [Int.mul_add]
theorem keep_sc (k t T : Int) : ∀ l : List S37, keep (T + t) (l.map (sc k t)) = (keep T l).map (sc k t)
  | [] => rfl
  | x :: l => by
    simp only [List.map_cons]
    by_cases c : x.f0 ≤ T
    · rw [show keep T (x :: l) = keep T l from if_pos c, show keep (T + t) (sc k t x :: l.map (sc k t)) = keep (T + t) (l.map (sc k t)) from if_pos (by simp only [sc]; omega)]
      exact keep_sc k t T l
    · rw [show keep T (x :: l) = x :: l from if_neg c, show keep (T + t) (sc k t x :: l.map (sc k t)) = sc k t x :: l.map (sc k t) from if_neg (by simp only [sc]; omega)]
      rfl
theorem run_sc {win b k t : Int} (hk : 1 ≤ k) : ∀ (l cur : List S37), runV win (k * b) (cur.map (sc k t)) (l.map (sc k t)) = runV win b cur l
  | [], _ => rfl
  | x :: l, cur => by
    have e1 : keep ((sc k t x).f0 - win) (cur.map (sc k t)) = (keep (x.f0 - win) cur).map (sc k t) := by
      have := keep_sc k t (x.f0 - win) cur
      rw [← this]
      congr 1
      simp only [sc]
      omega
    have e2 : sumC ((keep (x.f0 - win) cur).map (sc k t)) + (sc k t x).f1 = k * (sumC (keep (x.f0 - win) cur) + x.f1) := by
      rw [sum_sc, Int.mul_add]
      rfl
    have e3 : k * (sumC (keep (x.f0 - win) cur) + x.f1) > k * b ↔ sumC (keep (x.f0 - win) cur) + x.f1 > b :=
      ⟨fun h => by
        by_cases h1 : b < sumC (keep (x.f0 - win) cur) + x.f1
        · exact h1
        · exact absurd (Int.mul_le_mul_of_nonneg_left (show sumC (keep (x.f0 - win) cur) + x.f1 ≤ b by omega) (show 0 ≤ k by omega)) (by omega), fun h => Int.mul_lt_mul_of_pos_left h (by omega)⟩
    simp only [List.map_cons]
    unfold runV
    rw [e1, e2]
    by_cases c : sumC (keep (x.f0 - win) cur) + x.f1 > b
    · rw [if_pos c, if_pos (e3.mpr c), run_sc hk l]
    · rw [if_neg c, if_neg (fun h => c (e3.mp h)), show (keep (x.f0 - win) cur).map (sc k t) ++ [sc k t x] = (keep (x.f0 - win) cur ++ [x]).map (sc k t) from by simp, run_sc hk l]
theorem scales_l0 (l : List S37) (win b t kk : Int) (hl : l.length ≤ 60) (ho : Ok l) (t0 : -32768 ≤ t) (t1 : t ≤ 32767) (k0 : 1 ≤ kk) (k1 : kk ≤ 20) (b0 : 0 ≤ b) (b1 : b ≤ 1000000) : ∀ (d i : Nat), i + d = l.length →
    Ev (fun k => observatorylaw40_PreemptScales.l0 k l win b t true (runV win b [] l) kk ((l.take i).map (sc kk t)) (i : Int)) true
  | 0, i, h => by
    rw [List.take_of_length_le (by omega)]
    have hkb : 0 ≤ kk * b := Int.mul_nonneg (by omega) b0
    have hkb2 : kk * b ≤ 20 * 1000000 := Int.mul_le_mul k1 b1 b0 (by omega)
    obtain ⟨K, hK⟩ := bools_ev (runV win b [] l) (by rw [runV_len]; omega)
    refine ⟨K + 1, fun k hk => ?_⟩
    obtain ⟨n, rfl⟩ : ∃ n, k = n + 1 := ⟨k - 1, by omega⟩
    have e := hK n (by omega)
    simp only at e
    simp only [observatorylaw40_PreemptScales.l0]
    rw [if_neg (by omega), wr (x := kk * b) (by omega) (by omega)]
    by_cases c : (VL (l.map (sc kk t)) && LM win (kk * b)) = true
    · have er : runV win (kk * b) [] (l.map (sc kk t)) = runV win b [] l := run_sc k0 l []
      simp only [preempt_Run.f, if_pos c, Option.bind_some, er, e]
      rfl
    · simp only [preempt_Run.f, if_neg c, Option.bind_some]
      rfl
  | d + 1, i, h => by
    have hi : i < l.length := by omega
    have hx := ho.rd (i := (i : Int)) (by omega) (by omega)
    have ht : l.take (i + 1) = l.take i ++ [rd_T37 l (i : Int)] := by
      rw [List.take_succ_eq_append_getElem hi]
      simp [rd_T37, List.getD, hi]
    have ih := scales_l0 l win b t kk hl ho t0 t1 k0 k1 b0 b1 d (i + 1) (by omega)
    rw [ht] at ih
    generalize hxx : rd_T37 l (i : Int) = x at hx ih
    have hkx : 0 ≤ kk * x.f1 := Int.mul_nonneg (by omega) hx.2.2.1
    have hkx2 : kk * x.f1 ≤ 20 * 1000 := Int.mul_le_mul k1 hx.2.2.2 hx.2.2.1 (by omega)
    refine Ev.step (f := fun k => observatorylaw40_PreemptScales.l0 k l win b t true (runV win b [] l) kk ((l.take i ++ [x]).map (sc kk t)) ((i + 1 : Nat) : Int)) (fun k => ?_) ih
    simp only [observatorylaw40_PreemptScales.l0, hxx]
    rw [if_pos (by omega), if_pos (by omega), if_pos (by rw [List.length_map, List.length_take]; omega), wr (x := t) (by omega) (by omega), wr (x := x.f0 + t) (by omega) (by omega), wr (x := kk * x.f1) (by omega) (by omega), wr (x := (i : Int) + 1) (by omega) (by omega), List.map_append]
    rfl
theorem scales_law (l : List S37) (win b fac t : Int) (hf : 0 ≤ fac ∧ fac ≤ 255) (ht : -32768 ≤ t ∧ t ≤ 32767) : ∃ k, observatorylaw40_PreemptScales.f k l win b fac t = some true := by
  by_cases hl : l.length ≤ 60
  · by_cases c1 : (VL l && LM win b) = true
    · have hv : VL l = true := by simp only [Bool.and_eq_true] at c1; exact c1.1
      have hm : LM win b = true := by simp only [Bool.and_eq_true] at c1; exact c1.2
      obtain ⟨hS, hO, _⟩ := VL_iff.mp hv
      obtain ⟨w1, w2, b1, b2⟩ := LM_bd hm
      have e0 : 0 ≤ Int.tmod fac 20 := Int.tmod_nonneg _ hf.1
      have e1 : Int.tmod fac 20 < 20 := Int.tmod_lt_of_pos _ (by omega)
      obtain ⟨K, hK⟩ := scales_l0 l win b t (1 + Int.tmod fac 20) hl hO ht.1 ht.2 (by omega) (by omega) b1 b2 l.length 0 (by omega)
      have hK' : observatorylaw40_PreemptScales.l0 K l win b t true (runV win b [] l) (1 + Int.tmod fac 20) [] 0 = some true := hK K (Nat.le_refl _)
      refine ⟨K + 1, ?_⟩
      simp only [observatorylaw40_PreemptScales.f, observatorylaw40_head.f, Option.bind_some, preempt_Run.f, if_pos c1, observatorylaw40_PreemptScales.j0]
      rw [if_neg (by omega), wr (x := fac) (by omega) (by omega), wr (x := 1 + Int.tmod fac 20) (by omega) (by omega)]
      simp [hK']
    · refine ⟨1, ?_⟩
      simp only [observatorylaw40_PreemptScales.f, observatorylaw40_head.f, Option.bind_some, preempt_Run.f, if_neg c1, observatorylaw40_PreemptScales.j0]
      split <;> rfl
  · refine ⟨1, ?_⟩
    simp only [observatorylaw40_PreemptScales.f, observatorylaw40_head.f, Option.bind_some, observatorylaw40_PreemptScales.j0, preempt_Run.f]
    rw [if_pos (by omega)]
    rfl
end Go.Proofs.Ytmndechaeaidcaa.Px
